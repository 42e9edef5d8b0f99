/-
  PRINTED BY PROGRAM: for each function its condition (vc), and that this suffices (ok).
-/
import Derived.Test.YteohbfaechfliaaQSlotsAllGT
namespace Go.Proofs.Yteohbfaechfliaa
open Go.RowKit
set_option linter.unusedVariables false
set_option maxHeartbeats 1000000
set_option maxRecDepth 10000
def law00_Small.vc (c : Int) (d : Str) (f : Str) (g : Sl) (h : Sl) (R : Value → World → Prop) (w : World) : Prop :=
∀ (i : World) (b : Nat) (a : Nat), New w b i → New w a i → b ≠ a → Chg [] w i →
∀ (_ : Box i a 3 [.int .i64 0]),
CallK Try.prog 66 #[.agg #[.int .i64 c, .string (Bs d), .string (Bs f), Sl.v g, Sl.v h], .int .i64 0, .pointer (some (⟨a, 0, none⟩ : Addr))] i [b] (fun v n => ∃ (j : Bool), v = .bool j ∧
R (.bool j) n)
theorem law00_Small.ok (c : Int) (d : Str) (f : Str) (g : Sl) (h : Sl) {R : Value → World → Prop} {w : World} (o : law00_Small.vc c d f g h R w) : Calls Try.prog 42 #[.agg #[.int .i64 c, .string (Bs d), .string (Bs f), Sl.v g, Sl.v h]] w (Ret R) := by
 refine enter [.agg #[.int .i64 c, .string (Bs d), .string (Bs f), Sl.v g, Sl.v h]] Try.func42 rfl Try.ntmps42 rfl ?_
 intro a0 p
 unfold law00_Small.vc at o
 refine wp_seq (wp_region_lit ?_)
 refine sq (opk_new (fun B => .pointer (some ⟨B, 0, none⟩)) p rfl (r_box (cs := [.int .i64 c, .string (Bs d), .string (Bs f), Sl.v g, Sl.v h]) (p.get rfl) rfl) fun a4 q b ag ah r ai _ => ?_)
 have aj : New w b q := ah
 have s : Chg [] w q := ag
 refine sqv ai rfl (r_assign rfl) fun _ ak => sq_end ?_
 have al := ak.kp [(1, pB b 0)] rfl
 refine then_normal (wp_seq (wp_region_lit ?_))
 refine sq (opk_new (fun B => .pointer (some ⟨B, 0, none⟩)) al rfl (r_alloc (cs := [.int .i64 0]) ti_3 rfl) fun aH aI a l t u x _ => ?_)
 have y : b ≠ a := Nat.ne_of_lt (Nat.lt_of_lt_of_le r.lt t.ge)
 have z := New.of s t
 have am := r.ext l
 have an := s.more l
 have ao := aj.up l.size
 refine sq (opk_store x u (r_store (vs := [.int .i64 0]) (x.get rfl) rfl rfl ti_3 u rfl (ones_all _ rfl)) fun aJ i k ap aq => ?_)
 have ar : Box i a 3 [.int .i64 0] := ap
 have aa := am.keep k (by simpa using y)
 have au := an.storeNew z k
 have av := ao.up k.size
 have ax := z.up k.size
 refine sq_end ?_
 have ab := aq.kp [(1, pB b 0), (3, pB a 0)] rfl
 refine then_normal (wp_seq (wp_region_lit ?_))
 refine sqv ab rfl (r_loadN (cs := [.int .i64 c, .string (Bs d), .string (Bs f), Sl.v g, Sl.v h]) Try.underlying26 rfl ti_26 (ab.get rfl) (aa.part 0 _ rfl)) fun _ m => ?_
 have ay := o i b a av ax y au
 have az := ay ar
 refine sq (opk_call m rfl (r_call (args := #[.agg #[.int .i64 c, .string (Bs d), .string (Bs f), Sl.v g, Sl.v h], .int .i64 0, pB a 0]) Try.func66 (by decide) rfl (map_arr (ml_cons (m.get rfl) (ml_cons rfl (ml_cons (m.get rfl) ml_nil)))) rfl) az fun aK aL n ad _ aA aM aB => ?_)
 obtain ⟨j, rfl, aC⟩ := aB
 have aN := aa.kept aA (.head _)
 refine sqv ad rfl (r_assign (ad.get rfl)) fun _ aD => sq_end ?_
 have af := aD.kp [(2, .bool j)] rfl
 refine then_normal ?_
 refine wp_ret ?_
 exact res_all (vs := [.bool j]) rfl af ⟨res_of_tmp af rfl, trivial⟩ aC
def law00_Attrs.vc (a : Sl) (R : Value → World → Prop) (w : World) : Prop :=
RunK Try.prog (Builtin.append_ #[23, 23] 23 #[Sl.v Sl.nil, Sl.v a]) w [] (fun v c => ∃ (b : Sl), v = Sl.v b ∧
R (Sl.v b) c)
theorem law00_Attrs.ok (a : Sl) {R : Value → World → Prop} {w : World} (d : law00_Attrs.vc a R w) : Calls Try.prog 43 #[Sl.v a] w (Ret R) := by
 refine enter [Sl.v a] Try.func43 rfl Try.ntmps43 rfl ?_
 intro o j
 unfold law00_Attrs.vc at d
 refine wp_seq (wp_region_lit ?_)
 refine sqv j rfl (r_assign rfl) fun _ k => sq_end ?_
 have f := k.kp [(0, Sl.v a)] rfl
 refine then_normal (wp_seq (wp_region_lit ?_))
 refine sqv f rfl (r_move (f.get rfl)) fun _ g => ?_
 refine sq (opk_run g rfl (fun _ _ hr => r_append rfl (g.get rfl) hr) d fun p q c h _ r s l => ?_)
 obtain ⟨b, rfl, m⟩ := l
 refine sqv h rfl (r_assign (h.get rfl)) fun _ n => sq_end ?_
 have i := n.kp [(2, Sl.v b)] rfl
 refine then_normal ?_
 refine wp_ret ?_
 exact res_all (vs := [Sl.v b]) rfl i ⟨res_of_tmp i rfl, trivial⟩ m
def law00_Place.vc (b : Int) (a : Int) (R : Value → World → Prop) (w : World) : Prop :=
(a ≠ 0) ∧
(((b.tmod a) < 0) →
(I64 ((b.tmod a) + a)) ∧
R (.int .i64 ((b.tmod a) + a)) w) ∧
((¬ ((b.tmod a) < 0)) →
R (.int .i64 (b.tmod a)) w)
theorem law00_Place.ok (b : Int) (a : Int) {R : Value → World → Prop} {w : World} (g : law00_Place.vc b a R w) : Calls Try.prog 49 #[.int .i64 b, .int .i64 a] w (Ret R) := by
 refine enter [.int .i64 b, .int .i64 a] Try.func49 rfl Try.ntmps49 rfl ?_
 intro a0 u
 unfold law00_Place.vc at g
 refine wp_seq (wp_region_lit ?_)
 refine sqv u rfl (r_assign rfl) fun _ v => sq_end ?_
 have h := v.kp [(0, .int .i64 b), (1, .int .i64 a)] rfl
 refine then_normal (wp_seq (wp_region_lit ?_))
 refine sqv h rfl (r_move (h.get rfl)) fun _ i => sqv i rfl (r_move (i.get rfl)) fun _ d => ?_
 obtain ⟨x, j⟩ := g
 refine sqv d rfl (r_rem (d.get rfl) (d.get rfl) x) fun _ k => sqv k rfl (r_assign (k.get rfl)) fun _ y => sq_end ?_
 have l := y.kp [(1, .int .i64 a), (5, .int .i64 (b.tmod a))] rfl
 refine then_normal (wp_seq (wp_seq (wp_region_lit ?_)))
 refine sqv l rfl (r_move (l.get rfl)) fun _ m => sqv m rfl (r_lss (m.get rfl) rfl) fun _ z => sq_end ?_
 have c := z.kp [(1, .int .i64 a), (5, .int .i64 (b.tmod a)), (10, .bool (decide ((b.tmod a) < 0)))] rfl
 refine then_normal ?_
 refine wp_cond_split (c.get rfl) (fun hc => ?_) (fun hc => ?_)
 ·have aa := j.1 (of_decide_eq_true hc)
  clear hc
  refine wp_region_lit ?_
  refine sqv c rfl (r_move (c.get rfl)) fun _ n => sqv n rfl (r_move (n.get rfl)) fun _ f => ?_
  obtain ⟨ab, ad⟩ := aa
  refine sqv f rfl (r_addI (f.get rfl) (f.get rfl) ab) fun _ o => sqv o rfl (r_assign (o.get rfl)) fun _ af => sq_end ?_
  have p := af.kp [(5, .int .i64 ((b.tmod a) + a))] rfl
  refine then_normal (wp_seq (wp_region_lit ?_))
  refine sqv p rfl (r_move (p.get rfl)) fun _ q => sqv q rfl (r_assign (q.get rfl)) fun _ ag => sq_end ?_
  have r := ag.kp [(4, .int .i64 ((b.tmod a) + a))] rfl
  refine then_normal ?_
  refine wp_ret ?_
  exact res_all (vs := [.int .i64 ((b.tmod a) + a)]) rfl r ⟨res_of_tmp r rfl, trivial⟩ ad
 ·have ah := j.2 (of_decide_eq_false hc)
  clear hc
  refine wp_skip ?_
  refine then_normal (wp_seq (wp_region_lit ?_))
  refine sqv c rfl (r_move (c.get rfl)) fun _ s => sqv s rfl (r_assign (s.get rfl)) fun _ ai => sq_end ?_
  have t := ai.kp [(4, .int .i64 (b.tmod a))] rfl
  refine then_normal ?_
  refine wp_ret ?_
  exact res_all (vs := [.int .i64 (b.tmod a)]) rfl t ⟨res_of_tmp t rfl, trivial⟩ ah
def law00_small.vc (x : Int) (o : Str) (r : Str) (d : Sl) (p : Sl) (c : Int) (f : Addr) (R : Value → World → Prop) (w : World) : Prop :=
∀ (t : World) (i : Nat), New w i t → Chg [] w t →
∃ (aa : Int), (t.cell? f = some (.int .i64 aa)) ∧
(I64 (aa + 1)) ∧
∃ (z aj : Nat) (aB : TypeId) (ak : List Value), f = ⟨z, aj, none⟩ ∧ Box t z aB ak ∧ aj + 1 ≤ ak.length ∧ (∀ b ∈ [i], b ≠ z) ∧
(∀ u : World, Chg [z] t u → Box u z aB (putAt ak aj [.int .i64 (aa + 1)]) →
∃ (j : Int), (u.cell? f = some (.int .i64 j)) ∧
((((((400 < j) ∨ (70 < c)) ∨ (20 < (d.n : Int))) ∨ (200 < (o.length : Int))) ∨ (6000 < (r.length : Int))) →
R (.bool false) u) ∧
((((((¬ (400 < j)) ∧ (¬ (70 < c))) ∧ (¬ (20 < (d.n : Int)))) ∧ (¬ (200 < (o.length : Int)))) ∧ (¬ (6000 < (r.length : Int)))) →
∃ (ab : Int → World → Prop) (al : Int → World → Nat),
ab 0 u ∧
(∀ (k : Int) (q : World), ab k q →
((k < (d.n : Int)) →
((0 : Int) ≤ k ∧ k < (d.n : Int)) ∧ ∃ aC : Addr, d.a = some aC ∧
∃ (m : Str), (q.cell? ((aC.add (k.toNat * 2)).add 0) = some (.string (Bs m))) ∧
∃ aD : Addr, (((¬ (200 < (m.length : Int)))) → ((0 : Int) ≤ k ∧ k < (d.n : Int)) ∧  d.a = some aD) ∧
∃ (ad : Str), (((¬ (200 < (m.length : Int)))) → q.cell? ((aD.add (k.toNat * 2)).add 1) = some (.string (Bs ad))) ∧
(((200 < (m.length : Int)) ∨ (6000 < (ad.length : Int))) →
R (.bool false) q) ∧
(((¬ (200 < (m.length : Int))) ∧ (¬ (6000 < (ad.length : Int)))) →
(I64 (k + 1)) ∧
ab (k + 1) q ∧ al (k + 1) q < al k q)) ∧
((¬ (k < (d.n : Int))) →
∃ (af : Int → World → Prop) (am : Int → World → Nat),
af 0 q ∧
(∀ (l : Int) (y : World), af l y →
((l < (p.n : Int)) →
((0 : Int) ≤ l ∧ l < (p.n : Int)) ∧ ∃ aF : Addr, p.a = some aF ∧
∃ (an : Int) (ao : Str) (ap : Str) (aq : Sl) (ar : Sl), (Cells y (aF.add (l.toNat * 5)) [.int .i64 an, .string (Bs ao), .string (Bs ap), Sl.v aq, Sl.v ar]) ∧
(I64 (c + 1)) ∧
CallK Try.prog 66 #[.agg #[.int .i64 an, .string (Bs ao), .string (Bs ap), Sl.v aq, Sl.v ar], .int .i64 (c + 1), .pointer (some f)] y [i] (fun v ag => ∃ (ah : Bool), v = .bool ah ∧
((ah = false) →
R (.bool false) ag) ∧
((ah = true) →
(I64 (l + 1)) ∧
af (l + 1) ag ∧ am (l + 1) ag < am l y))) ∧
((¬ (l < (p.n : Int))) →
R (.bool true) y))))))
theorem law00_small.ok (x : Int) (o : Str) (r : Str) (d : Sl) (p : Sl) (c : Int) (f : Addr) {R : Value → World → Prop} {w : World} (aT : law00_small.vc x o r d p c f R w) : Calls Try.prog 66 #[.agg #[.int .i64 x, .string (Bs o), .string (Bs r), Sl.v d, Sl.v p], .int .i64 c, .pointer (some f)] w (Ret R) := by
 refine enter [.agg #[.int .i64 x, .string (Bs o), .string (Bs r), Sl.v d, Sl.v p], .int .i64 c, .pointer (some f)] Try.func66 rfl Try.ntmps66 rfl ?_
 intro a0 aU
 unfold law00_small.vc at aT
 refine wp_seq (wp_region_lit ?_)
 refine sq (opk_new (fun B => .pointer (some ⟨B, 0, none⟩)) aU rfl (r_box (cs := [.int .i64 x, .string (Bs o), .string (Bs r), Sl.v d, Sl.v p]) (aU.get rfl) rfl) fun a6 t i cf cg ch ci _ => ?_)
 have cj : New w i t := cg
 have ck : Chg [] w t := cf
 refine sqv ci rfl (r_assign rfl) fun _ cl => sq_end ?_
 have aV := cl.kp [(1, .int .i64 c), (2, .pointer (some f)), (3, pB i 0)] rfl
 refine then_normal (wp_seq (wp_region_lit ?_))
 refine sqv aV rfl (r_move (aV.get rfl)) fun _ aX => sqv aX rfl (r_nilCheck (aX.get rfl)) fun _ aY => ?_
 have cm := aT t i cj  ck
 obtain ⟨aa, cn, co⟩ := cm
 refine sqv aY rfl (r_load1 tU3 rfl (aY.get rfl) cn) fun _ aZ => ?_
 obtain ⟨cp, cq⟩ := co
 refine sqv aZ rfl (r_addI (aZ.get rfl) rfl cp) fun _ hA21 => sqv hA21 rfl (r_nilCheck (hA21.get rfl)) fun _ aG => ?_
 obtain ⟨z, aj, aB, ak, cr, a1, ct, cu, cv⟩ := cq
 refine sq (opk_store aG a1 (r_store (vs := [.int .i64 (aa + 1)]) (((aG.get rfl)).trans (congrArg (fun a => Value.pointer (some a)) cr)) (aG.get rfl) rfl ti_3 a1 (Nat.ble_eq_true_of_le ct) (ones_all _ rfl)) fun dD u a2 cx cy => ?_)
 have au := ch.keep a2 (by have := cu i (by simp); simpa using this)
 have cz := cv u a2 cx
 refine sq_end ?_
 have a3 := cy.kp [(1, .int .i64 c), (2, .pointer (some f)), (3, pB i 0)] rfl
 refine then_normal (wp_seq (wp_seq (wp_region_lit ?_)))
 refine sqv a3 rfl (r_move (a3.get rfl)) fun _ a4 => sqv a4 rfl (r_nilCheck (a4.get rfl)) fun _ a5 => ?_
 obtain ⟨j, cA, ht46⟩ := cz
 refine sqv a5 rfl (r_load1 tU3 rfl (a5.get rfl) cA) fun _ a7 => sqv a7 rfl (r_gtr (a7.get rfl) rfl) fun _ a8 => sqv a8 rfl (r_move (a8.get rfl)) fun _ a9 => ?_
 refine sq (opk_gval a9 rfl rfl (g := true) (e := (decide (400 < j))) rfl (fun hg => r_move (a9.get rfl)) fun dF ba _ => ?_)
 refine sq (opk_gval ba rfl rfl (g := true) (e := (decide (400 < j))) rfl (fun hg => r_gtr (cv_get (ba.get rfl) hg) rfl) fun dG aH _ => ?_)
 refine sqv aH rfl (r_pick_or (g := (true && ((decide (400 < j)) == false))) (aH.get rfl) (aH.get rfl) (fun he => g_mkf rfl he)) fun _ bb => sqv bb rfl (r_move (bb.get rfl)) fun _ bd => ?_
 refine sq (opk_gval bd rfl rfl (g := true) (e := ((decide (400 < j)) || (decide (70 < c)))) rfl (fun hg => r_fieldAddr (bd.get rfl) Try.underlying26 rfl ti_23 (by decide)) fun dH bf _ => ?_)
 refine sq (opk_gval bf rfl rfl (g := true) (e := ((decide (400 < j)) || (decide (70 < c)))) rfl (fun hg => r_load1 tU23 rfl (cv_get (bf.get rfl) hg) (au.cell 3 _ rfl)) fun dI bg _ => ?_)
 refine sq (opk_gval bg rfl rfl (g := true) (e := ((decide (400 < j)) || (decide (70 < c)))) rfl (fun hg => r_len (cv_get (bg.get rfl) hg) tU23) fun dJ bh _ => ?_)
 refine sq (opk_gval bh rfl rfl (g := true) (e := ((decide (400 < j)) || (decide (70 < c)))) rfl (fun hg => r_gtr (cv_get (bh.get rfl) hg) rfl) fun dK aI _ => ?_)
 refine sqv aI rfl (r_pick_or (g := (true && (((decide (400 < j)) || (decide (70 < c))) == false))) (aI.get rfl) (aI.get rfl) (fun he => g_mkf rfl he)) fun _ bi => sqv bi rfl (r_move (bi.get rfl)) fun _ bj => ?_
 refine sq (opk_gval bj rfl rfl (g := true) (e := (((decide (400 < j)) || (decide (70 < c))) || (decide (20 < (d.n : Int))))) rfl (fun hg => r_fieldAddr (bj.get rfl) Try.underlying26 rfl ti_9 (by decide)) fun dL bk _ => ?_)
 refine sq (opk_gval bk rfl rfl (g := true) (e := (((decide (400 < j)) || (decide (70 < c))) || (decide (20 < (d.n : Int))))) rfl (fun hg => r_load1 tU9 rfl (cv_get (bk.get rfl) hg) (au.cell 1 _ rfl)) fun dM bl _ => ?_)
 refine sq (opk_gval bl rfl rfl (g := true) (e := (((decide (400 < j)) || (decide (70 < c))) || (decide (20 < (d.n : Int))))) rfl (fun hg => r_slen (cv_get (bl.get rfl) hg) tU9) fun dN bm _ => ?_)
 refine sq (opk_gval bm rfl rfl (g := true) (e := (((decide (400 < j)) || (decide (70 < c))) || (decide (20 < (d.n : Int))))) rfl (fun hg => r_gtr (cv_get (bm.get rfl) hg) rfl) fun dO aJ _ => ?_)
 refine sqv aJ rfl (r_pick_or (g := (true && ((((decide (400 < j)) || (decide (70 < c))) || (decide (20 < (d.n : Int)))) == false))) (aJ.get rfl) (aJ.get rfl) (fun he => g_mkf rfl he)) fun _ bn => sqv bn rfl (r_move (bn.get rfl)) fun _ bo => ?_
 refine sq (opk_gval bo rfl rfl (g := true) (e := ((((decide (400 < j)) || (decide (70 < c))) || (decide (20 < (d.n : Int)))) || (decide (200 < (o.length : Int))))) rfl (fun hg => r_fieldAddr (bo.get rfl) Try.underlying26 rfl ti_9 (by decide)) fun dP bp _ => ?_)
 refine sq (opk_gval bp rfl rfl (g := true) (e := ((((decide (400 < j)) || (decide (70 < c))) || (decide (20 < (d.n : Int)))) || (decide (200 < (o.length : Int))))) rfl (fun hg => r_load1 tU9 rfl (cv_get (bp.get rfl) hg) (au.cell 2 _ rfl)) fun dQ bq _ => ?_)
 refine sq (opk_gval bq rfl rfl (g := true) (e := ((((decide (400 < j)) || (decide (70 < c))) || (decide (20 < (d.n : Int)))) || (decide (200 < (o.length : Int))))) rfl (fun hg => r_slen (cv_get (bq.get rfl) hg) tU9) fun dR br _ => ?_)
 refine sq (opk_gval br rfl rfl (g := true) (e := ((((decide (400 < j)) || (decide (70 < c))) || (decide (20 < (d.n : Int)))) || (decide (200 < (o.length : Int))))) rfl (fun hg => r_gtr (cv_get (br.get rfl) hg) rfl) fun dS aK _ => ?_)
 refine sqv aK rfl (r_pick_or (g := (true && (((((decide (400 < j)) || (decide (70 < c))) || (decide (20 < (d.n : Int)))) || (decide (200 < (o.length : Int)))) == false))) (aK.get rfl) (aK.get rfl) (fun he => g_mkf rfl he)) fun _ cB => sq_end ?_
 have aL := cB.kp [(1, .int .i64 c), (2, .pointer (some f)), (3, pB i 0), (39, .bool (((((decide (400 < j)) || (decide (70 < c))) || (decide (20 < (d.n : Int)))) || (decide (200 < (o.length : Int)))) || (decide (6000 < (r.length : Int)))))] rfl
 refine then_normal ?_
 refine wp_cond_split (aL.get rfl) (fun hc => ?_) (fun hc => ?_)
 ·have cC := ht46.1 ((b_or_t hc).imp (fun h => ((b_or_t h).imp (fun h => ((b_or_t h).imp (fun h => ((b_or_t h).imp (fun h => (of_decide_eq_true h)) (fun h => (of_decide_eq_true h)))) (fun h => (of_decide_eq_true h)))) (fun h => (of_decide_eq_true h)))) (fun h => (of_decide_eq_true h)))
  clear hc
  refine wp_seq (wp_region_lit ?_)
  refine sqv aL rfl (r_assign rfl) fun _ cD => sq_end ?_
  have bs := cD.kp [(6, .bool false)] rfl
  refine then_normal ?_
  refine wp_ret ?_
  refine then_ret ?_
  exact res_all (vs := [.bool false]) rfl bs ⟨res_of_tmp bs rfl, trivial⟩ cC
 ·have cF := ht46.2 ⟨⟨⟨⟨(of_decide_eq_false (b_or_f (b_or_f (b_or_f (b_or_f hc).1).1).1).1), (of_decide_eq_false (b_or_f (b_or_f (b_or_f (b_or_f hc).1).1).1).2)⟩, (of_decide_eq_false (b_or_f (b_or_f (b_or_f hc).1).1).2)⟩, (of_decide_eq_false (b_or_f (b_or_f hc).1).2)⟩, (of_decide_eq_false (b_or_f hc).2)⟩
  clear hc
  refine wp_skip ?_
  refine then_normal (wp_seq (wp_seq (wp_region_lit ?_)))
  refine sqv aL rfl (r_assign rfl) fun _ cG => sq_end ?_
  have cH := cG.kp [(1, .int .i64 c), (2, .pointer (some f)), (3, pB i 0), (7, .int .i64 0)] rfl
  refine then_normal (wp_block ?_)
  obtain ⟨ab, al, cI, cJ⟩ := cF
  refine wp_loop_st (σ := Int × World) (fun s a w => Ag 82 a [(1, .int .i64 c), (2, .pointer (some f)), (3, pB i 0), (7, .int .i64 s.1)] ∧ Box w i 26 [.int .i64 x, .string (Bs o), .string (Bs r), Sl.v d, Sl.v p] ∧ w = s.2 ∧ ab s.1 s.2) (fun s => al s.1 s.2) (0, u) ⟨cH.kp [(1, .int .i64 c), (2, .pointer (some f)), (3, pB i 0), (7, .int .i64 0)] rfl, au, rfl, cI⟩ ?_
  rintro ⟨k, q⟩ dT w_ ⟨bt, ai, hw_, cK⟩
  have hw_ : q = w_ := hw_.symm
  subst hw_
  have bu := cJ k _ cK
  refine wp_seq (wp_seq (wp_region_lit ?_))
  refine sqv bt rfl (r_move (bt.get rfl)) fun _ bv => sqv bv rfl (r_fieldAddr (bv.get rfl) Try.underlying26 rfl ti_23 (by decide)) fun _ bx => sqv bx rfl (r_load1 tU23 rfl (bx.get rfl) (ai.cell 3 _ rfl)) fun _ bz => sqv bz rfl (r_len (bz.get rfl) tU23) fun _ aM => sqv aM rfl (r_lss (aM.get rfl) (aM.get rfl)) fun _ cL => sq_end ?_
  have av := cL.kp [(1, .int .i64 c), (2, .pointer (some f)), (3, pB i 0), (7, .int .i64 k), (44, .bool (decide (k < (d.n : Int))))] rfl
  refine then_normal ?_
  refine wp_cond_split (av.get rfl) (fun hc => ?_) (fun hc => ?_)
  ·have cM := bu.1 (of_decide_eq_true hc)
   clear hc
   refine wp_skip ?_
   refine then_normal (wp_seq (wp_block (wp_seq (wp_region_lit ?_))))
   refine sqv av rfl (r_fieldAddr (av.get rfl) Try.underlying26 rfl ti_23 (by decide)) fun _ bA => sqv bA rfl (r_load1 tU23 rfl (bA.get rfl) (ai.cell 3 _ rfl)) fun _ bB => sqv bB rfl (r_move (bB.get rfl)) fun _ aN => ?_
   obtain ⟨cN, aC, cO, cP⟩ := cM
   refine sqv aN rfl (r_indexAddr (aN.get rfl) (aN.get rfl) tU23 ti_47 cN cO) fun _ bC => sqv bC rfl (r_fieldAddr (bC.get rfl) Try.underlying47 rfl ti_9 (by decide)) fun _ bD => ?_
   obtain ⟨m, cQ, cR⟩ := cP
   refine sqv bD rfl (r_load1 tU9 rfl (bD.get rfl) cQ) fun _ bF => sqv bF rfl (r_slen (bF.get rfl) tU9) fun _ bG => sqv bG rfl (r_gtr (bG.get rfl) rfl) fun _ bH => sqv bH rfl (r_move (bH.get rfl)) fun _ bI => ?_
   refine sq (opk_gval bI rfl rfl (g := true) (e := (decide (200 < (m.length : Int)))) rfl (fun hg => r_fieldAddr (bI.get rfl) Try.underlying26 rfl ti_23 (by decide)) fun dU bJ _ => ?_)
   refine sq (opk_gval bJ rfl rfl (g := true) (e := (decide (200 < (m.length : Int)))) rfl (fun hg => r_load1 tU23 rfl (cv_get (bJ.get rfl) hg) (ai.cell 3 _ rfl)) fun dV bK _ => ?_)
   refine sq (opk_gval bK rfl rfl (g := true) (e := (decide (200 < (m.length : Int)))) rfl (fun hg => r_move (bK.get rfl)) fun dX aO _ => ?_)
   obtain ⟨aD, bL, cS⟩ := cR
   refine sq (opk_gval aO rfl rfl (g := true) (e := (decide (200 < (m.length : Int)))) rfl (fun hg => r_indexAddr (cv_get (aO.get rfl) hg) (cv_get (aO.get rfl) hg) tU23 ti_47 (bL (of_decide_eq_false (g_f hg))).1 (bL (of_decide_eq_false (g_f hg))).2) fun dY bM _ => ?_)
   refine sq (opk_gval bM rfl rfl (g := true) (e := (decide (200 < (m.length : Int)))) rfl (fun hg => r_fieldAddr (cv_get (bM.get rfl) hg) Try.underlying47 rfl ti_9 (by decide)) fun dZ bN _ => ?_)
   obtain ⟨ad, cT, bO⟩ := cS
   refine sq (opk_gval bN rfl rfl (g := true) (e := (decide (200 < (m.length : Int)))) rfl (fun hg => r_load1 tU9 rfl (cv_get (bN.get rfl) hg) (cT (of_decide_eq_false (g_f hg)))) fun d0 bP _ => ?_)
   refine sq (opk_gval bP rfl rfl (g := true) (e := (decide (200 < (m.length : Int)))) rfl (fun hg => r_slen (cv_get (bP.get rfl) hg) tU9) fun d1 bQ _ => ?_)
   refine sq (opk_gval bQ rfl rfl (g := true) (e := (decide (200 < (m.length : Int)))) rfl (fun hg => r_gtr (cv_get (bQ.get rfl) hg) rfl) fun d2 aP _ => ?_)
   refine sqv aP rfl (r_pick_or (g := (true && ((decide (200 < (m.length : Int))) == false))) (aP.get rfl) (aP.get rfl) (fun he => g_mkf rfl he)) fun _ cU => sq_end ?_
   have ax := cU.kp [(1, .int .i64 c), (2, .pointer (some f)), (3, pB i 0), (7, .int .i64 k), (64, .bool ((decide (200 < (m.length : Int))) || (decide (6000 < (ad.length : Int)))))] rfl
   refine then_normal ?_
   refine wp_cond_split (ax.get rfl) (fun hc => ?_) (fun hc => ?_)
   ·have cX := bO.1 ((b_or_t hc).imp (fun h => (of_decide_eq_true h)) (fun h => (of_decide_eq_true h)))
    clear hc
    refine wp_seq (wp_region_lit ?_)
    refine sqv ax rfl (r_assign rfl) fun _ cY => sq_end ?_
    have bR := cY.kp [(6, .bool false)] rfl
    refine then_normal ?_
    refine wp_ret ?_
    refine block_ret ?_
    refine then_ret ?_
    refine then_ret ?_
    refine block_ret ?_
    refine then_ret ?_
    exact res_all (vs := [.bool false]) rfl bR ⟨res_of_tmp bR rfl, trivial⟩ cX
   ·have cZ := bO.2 ⟨(of_decide_eq_false (b_or_f hc).1), (of_decide_eq_false (b_or_f hc).2)⟩
    clear hc
    refine wp_skip ?_
    refine block_normal ?_
    refine then_normal (wp_region_lit ?_)
    refine sqv ax rfl (r_move (ax.get rfl)) fun _ bS => ?_
    obtain ⟨c0, bT⟩ := cZ
    refine sqv bS rfl (r_addI (bS.get rfl) rfl c0) fun _ bU => sqv bU rfl (r_assign (bU.get rfl)) fun _ c1 => sq_end ?_
    have c2 := c1.kp [(1, .int .i64 c), (2, .pointer (some f)), (3, pB i 0), (7, .int .i64 (k + 1))] rfl
    have c3 := c2.kp [(1, .int .i64 c), (2, .pointer (some f)), (3, pB i 0), (7, .int .i64 (k + 1))] rfl
    exact then_normal ⟨(k + 1, q), ⟨c3, ai, rfl, bT.1⟩, bT.2⟩
  ·have c4 := bu.2 (of_decide_eq_false hc)
   clear hc
   refine wp_exit ?_
   refine then_exit ?_
   refine then_exit ?_
   refine block_hit ?_
   have c5 := av.kp [(1, .int .i64 c), (2, .pointer (some f)), (3, pB i 0)] rfl
   refine then_normal (wp_seq (wp_seq (wp_region_lit ?_)))
   refine sqv c5 rfl (r_assign rfl) fun _ c6 => sq_end ?_
   have c7 := c6.kp [(1, .int .i64 c), (2, .pointer (some f)), (3, pB i 0), (8, .int .i64 0)] rfl
   refine then_normal (wp_block ?_)
   obtain ⟨af, am, c8, c9⟩ := c4
   refine wp_loop_st (σ := Int × World) (fun s a w => Ag 82 a [(1, .int .i64 c), (2, .pointer (some f)), (3, pB i 0), (8, .int .i64 s.1)] ∧ Box w i 26 [.int .i64 x, .string (Bs o), .string (Bs r), Sl.v d, Sl.v p] ∧ w = s.2 ∧ af s.1 s.2) (fun s => am s.1 s.2) (0, q) ⟨c7.kp [(1, .int .i64 c), (2, .pointer (some f)), (3, pB i 0), (8, .int .i64 0)] rfl, ai, rfl, c8⟩ ?_
   rintro ⟨l, y⟩ d3 w_ ⟨bV, aQ, hw_, da⟩
   have hw_ : y = w_ := hw_.symm
   subst hw_
   have bX := c9 l _ da
   refine wp_seq (wp_seq (wp_region_lit ?_))
   refine sqv bV rfl (r_move (bV.get rfl)) fun _ bY => sqv bY rfl (r_fieldAddr (bY.get rfl) Try.underlying26 rfl ti_24 (by decide)) fun _ bZ => sqv bZ rfl (r_load1 tU24 rfl (bZ.get rfl) (aQ.cell 4 _ rfl)) fun _ b0 => sqv b0 rfl (r_len (b0.get rfl) tU24) fun _ aR => sqv aR rfl (r_lss (aR.get rfl) (aR.get rfl)) fun _ db => sq_end ?_
   have ay := db.kp [(1, .int .i64 c), (2, .pointer (some f)), (3, pB i 0), (8, .int .i64 l), (69, .bool (decide (l < (p.n : Int))))] rfl
   refine then_normal ?_
   refine wp_cond_split (ay.get rfl) (fun hc => ?_) (fun hc => ?_)
   ·have dc := bX.1 (of_decide_eq_true hc)
    clear hc
    refine wp_skip ?_
    refine then_normal (wp_seq (wp_block (wp_seq (wp_region_lit ?_))))
    refine sqv ay rfl (r_fieldAddr (ay.get rfl) Try.underlying26 rfl ti_24 (by decide)) fun _ b1 => sqv b1 rfl (r_load1 tU24 rfl (b1.get rfl) (aQ.cell 4 _ rfl)) fun _ b2 => sqv b2 rfl (r_move (b2.get rfl)) fun _ aS => ?_
    obtain ⟨dd, aF, df, dg⟩ := dc
    refine sqv aS rfl (r_indexAddr (aS.get rfl) (aS.get rfl) tU24 ti_26 dd df) fun _ b3 => ?_
    obtain ⟨an, ao, ap, aq, ar, dh, di⟩ := dg
    refine sqv b3 rfl (r_loadN Try.underlying26 rfl ti_26 (b3.get rfl) dh) fun _ b4 => sqv b4 rfl (r_move (b4.get rfl)) fun _ b5 => ?_
    obtain ⟨dj, dk⟩ := di
    refine sqv b5 rfl (r_addI (b5.get rfl) rfl dj) fun _ b6 => sqv b6 rfl (r_move (b6.get rfl)) fun _ az => ?_
    refine sq (opk_call az rfl (r_call (args := #[.agg #[.int .i64 an, .string (Bs ao), .string (Bs ap), Sl.v aq, Sl.v ar], .int .i64 (c + 1), .pointer (some f)]) Try.func66 (by decide) rfl (map_arr (ml_cons (az.get rfl) (ml_cons (az.get rfl) (ml_cons (az.get rfl) ml_nil)))) rfl) dk fun d4 d5 ag b7 _ dl d6 dm => ?_)
    obtain ⟨ah, rfl, b8⟩ := dm
    have dn := aQ.kept dl (.head _)
    refine sqv b7 rfl (r_not (b7.get rfl)) fun _ dp => sq_end ?_
    have aA := dp.kp [(1, .int .i64 c), (2, .pointer (some f)), (3, pB i 0), (8, .int .i64 l), (81, .bool (!ah))] rfl
    refine then_normal ?_
    refine wp_cond_split (aA.get rfl) (fun hc => ?_) (fun hc => ?_)
    ·have dq := b8.1 (b_not_t hc)
     clear hc
     refine wp_seq (wp_region_lit ?_)
     refine sqv aA rfl (r_assign rfl) fun _ dr => sq_end ?_
     have b9 := dr.kp [(6, .bool false)] rfl
     refine then_normal ?_
     refine wp_ret ?_
     refine block_ret ?_
     refine then_ret ?_
     refine then_ret ?_
     refine block_ret ?_
     refine then_ret ?_
     exact res_all (vs := [.bool false]) rfl b9 ⟨res_of_tmp b9 rfl, trivial⟩ dq
    ·have ds := b8.2 (b_not_f hc)
     clear hc
     refine wp_skip ?_
     refine block_normal ?_
     refine then_normal (wp_region_lit ?_)
     refine sqv aA rfl (r_move (aA.get rfl)) fun _ ca => ?_
     obtain ⟨dt, cb⟩ := ds
     refine sqv ca rfl (r_addI (ca.get rfl) rfl dt) fun _ cc => sqv cc rfl (r_assign (cc.get rfl)) fun _ du => sq_end ?_
     have dv := du.kp [(1, .int .i64 c), (2, .pointer (some f)), (3, pB i 0), (8, .int .i64 (l + 1))] rfl
     have dx := dv.kp [(1, .int .i64 c), (2, .pointer (some f)), (3, pB i 0), (8, .int .i64 (l + 1))] rfl
     exact then_normal ⟨(l + 1, ag), ⟨dx, dn, rfl, cb.1⟩, cb.2⟩
   ·have dy := bX.2 (of_decide_eq_false hc)
    clear hc
    refine wp_exit ?_
    refine then_exit ?_
    refine then_exit ?_
    refine block_hit ?_
    have dz := ay.kp [] rfl
    refine then_normal (wp_seq (wp_region_lit ?_))
    refine sqv dz rfl (r_assign rfl) fun _ dA => sq_end ?_
    have cd := dA.kp [(6, .bool true)] rfl
    refine then_normal ?_
    refine wp_ret ?_
    exact res_all (vs := [.bool true]) rfl cd ⟨res_of_tmp cd rfl, trivial⟩ dy
def law00_SameAttrs.vc (c : Sl) (d : Sl) (R : Value → World → Prop) (w : World) : Prop :=
(((c.n : Int) ≠ (d.n : Int)) →
R (.bool false) w) ∧
((¬ ((c.n : Int) ≠ (d.n : Int))) →
∃ (p : Int → World → Prop) (u : Int → World → Nat),
p 0 w ∧
(∀ (b : Int) (o : World), p b o →
((b < (c.n : Int)) →
∀ (i : World), Chg [] o i →
∃ q : Addr, (((0 : Int) ≤ b ∧ b < (c.n : Int)) ∧ c.a = some q) ∧
∃ (j : Str) (k : Str), (Cells i (q.add (b.toNat * 2)) [.string (Bs j), .string (Bs k)]) ∧
∃ r : Addr, (((0 : Int) ≤ b ∧ b < (d.n : Int)) ∧ d.a = some r) ∧
∃ (l : Str) (m : Str), (Cells i (r.add (b.toNat * 2)) [.string (Bs l), .string (Bs m)]) ∧
((¬ (j = l ∧ k = m)) →
∀ (g : World), Chg [] i g →
R (.bool false) g) ∧
((¬ (¬ (j = l ∧ k = m))) →
(I64 (b + 1)) ∧
∀ (g : World), Chg [] i g →
p (b + 1) g ∧ u (b + 1) g < u b o)) ∧
((¬ (b < (c.n : Int))) →
R (.bool true) o)))
theorem law00_SameAttrs.ok (c : Sl) (d : Sl) {R : Value → World → Prop} {w : World} (y : law00_SameAttrs.vc c d R w) : Calls Try.prog 69 #[Sl.v c, Sl.v d] w (Ret R) := by
 refine enter [Sl.v c, Sl.v d] Try.func69 rfl Try.ntmps69 rfl ?_
 intro a0 aA
 unfold law00_SameAttrs.vc at y
 refine wp_seq (wp_region_lit ?_)
 refine sqv aA rfl (r_assign rfl) fun _ aB => sq_end ?_
 have ad := aB.kp [(0, Sl.v c), (1, Sl.v d)] rfl
 refine then_normal (wp_seq (wp_seq (wp_region_lit ?_)))
 refine sqv ad rfl (r_move (ad.get rfl)) fun _ af => sqv af rfl (r_len (af.get rfl) tU23) fun _ ah => sqv ah rfl (r_move (ah.get rfl)) fun _ ai => sqv ai rfl (r_len (ai.get rfl) tU23) fun _ z => sqv z rfl (r_neq (z.get rfl) (z.get rfl)) fun _ aC => sq_end ?_
 have aa := aC.kp [(0, Sl.v c), (1, Sl.v d), (10, .bool (decide ((c.n : Int) ≠ (d.n : Int))))] rfl
 refine then_normal ?_
 refine wp_cond_split (aa.get rfl) (fun hc => ?_) (fun hc => ?_)
 ·have aD := y.1 (of_decide_eq_true hc)
  clear hc
  refine wp_seq (wp_region_lit ?_)
  refine sqv aa rfl (r_assign rfl) fun _ aF => sq_end ?_
  have aj := aF.kp [(4, .bool false)] rfl
  refine then_normal ?_
  refine wp_ret ?_
  refine then_ret ?_
  exact res_all (vs := [.bool false]) rfl aj ⟨res_of_tmp aj rfl, trivial⟩ aD
 ·have aG := y.2 (of_decide_eq_false hc)
  clear hc
  refine wp_skip ?_
  refine then_normal (wp_seq (wp_seq (wp_region_lit ?_)))
  refine sqv aa rfl (r_assign rfl) fun _ aH => sq_end ?_
  have aI := aH.kp [(0, Sl.v c), (1, Sl.v d), (5, .int .i64 0)] rfl
  refine then_normal (wp_block ?_)
  obtain ⟨p, u, aJ, aK⟩ := aG
  refine wp_loop_st (σ := Int × World) (fun s a w => Ag 26 a [(0, Sl.v c), (1, Sl.v d), (5, .int .i64 s.1)] ∧ w = s.2 ∧ p s.1 s.2) (fun s => u s.1 s.2) (0, w) ⟨aI.kp [(0, Sl.v c), (1, Sl.v d), (5, .int .i64 0)] rfl, rfl, aJ⟩ ?_
  rintro ⟨b, o⟩ bj w_ ⟨ak, hw_, aL⟩
  have hw_ : o = w_ := hw_.symm
  subst hw_
  have al := aK b _ aL
  refine wp_seq (wp_seq (wp_region_lit ?_))
  refine sqv ak rfl (r_move (ak.get rfl)) fun _ am => sqv am rfl (r_move (am.get rfl)) fun _ an => sqv an rfl (r_len (an.get rfl) tU23) fun _ ab => sqv ab rfl (r_lss (ab.get rfl) (ab.get rfl)) fun _ aM => sq_end ?_
  have f := aM.kp [(0, Sl.v c), (1, Sl.v d), (5, .int .i64 b), (14, .bool (decide (b < (c.n : Int))))] rfl
  refine then_normal ?_
  refine wp_cond_split (f.get rfl) (fun hc => ?_) (fun hc => ?_)
  ·have aN := al.1 (of_decide_eq_true hc)
   clear hc
   refine wp_skip ?_
   refine then_normal (wp_seq (wp_block (wp_seq ?_)))
   refine draw' (by kernel_rfl) fun i aO => ?_
   have aP : Chg [] o i := aO
   have aQ := aN i    aP
   obtain ⟨q, ao, aR⟩ := aQ
   obtain ⟨j, k, aS, aT⟩ := aR
   obtain ⟨r, ap, aU⟩ := aT
   obtain ⟨l, m, aV, aq⟩ := aU
   refine par (D := [[], [], [0, 1], [0, 1, 2], [], [], [4, 5], [4, 5, 6], [0, 1, 2, 3, 4, 5, 6, 7]]) (S := [0, 1, 2, 3, 4, 5, 6, 7, 8]) (F := []) (V := VL [(0, fun v _ => v = Sl.v c), (1, fun v _ => v = .int .i64 b), (2, fun v _ => v = .pointer (some (q.add (b.toNat * 2)))), (3, fun v _ => v = .agg #[.string (Bs j), .string (Bs k)]), (4, fun v _ => v = Sl.v d), (5, fun v _ => v = .int .i64 b), (6, fun v _ => v = .pointer (some (r.add (b.toNat * 2)))), (7, fun v _ => v = .agg #[.string (Bs l), .string (Bs m)]), (8, fun v _ => v = .bool (decide (¬ (j = l ∧ k = m))))]) f (by kernel_rfl) ⟨fun _ _ _ _ h => h, fun _ _ _ _ h => h, fun _ _ _ _ h => h, fun _ _ _ _ h => h, fun _ _ _ _ h => h, fun _ _ _ _ h => h, fun _ _ _ _ h => h, fun _ _ _ _ h => h, fun _ _ _ _ h => h, trivial⟩ ⟨?_, ?_, ?_, ?_, ?_, ?_, ?_, ?_, ?_, trivial⟩ ?_
   ·intro a w hT
    have hAp := hT.ag f [(0, Sl.v c)] ⟨rfl, trivial⟩ (by kernel_rfl)
    exact ovr hAp rfl (r_move (hAp.get rfl)) fun _ => Eq.refl _
   ·intro a w hT
    have hAp := hT.ag f [(5, .int .i64 b)] ⟨rfl, trivial⟩ (by kernel_rfl)
    exact ovr hAp rfl (r_move (hAp.get rfl)) fun _ => Eq.refl _
   ·intro a w hT
    have hAp := hT.ag f [] trivial (by kernel_rfl)
    have hAp := hAp.add (t := 17) (v := Sl.v c) (hT.vals 0 rfl 17 rfl)
    have hAp := hAp.add (t := 18) (v := .int .i64 b) (hT.vals 1 rfl 18 rfl)
    exact ovr hAp rfl (r_indexAddr (hAp.get rfl) (hAp.get rfl) tU23 ti_47 ao.1 ao.2) fun _ => Eq.refl _
   ·intro a w hT
    have hAp := hT.ag f [] trivial (by kernel_rfl)
    have hAp := hAp.add (t := 19) (v := .pointer (some (q.add (b.toNat * 2)))) (hT.vals 2 rfl 19 rfl)
    exact ovr hAp rfl (r_loadN Try.underlying47 rfl ti_47 (hAp.get rfl) (aS.ext hT.chg)) fun _ => Eq.refl _
   ·intro a w hT
    have hAp := hT.ag f [(1, Sl.v d)] ⟨rfl, trivial⟩ (by kernel_rfl)
    exact ovr hAp rfl (r_move (hAp.get rfl)) fun _ => Eq.refl _
   ·intro a w hT
    have hAp := hT.ag f [(5, .int .i64 b)] ⟨rfl, trivial⟩ (by kernel_rfl)
    exact ovr hAp rfl (r_move (hAp.get rfl)) fun _ => Eq.refl _
   ·intro a w hT
    have hAp := hT.ag f [] trivial (by kernel_rfl)
    have hAp := hAp.add (t := 21) (v := Sl.v d) (hT.vals 4 rfl 21 rfl)
    have hAp := hAp.add (t := 22) (v := .int .i64 b) (hT.vals 5 rfl 22 rfl)
    exact ovr hAp rfl (r_indexAddr (hAp.get rfl) (hAp.get rfl) tU23 ti_47 ap.1 ap.2) fun _ => Eq.refl _
   ·intro a w hT
    have hAp := hT.ag f [] trivial (by kernel_rfl)
    have hAp := hAp.add (t := 23) (v := .pointer (some (r.add (b.toNat * 2)))) (hT.vals 6 rfl 23 rfl)
    exact ovr hAp rfl (r_loadN Try.underlying47 rfl ti_47 (hAp.get rfl) (aV.ext hT.chg)) fun _ => Eq.refl _
   ·intro a w hT
    have hAp := hT.ag f [] trivial (by kernel_rfl)
    have hAp := hAp.add (t := 20) (v := .agg #[.string (Bs j), .string (Bs k)]) (hT.vals 3 rfl 20 rfl)
    have hAp := hAp.add (t := 24) (v := .agg #[.string (Bs l), .string (Bs m)]) (hT.vals 7 rfl 24 rfl)
    exact ovr hAp rfl (r_aneqd (hAp.get rfl) (hAp.get rfl) (eq_47 _ _ _ _)) fun _ => Eq.refl _
   ·intro aX g aY aZ hv113
    have a1 := aZ [(0, Sl.v c), (1, Sl.v d), (5, .int .i64 b)] ⟨rfl, rfl, rfl, trivial⟩ (by kernel_rfl)
    have a2 : aX.tmps.getD 25 undef = .bool (decide (¬ (j = l ∧ k = m))) := hv113 8 rfl 25 rfl
    have a3 := a1.add a2
    have ar : Chg [] i g := aY
    refine PR_end (by kernel_rfl) ?_
    have x := a3.kp [(0, Sl.v c), (1, Sl.v d), (5, .int .i64 b), (25, .bool (decide (¬ (j = l ∧ k = m))))] rfl
    refine then_normal ?_
    refine wp_cond_split (x.get rfl) (fun hc => ?_) (fun hc => ?_)
    ·have a4 := aq.1 (of_decide_eq_true hc)
     clear hc
     refine wp_seq (wp_region_lit ?_)
     refine sqv x rfl (r_assign rfl) fun _ a5 => sq_end ?_
     have au := a5.kp [(4, .bool false)] rfl
     refine then_normal ?_
     refine wp_ret ?_
     refine block_ret ?_
     refine then_ret ?_
     refine then_ret ?_
     refine block_ret ?_
     refine then_ret ?_
     have a6 := a4 g    ar
     exact res_all (vs := [.bool false]) rfl au ⟨res_of_tmp au rfl, trivial⟩ a6
    ·have a7 := aq.2 (of_decide_eq_false hc)
     clear hc
     refine wp_skip ?_
     refine block_normal ?_
     refine then_normal (wp_region_lit ?_)
     refine sqv x rfl (r_move (x.get rfl)) fun _ av => ?_
     obtain ⟨a8, a9⟩ := a7
     refine sqv av rfl (r_addI (av.get rfl) rfl a8) fun _ ax => sqv ax rfl (r_assign (ax.get rfl)) fun _ ba => sq_end ?_
     have bb := ba.kp [(0, Sl.v c), (1, Sl.v d), (5, .int .i64 (b + 1))] rfl
     have ay := a9 g    ar
     have bd := bb.kp [(0, Sl.v c), (1, Sl.v d), (5, .int .i64 (b + 1))] rfl
     exact then_normal ⟨(b + 1, g), ⟨bd, rfl, ay.1⟩, ay.2⟩
  ·have bf := al.2 (of_decide_eq_false hc)
   clear hc
   refine wp_exit ?_
   refine then_exit ?_
   refine then_exit ?_
   refine block_hit ?_
   have bg := f.kp [] rfl
   refine then_normal (wp_seq (wp_region_lit ?_))
   refine sqv bg rfl (r_assign rfl) fun _ bh => sq_end ?_
   have az := bh.kp [(4, .bool true)] rfl
   refine then_normal ?_
   refine wp_ret ?_
   exact res_all (vs := [.bool true]) rfl az ⟨res_of_tmp az rfl, trivial⟩ bf
end Go.Proofs.Yteohbfaechfliaa
