/-
  PRINTED BY PROGRAM: for each function its condition (vc), and that this suffices (ok).
-/
import Derived.Test.YtghmgfkdnolcdaaQApplyNoneGT
namespace Go.Proofs.Ytghmgfkdnolcdaa
open Go.RowKit
set_option linter.unusedVariables false
set_option maxHeartbeats 1000000
set_option maxRecDepth 10000
def ref05_Same.vc (a : Int) (b : Str) (c : Str) (d : Sl) (f : Sl) (g : Int) (h : Str) (i : Str) (j : Sl) (k : Sl) (R : Value → World → Prop) (w : World) : Prop :=
∀ (n : World) (l : Nat) (m : Nat), New w l n → New w m n → l ≠ m → Chg [] w n →
CallK Try.prog 68 #[.agg #[.int .i64 a, .string (Bs b), .string (Bs c), Sl.v d, Sl.v f], .agg #[.int .i64 g, .string (Bs h), .string (Bs i), Sl.v j, Sl.v k]] n [l, m] (fun v r => ∃ (o : Int), v = .int .i64 o ∧
R (.bool (decide (o = 0))) r)
theorem ref05_Same.ok (a : Int) (b : Str) (c : Str) (d : Sl) (f : Sl) (g : Int) (h : Str) (i : Str) (j : Sl) (k : Sl) {R : Value → World → Prop} {w : World} (s : ref05_Same.vc a b c d f g h i j k R w) : Calls Try.prog 40 #[.agg #[.int .i64 a, .string (Bs b), .string (Bs c), Sl.v d, Sl.v f], .agg #[.int .i64 g, .string (Bs h), .string (Bs i), Sl.v j, Sl.v k]] w (Ret R) := by
 refine enter [.agg #[.int .i64 a, .string (Bs b), .string (Bs c), Sl.v d, Sl.v f], .agg #[.int .i64 g, .string (Bs h), .string (Bs i), Sl.v j, Sl.v k]] Try.func40 rfl Try.ntmps40 rfl ?_
 intro a0 t
 unfold ref05_Same.vc at s
 refine wp_seq (wp_region_lit ?_)
 refine sq (opk_new (fun B => .pointer (some ⟨B, 0, none⟩)) t rfl (r_box (cs := [.int .i64 a, .string (Bs b), .string (Bs c), Sl.v d, Sl.v f]) (t.get rfl) rfl) fun a5 u l al am x y _ => ?_)
 have an : New w l u := am
 have z : Chg [] w u := al
 refine sq (opk_new (fun B => .pointer (some ⟨B, 0, none⟩)) y rfl (r_box (cs := [.int .i64 g, .string (Bs h), .string (Bs i), Sl.v j, Sl.v k]) (y.get rfl) rfl) fun aD n m p aa ab ao _ => ?_)
 have ap : l ≠ m := Nat.ne_of_lt (Nat.lt_of_lt_of_le x.lt aa.ge)
 have aq := New.of z aa
 have ad := x.ext p
 have ar := z.more p
 have au := an.up p.size
 refine sqv ao rfl (r_assign rfl) fun _ av => ?_
 refine sq_end ?_
 have af := av.keep [(2, .pointer (some (⟨l, 0, none⟩ : Addr))), (3, .pointer (some (⟨m, 0, none⟩ : Addr)))] ⟨rfl, rfl, trivial⟩
 refine then_normal (wp_seq (wp_region_lit ?_))
 refine sqv af rfl (r_loadN (cs := [.int .i64 a, .string (Bs b), .string (Bs c), Sl.v d, Sl.v f]) Try.underlying29 rfl ti_29 (af.get rfl) (ad.part 0 _ rfl)) fun _ ag => ?_
 refine sqv ag rfl (r_loadN (cs := [.int .i64 g, .string (Bs h), .string (Bs i), Sl.v j, Sl.v k]) Try.underlying29 rfl ti_29 (ag.get rfl) (ab.part 0 _ rfl)) fun _ q => ?_
 have ax := s n l m au aq ap ar
 refine sq (opk_call q rfl (r_call (args := #[.agg #[.int .i64 a, .string (Bs b), .string (Bs c), Sl.v d, Sl.v f], .agg #[.int .i64 g, .string (Bs h), .string (Bs i), Sl.v j, Sl.v k]]) Try.func68 (by decide) rfl (map_arr (ml_cons (q.get rfl) (ml_cons (q.get rfl) ml_nil))) rfl) ax fun aF aG r ah _ ai aH ay => ?_)
 obtain ⟨o, rfl, az⟩ := ay
 have aI := ad.kept ai (.head _)
 have aJ := ab.kept ai (.tail _ (.head _))
 refine sqv ah rfl (r_eql (ah.get rfl) rfl) fun _ aj => ?_
 refine sqv aj rfl (r_assign (aj.get rfl)) fun _ aA => ?_
 refine sq_end ?_
 have ak := aA.keep [(4, .bool (decide (o = 0)))] ⟨rfl, trivial⟩
 refine then_normal ?_
 refine wp_ret ?_
 exact res_all (vs := [.bool (decide (o = 0))]) rfl ak ⟨res_of_tmp ak rfl, trivial⟩ az
def ref05_Check.vc (a : Int) (b : Str) (c : Str) (d : Sl) (f : Sl) (R : Value → World → Prop) (w : World) : Prop :=
∀ (i : World) (m : Nat), New w m i → Chg [] w i →
∃ (h : Int), (((a = 1)) → Calls Try.prog 69 #[.agg #[.int .i64 a, .string (Bs b), .string (Bs c), Sl.v d, Sl.v f]] i (Ret fun v w' => Ext i w' ∧ v = .int .i64 h)) ∧
(∀ k : World, Ext i k →
∃ (j : Int), ((((a = 1) ∧ (h ≤ 300))) → Calls Try.prog 70 #[.agg #[.int .i64 a, .string (Bs b), .string (Bs c), Sl.v d, Sl.v f]] k (Ret fun v w' => Ext k w' ∧ v = .int .i64 j)) ∧
(∀ l : World, Ext k l →
∃ (n : Bool), (((((a = 1) ∧ (h ≤ 300)) ∧ (j ≤ 60))) → Calls Try.prog 71 #[.agg #[.int .i64 a, .string (Bs b), .string (Bs c), Sl.v d, Sl.v f], .bool true, .bool false] l (Ret fun v w' => Ext l w' ∧ v = .bool n)) ∧
(∀ o : World, Ext l o →
R (.bool ((((decide (a = 1)) && (decide (h ≤ 300))) && (decide (j ≤ 60))) && n)) o)))
theorem ref05_Check.ok (a : Int) (b : Str) (c : Str) (d : Sl) (f : Sl) {R : Value → World → Prop} {w : World} (y : ref05_Check.vc a b c d f R w) : Calls Try.prog 41 #[.agg #[.int .i64 a, .string (Bs b), .string (Bs c), Sl.v d, Sl.v f]] w (Ret R) := by
 refine enter [.agg #[.int .i64 a, .string (Bs b), .string (Bs c), Sl.v d, Sl.v f]] Try.func41 rfl Try.ntmps41 rfl ?_
 intro a0 z
 unfold ref05_Check.vc at y
 refine wp_seq (wp_region_lit ?_)
 refine sq (opk_new (fun B => .pointer (some ⟨B, 0, none⟩)) z rfl (r_box (cs := [.int .i64 a, .string (Bs b), .string (Bs c), Sl.v d, Sl.v f]) (z.get rfl) rfl) fun a4 i m ax ay p az _ => ?_)
 have aA : New w m i := ay
 have aB : Chg [] w i := ax
 refine sqv az rfl (r_assign rfl) fun _ aC => ?_
 refine sq_end ?_
 have aa := aC.keep [(1, .pointer (some (⟨m, 0, none⟩ : Addr)))] ⟨rfl, trivial⟩
 refine then_normal (wp_seq (wp_region_lit ?_))
 refine sqv aa rfl (r_fieldAddr (aa.get rfl) Try.underlying29 rfl ti_3 (by decide)) fun _ ab => ?_
 refine sqv ab rfl (r_load1 Try.underlying3 rfl (ab.get rfl) (p.cell 0 _ rfl)) fun _ ad => ?_
 refine sqv ad rfl (r_eql (ad.get rfl) rfl) fun _ af => ?_
 refine sqv af rfl (r_move (af.get rfl)) fun _ ag => ?_
 refine sq (opk_gval ag rfl rfl (g := true) (e := (decide (a = 1))) rfl (fun hg => r_loadN (cs := [.int .i64 a, .string (Bs b), .string (Bs c), Sl.v d, Sl.v f]) Try.underlying29 rfl ti_29 (ag.get rfl) (p.part 0 _ rfl)) fun aR ah _ => ?_)
 have aD := y i m aA  aB
 obtain ⟨h, aF, aG⟩ := aD
 refine sq (opk_gcall ah rfl rfl (g := true) (e := (decide (a = 1))) rfl (fun hg => r_call (args := #[.agg #[.int .i64 a, .string (Bs b), .string (Bs c), Sl.v d, Sl.v f]]) Try.func69 (by decide) rfl (map_arr (ml_cons (cv_get (ah.get rfl) hg) ml_nil)) rfl) (fun hg => aF (of_decide_eq_true (g_t hg))) fun aS k ai _ q => ?_)
 have aj := p.ext q
 have aT : Chg [] i k := q
 have aH := aG k q
 refine sq (opk_gval ai rfl rfl (g := true) (e := (decide (a = 1))) rfl (fun hg => r_leq (cv_get (ai.get rfl) hg) rfl) fun aU r _ => ?_)
 refine sqv r rfl (r_pick_and (g := (true && ((decide (a = 1)) == true))) (r.get rfl) (r.get rfl) (fun he => g_mkt rfl he)) fun _ ak => ?_
 refine sqv ak rfl (r_move (ak.get rfl)) fun _ al => ?_
 refine sq (opk_gval al rfl rfl (g := true) (e := ((decide (a = 1)) && (decide (h ≤ 300)))) rfl (fun hg => r_loadN (cs := [.int .i64 a, .string (Bs b), .string (Bs c), Sl.v d, Sl.v f]) Try.underlying29 rfl ti_29 (al.get rfl) (aj.part 0 _ rfl)) fun aV am _ => ?_)
 obtain ⟨j, aI, aJ⟩ := aH
 refine sq (opk_gcall am rfl rfl (g := true) (e := ((decide (a = 1)) && (decide (h ≤ 300)))) rfl (fun hg => r_call (args := #[.agg #[.int .i64 a, .string (Bs b), .string (Bs c), Sl.v d, Sl.v f]]) Try.func70 (by decide) rfl (map_arr (ml_cons (cv_get (am.get rfl) hg) ml_nil)) rfl) (fun hg => aI ⟨(of_decide_eq_true (b_and_t (g_t hg)).1), (of_decide_eq_true (b_and_t (g_t hg)).2)⟩) fun aX l an _ s => ?_)
 have ao := aj.ext s
 have aY : Chg [] k l := s
 have aK := aJ l s
 refine sq (opk_gval an rfl rfl (g := true) (e := ((decide (a = 1)) && (decide (h ≤ 300)))) rfl (fun hg => r_leq (cv_get (an.get rfl) hg) rfl) fun aZ t _ => ?_)
 refine sqv t rfl (r_pick_and (g := (true && (((decide (a = 1)) && (decide (h ≤ 300))) == true))) (t.get rfl) (t.get rfl) (fun he => g_mkt rfl he)) fun _ ap => ?_
 refine sqv ap rfl (r_move (ap.get rfl)) fun _ aq => ?_
 refine sq (opk_gval aq rfl rfl (g := true) (e := (((decide (a = 1)) && (decide (h ≤ 300))) && (decide (j ≤ 60)))) rfl (fun hg => r_loadN (cs := [.int .i64 a, .string (Bs b), .string (Bs c), Sl.v d, Sl.v f]) Try.underlying29 rfl ti_29 (aq.get rfl) (ao.part 0 _ rfl)) fun a1 ar _ => ?_)
 obtain ⟨n, aL, aM⟩ := aK
 refine sq (opk_gcall ar rfl rfl (g := true) (e := (((decide (a = 1)) && (decide (h ≤ 300))) && (decide (j ≤ 60)))) rfl (fun hg => r_call (args := #[.agg #[.int .i64 a, .string (Bs b), .string (Bs c), Sl.v d, Sl.v f], .bool true, .bool false]) Try.func71 (by decide) rfl (map_arr (ml_cons (cv_get (ar.get rfl) hg) (ml_cons rfl (ml_cons rfl ml_nil)))) rfl) (fun hg => aL ⟨⟨(of_decide_eq_true (b_and_t (b_and_t (g_t hg)).1).1), (of_decide_eq_true (b_and_t (b_and_t (g_t hg)).1).2)⟩, (of_decide_eq_true (b_and_t (g_t hg)).2)⟩) fun a2 o u _ x => ?_)
 have a3 := ao.ext x
 have a5 : Chg [] l o := x
 have aN := aM o x
 refine sqv u rfl (r_pick_and (g := (true && ((((decide (a = 1)) && (decide (h ≤ 300))) && (decide (j ≤ 60))) == true))) (u.get rfl) (u.get rfl) (fun he => g_mkt rfl he)) fun _ au => ?_
 refine sqv au rfl (r_assign (au.get rfl)) fun _ aO => ?_
 refine sq_end ?_
 have av := aO.keep [(2, .bool ((((decide (a = 1)) && (decide (h ≤ 300))) && (decide (j ≤ 60))) && n))] ⟨rfl, trivial⟩
 refine then_normal ?_
 refine wp_ret ?_
 exact res_all (vs := [.bool ((((decide (a = 1)) && (decide (h ≤ 300))) && (decide (j ≤ 60))) && n)]) rfl av ⟨res_of_tmp av rfl, trivial⟩ aN
def ref05_Compare.vc (m : Int) (o : Str) (p : Str) (q : Sl) (d : Sl) (r : Int) (t : Str) (u : Str) (x : Sl) (j : Sl) (R : Value → World → Prop) (w : World) : Prop :=
∀ (ad : World) (f : Nat) (i : Nat), New w f ad → New w i ad → f ≠ i → Chg [] w ad →
CallK Try.prog 85 #[.agg #[.int .i64 m, .string (Bs o), .string (Bs p), Sl.v q, Sl.v d], .agg #[.int .i64 r, .string (Bs t), .string (Bs u), Sl.v x, Sl.v j]] ad [f, i] (fun v aB => ∃ (aa : Int), v = .int .i64 aa ∧
∃ (ar : Int → Int → World → Prop) (aA : Int → Int → World → Nat),
ar aa 0 aB ∧
(∀ (c : Int) (b : Int) (z : World), ar c b z →
((((c = 0) ∧ (b < (d.n : Int))) ∧ (b < (j.n : Int))) →
∀ (y : World), Chg [] z y →
∃ au : Addr, (((0 : Int) ≤ b ∧ b < (d.n : Int)) ∧ d.a = some au) ∧
∃ (af : Int) (ah : Str) (ai : Str) (aj : Sl) (ak : Sl), (Cells y (au.add (b.toNat * 5)) [.int .i64 af, .string (Bs ah), .string (Bs ai), Sl.v aj, Sl.v ak]) ∧
∃ av : Addr, (((0 : Int) ≤ b ∧ b < (j.n : Int)) ∧ j.a = some av) ∧
∃ (al : Int) (am : Str) (an : Str) (ao : Sl) (ap : Sl), (Cells y (av.add (b.toNat * 5)) [.int .i64 al, .string (Bs am), .string (Bs an), Sl.v ao, Sl.v ap]) ∧
∃ (l : Int), (∀ w' : World, Ext y w' → Calls Try.prog 68 #[.agg #[.int .i64 af, .string (Bs ah), .string (Bs ai), Sl.v aj, Sl.v ak], .agg #[.int .i64 al, .string (Bs am), .string (Bs an), Sl.v ao, Sl.v ap]] w' (Ret fun v w'' => Ext w' w'' ∧ v = .int .i64 l)) ∧
(I64 (b + 1)) ∧
∀ (ab : World), Chg [] y ab →
ar l (b + 1) ab ∧ aA l (b + 1) ab < aA c b z) ∧
((((¬ (c = 0)) ∨ (¬ (b < (d.n : Int)))) ∨ (¬ (b < (j.n : Int)))) →
((c = 0) →
CallK Try.prog 86 #[.bool (decide ((d.n : Int) < (j.n : Int))), .bool (decide ((j.n : Int) < (d.n : Int)))] z [f, i] (fun v aO => ∃ (aq : Int), v = .int .i64 aq ∧
R (.int .i64 aq) aO)) ∧
((¬ (c = 0)) →
R (.int .i64 c) z))))
theorem ref05_Compare.ok (m : Int) (o : Str) (p : Str) (q : Sl) (d : Sl) (r : Int) (t : Str) (u : Str) (x : Sl) (j : Sl) {R : Value → World → Prop} {w : World} (aP : ref05_Compare.vc m o p q d r t u x j R w) : Calls Try.prog 68 #[.agg #[.int .i64 m, .string (Bs o), .string (Bs p), Sl.v q, Sl.v d], .agg #[.int .i64 r, .string (Bs t), .string (Bs u), Sl.v x, Sl.v j]] w (Ret R) := by
 refine enter [.agg #[.int .i64 m, .string (Bs o), .string (Bs p), Sl.v q, Sl.v d], .agg #[.int .i64 r, .string (Bs t), .string (Bs u), Sl.v x, Sl.v j]] Try.func68 rfl Try.ntmps68 rfl ?_
 intro a0 aQ
 unfold ref05_Compare.vc at aP
 refine wp_seq (wp_region_lit ?_)
 refine sq (opk_new (fun B => .pointer (some ⟨B, 0, none⟩)) aQ rfl (r_box (cs := [.int .i64 m, .string (Bs o), .string (Bs p), Sl.v q, Sl.v d]) (aQ.get rfl) rfl) fun a5 w4 f bO bP aS aT _ => ?_)
 have bQ : New w f w4 := bP
 have aU : Chg [] w w4 := bO
 refine sq (opk_new (fun B => .pointer (some ⟨B, 0, none⟩)) aT rfl (r_box (cs := [.int .i64 r, .string (Bs t), .string (Bs u), Sl.v x, Sl.v j]) (aT.get rfl) rfl) fun c1 ad i aC aV aX bR _ => ?_)
 have bS : f ≠ i := Nat.ne_of_lt (Nat.lt_of_lt_of_le aS.lt aV.ge)
 have bT := New.of aU aV
 have aY := aS.ext aC
 have bU := aU.more aC
 have bV := bQ.up aC.size
 refine sqv bR rfl (r_assign rfl) fun _ bX => ?_
 refine sq_end ?_
 have aZ := bX.keep [(2, .pointer (some (⟨f, 0, none⟩ : Addr))), (3, .pointer (some (⟨i, 0, none⟩ : Addr)))] ⟨rfl, rfl, trivial⟩
 refine then_normal (wp_seq (wp_region_lit ?_))
 refine sqv aZ rfl (r_loadN (cs := [.int .i64 m, .string (Bs o), .string (Bs p), Sl.v q, Sl.v d]) Try.underlying29 rfl ti_29 (aZ.get rfl) (aY.part 0 _ rfl)) fun _ hA24 => ?_
 refine sqv hA24 rfl (r_loadN (cs := [.int .i64 r, .string (Bs t), .string (Bs u), Sl.v x, Sl.v j]) Try.underlying29 rfl ti_29 (hA24.get rfl) (aX.part 0 _ rfl)) fun _ aD => ?_
 have bY := aP ad f i bV bT bS bU
 refine sq (opk_call aD rfl (r_call (args := #[.agg #[.int .i64 m, .string (Bs o), .string (Bs p), Sl.v q, Sl.v d], .agg #[.int .i64 r, .string (Bs t), .string (Bs u), Sl.v x, Sl.v j]]) Try.func85 (by decide) rfl (map_arr (ml_cons (aD.get rfl) (ml_cons (aD.get rfl) ml_nil))) rfl) bY fun c2 c3 aB a1 _ a2 c4 bZ => ?_)
 obtain ⟨aa, rfl, b0⟩ := bZ
 have b1 := aY.kept a2 (.head _)
 have b2 := aX.kept a2 (.tail _ (.head _))
 refine sqv a1 rfl (r_assign (a1.get rfl)) fun _ b3 => ?_
 refine sq_end ?_
 have b4 := b3.keep [(2, .pointer (some (⟨f, 0, none⟩ : Addr))), (3, .pointer (some (⟨i, 0, none⟩ : Addr))), (5, .int .i64 aa)] ⟨rfl, rfl, rfl, trivial⟩
 refine then_normal (wp_seq (wp_seq (wp_region_lit ?_)))
 refine sqv b4 rfl (r_assign rfl) fun _ b5 => ?_
 refine sq_end ?_
 have b6 := b5.keep [(2, .pointer (some (⟨f, 0, none⟩ : Addr))), (3, .pointer (some (⟨i, 0, none⟩ : Addr))), (5, .int .i64 aa), (6, .int .i64 0)] ⟨rfl, rfl, rfl, rfl, trivial⟩
 refine then_normal (wp_block ?_)
 obtain ⟨ar, aA, b7, b8⟩ := b0
 refine wp_loop_st (σ := Int × Int × World) (fun s a w => Ag 57 a [(2, .pointer (some (⟨f, 0, none⟩ : Addr))), (3, .pointer (some (⟨i, 0, none⟩ : Addr))), (5, .int .i64 s.1), (6, .int .i64 s.2.1)] ∧ Box w f 29 [.int .i64 m, .string (Bs o), .string (Bs p), Sl.v q, Sl.v d] ∧ Box w i 29 [.int .i64 r, .string (Bs t), .string (Bs u), Sl.v x, Sl.v j] ∧ w = s.2.2 ∧ ar s.1 s.2.1 s.2.2) (fun s => aA s.1 s.2.1 s.2.2) (aa, 0, aB) ⟨b6.keep [(2, .pointer (some (⟨f, 0, none⟩ : Addr))), (3, .pointer (some (⟨i, 0, none⟩ : Addr))), (5, .int .i64 aa), (6, .int .i64 0)] ⟨rfl, rfl, rfl, rfl, trivial⟩, b1, b2, rfl, b7⟩ ?_
 rintro ⟨c, b, z⟩ c5 w_ ⟨a3, ax, ay, hw_, b9⟩
 have hw_ : z = w_ := hw_.symm
 subst hw_
 have a4 := b8 c b _ b9
 refine wp_seq (wp_seq (wp_region_lit ?_))
 refine sqv a3 rfl (r_move (a3.get rfl)) fun _ hA125 => ?_
 refine sqv hA125 rfl (r_eql (hA125.get rfl) rfl) fun _ a6 => ?_
 refine sqv a6 rfl (r_move (a6.get rfl)) fun _ a7 => ?_
 refine sq (opk_gval a7 rfl rfl (g := true) (e := (decide (c = 0))) rfl (fun hg => r_move (a7.get rfl)) fun c6 a8 _ => ?_)
 refine sq (opk_gval a8 rfl rfl (g := true) (e := (decide (c = 0))) rfl (fun hg => r_fieldAddr (a8.get rfl) Try.underlying29 rfl ti_27 (by decide)) fun c7 a9 _ => ?_)
 refine sq (opk_gval a9 rfl rfl (g := true) (e := (decide (c = 0))) rfl (fun hg => r_load1 Try.underlying27 rfl (cv_get (a9.get rfl) hg) (ax.cell 4 _ rfl)) fun c8 ba _ => ?_)
 refine sq (opk_gval ba rfl rfl (g := true) (e := (decide (c = 0))) rfl (fun hg => r_len (cv_get (ba.get rfl) hg) Try.underlying27) fun c9 aF _ => ?_)
 refine sq (opk_gval aF rfl rfl (g := true) (e := (decide (c = 0))) rfl (fun hg => r_lss (cv_get (aF.get rfl) hg) (cv_get (aF.get rfl) hg)) fun da aG _ => ?_)
 refine sqv aG rfl (r_pick_and (g := (true && ((decide (c = 0)) == true))) (aG.get rfl) (aG.get rfl) (fun he => g_mkt rfl he)) fun _ bb => ?_
 refine sqv bb rfl (r_move (bb.get rfl)) fun _ bd => ?_
 refine sq (opk_gval bd rfl rfl (g := true) (e := ((decide (c = 0)) && (decide (b < (d.n : Int))))) rfl (fun hg => r_move (bd.get rfl)) fun db bf _ => ?_)
 refine sq (opk_gval bf rfl rfl (g := true) (e := ((decide (c = 0)) && (decide (b < (d.n : Int))))) rfl (fun hg => r_fieldAddr (bf.get rfl) Try.underlying29 rfl ti_27 (by decide)) fun dc bg _ => ?_)
 refine sq (opk_gval bg rfl rfl (g := true) (e := ((decide (c = 0)) && (decide (b < (d.n : Int))))) rfl (fun hg => r_load1 Try.underlying27 rfl (cv_get (bg.get rfl) hg) (ay.cell 4 _ rfl)) fun dd bh _ => ?_)
 refine sq (opk_gval bh rfl rfl (g := true) (e := ((decide (c = 0)) && (decide (b < (d.n : Int))))) rfl (fun hg => r_len (cv_get (bh.get rfl) hg) Try.underlying27) fun df aH _ => ?_)
 refine sq (opk_gval aH rfl rfl (g := true) (e := ((decide (c = 0)) && (decide (b < (d.n : Int))))) rfl (fun hg => r_lss (cv_get (aH.get rfl) hg) (cv_get (aH.get rfl) hg)) fun dg aI _ => ?_)
 refine sqv aI rfl (r_pick_and (g := (true && (((decide (c = 0)) && (decide (b < (d.n : Int)))) == true))) (aI.get rfl) (aI.get rfl) (fun he => g_mkt rfl he)) fun _ ca => ?_
 refine sq_end ?_
 have k := ca.keep [(2, .pointer (some (⟨f, 0, none⟩ : Addr))), (3, .pointer (some (⟨i, 0, none⟩ : Addr))), (5, .int .i64 c), (6, .int .i64 b), (25, .bool (((decide (c = 0)) && (decide (b < (d.n : Int)))) && (decide (b < (j.n : Int)))))] ⟨rfl, rfl, rfl, rfl, rfl, trivial⟩
 refine then_normal ?_
 refine wp_cond_split (k.get rfl) (fun hc => ?_) (fun hc => ?_)
 ·have cb := a4.1 ⟨⟨(of_decide_eq_true (b_and_t (b_and_t hc).1).1), (of_decide_eq_true (b_and_t (b_and_t hc).1).2)⟩, (of_decide_eq_true (b_and_t hc).2)⟩
  clear hc
  refine wp_skip ?_
  refine then_normal (wp_seq (wp_block ?_))
  refine draw' (by kernel_rfl) fun y aJ => ?_
  have bi := ax.ext aJ
  have bj := ay.ext aJ
  have cc : Chg [] z y := aJ
  have cd := cb y    cc
  obtain ⟨au, bk, cf⟩ := cd
  obtain ⟨af, ah, ai, aj, ak, cg, ch⟩ := cf
  obtain ⟨av, bl, ci⟩ := ch
  obtain ⟨al, am, an, ao, ap, cj, ck⟩ := ci
  obtain ⟨l, cl, cm⟩ := ck
  refine par (D := [[], [0], [], [0, 1, 2], [0, 1, 2, 3], [], [5], [], [5, 6, 7], [5, 6, 7, 8], [0, 1, 2, 3, 4, 5, 6, 7, 8, 9], [0, 1, 2, 3, 4, 5, 6, 7, 8, 9, 10]]) (S := [0, 1, 2, 3, 4, 5, 6, 7, 8, 9, 10, 11]) (F := []) (V := VL [(0, fun v _ => v = .pointer (some (⟨f, 4, none⟩ : Addr))), (1, fun v _ => v = Sl.v d), (2, fun v _ => v = .int .i64 b), (3, fun v _ => v = .pointer (some (au.add (b.toNat * 5)))), (4, fun v _ => v = .agg #[.int .i64 af, .string (Bs ah), .string (Bs ai), Sl.v aj, Sl.v ak]), (5, fun v _ => v = .pointer (some (⟨i, 4, none⟩ : Addr))), (6, fun v _ => v = Sl.v j), (7, fun v _ => v = .int .i64 b), (8, fun v _ => v = .pointer (some (av.add (b.toNat * 5)))), (9, fun v _ => v = .agg #[.int .i64 al, .string (Bs am), .string (Bs an), Sl.v ao, Sl.v ap]), (10, fun v _ => v = .int .i64 l), (11, fun v _ => v = .int .i64 l)]) k (by kernel_rfl) ⟨fun _ _ _ _ h => h, fun _ _ _ _ h => h, fun _ _ _ _ h => h, fun _ _ _ _ h => h, fun _ _ _ _ h => h, fun _ _ _ _ h => h, fun _ _ _ _ h => h, fun _ _ _ _ h => h, fun _ _ _ _ h => h, fun _ _ _ _ h => h, fun _ _ _ _ h => h, fun _ _ _ _ h => h, trivial⟩ ⟨?_, ?_, ?_, ?_, ?_, ?_, ?_, ?_, ?_, ?_, ?_, ?_, trivial⟩ ?_
  ·intro a w hT
   have hAp := hT.ag k [(2, .pointer (some (⟨f, 0, none⟩ : Addr)))] ⟨rfl, trivial⟩ (by kernel_rfl)
   exact ovr hAp rfl (r_fieldAddr (hAp.get rfl) Try.underlying29 rfl ti_27 (by decide)) fun _ => Eq.refl _
  ·intro a w hT
   have hAp := hT.ag k [] trivial (by kernel_rfl)
   have cn : a.tmps.getD 28 undef = .pointer (some (⟨f, 4, none⟩ : Addr)) := hT.vals 0 rfl 28 rfl
   have hAp := hAp.add cn
   exact ovr hAp rfl (r_load1 Try.underlying27 rfl (hAp.get rfl) ((bi.ext hT.chg).cell 4 _ rfl)) fun _ => Eq.refl _
  ·intro a w hT
   have hAp := hT.ag k [(6, .int .i64 b)] ⟨rfl, trivial⟩ (by kernel_rfl)
   exact ovr hAp rfl (r_move (hAp.get rfl)) fun _ => Eq.refl _
  ·intro a w hT
   have hAp := hT.ag k [] trivial (by kernel_rfl)
   have co : a.tmps.getD 29 undef = Sl.v d := hT.vals 1 rfl 29 rfl
   have hAp := hAp.add co
   have cp : a.tmps.getD 30 undef = .int .i64 b := hT.vals 2 rfl 30 rfl
   have hAp := hAp.add cp
   exact ovr hAp rfl (r_indexAddr (hAp.get rfl) (hAp.get rfl) Try.underlying27 ti_29 bk.1 bk.2) fun _ => Eq.refl _
  ·intro a w hT
   have hAp := hT.ag k [] trivial (by kernel_rfl)
   have cq : a.tmps.getD 31 undef = .pointer (some (au.add (b.toNat * 5))) := hT.vals 3 rfl 31 rfl
   have hAp := hAp.add cq
   exact ovr hAp rfl (r_loadN Try.underlying29 rfl ti_29 (hAp.get rfl) (cg.ext hT.chg)) fun _ => Eq.refl _
  ·intro a w hT
   have hAp := hT.ag k [(3, .pointer (some (⟨i, 0, none⟩ : Addr)))] ⟨rfl, trivial⟩ (by kernel_rfl)
   exact ovr hAp rfl (r_fieldAddr (hAp.get rfl) Try.underlying29 rfl ti_27 (by decide)) fun _ => Eq.refl _
  ·intro a w hT
   have hAp := hT.ag k [] trivial (by kernel_rfl)
   have cr : a.tmps.getD 33 undef = .pointer (some (⟨i, 4, none⟩ : Addr)) := hT.vals 5 rfl 33 rfl
   have hAp := hAp.add cr
   exact ovr hAp rfl (r_load1 Try.underlying27 rfl (hAp.get rfl) ((bj.ext hT.chg).cell 4 _ rfl)) fun _ => Eq.refl _
  ·intro a w hT
   have hAp := hT.ag k [(6, .int .i64 b)] ⟨rfl, trivial⟩ (by kernel_rfl)
   exact ovr hAp rfl (r_move (hAp.get rfl)) fun _ => Eq.refl _
  ·intro a w hT
   have hAp := hT.ag k [] trivial (by kernel_rfl)
   have ct : a.tmps.getD 34 undef = Sl.v j := hT.vals 6 rfl 34 rfl
   have hAp := hAp.add ct
   have cu : a.tmps.getD 35 undef = .int .i64 b := hT.vals 7 rfl 35 rfl
   have hAp := hAp.add cu
   exact ovr hAp rfl (r_indexAddr (hAp.get rfl) (hAp.get rfl) Try.underlying27 ti_29 bl.1 bl.2) fun _ => Eq.refl _
  ·intro a w hT
   have hAp := hT.ag k [] trivial (by kernel_rfl)
   have cv : a.tmps.getD 36 undef = .pointer (some (av.add (b.toNat * 5))) := hT.vals 8 rfl 36 rfl
   have hAp := hAp.add cv
   exact ovr hAp rfl (r_loadN Try.underlying29 rfl ti_29 (hAp.get rfl) (cj.ext hT.chg)) fun _ => Eq.refl _
  ·intro a w hT
   have hAp := hT.ag k [] trivial (by kernel_rfl)
   have cx : a.tmps.getD 32 undef = .agg #[.int .i64 af, .string (Bs ah), .string (Bs ai), Sl.v aj, Sl.v ak] := hT.vals 4 rfl 32 rfl
   have hAp := hAp.add cx
   have cy : a.tmps.getD 37 undef = .agg #[.int .i64 al, .string (Bs am), .string (Bs an), Sl.v ao, Sl.v ap] := hT.vals 9 rfl 37 rfl
   have hAp := hAp.add cy
   exact opk_callX hAp rfl (r_call (args := #[.agg #[.int .i64 af, .string (Bs ah), .string (Bs ai), Sl.v aj, Sl.v ak], .agg #[.int .i64 al, .string (Bs am), .string (Bs an), Sl.v ao, Sl.v ap]]) Try.func68 (by decide) rfl (map_arr (ml_cons (hAp.get rfl) (ml_cons (hAp.get rfl) ml_nil))) rfl) (cl w hT.chg) fun _ _ _ _ e hR => ⟨_, e, hR.1, fun _ => hR.2⟩
  ·intro a w hT
   have hAp := hT.ag k [] trivial (by kernel_rfl)
   have cz : a.tmps.getD 38 undef = .int .i64 l := hT.vals 10 rfl 38 rfl
   have hAp := hAp.add cz
   exact ovr hAp rfl (r_assign (hAp.get rfl)) fun _ => Eq.refl _
  ·intro cA ab aK cB cC
   have cD := cB [(2, .pointer (some (⟨f, 0, none⟩ : Addr))), (3, .pointer (some (⟨i, 0, none⟩ : Addr))), (6, .int .i64 b)] ⟨rfl, rfl, rfl, trivial⟩ (by kernel_rfl)
   have cF : cA.tmps.getD 5 undef = .int .i64 l := cC 11 rfl 5 rfl
   have cG := cD.add cF
   have cH := bi.ext aK
   have cI := bj.ext aK
   have cJ : Chg [] y ab := aK
   refine PR_end (by kernel_rfl) ?_
   have bm := cG.keep [(2, .pointer (some (⟨f, 0, none⟩ : Addr))), (3, .pointer (some (⟨i, 0, none⟩ : Addr))), (5, .int .i64 l), (6, .int .i64 b)] ⟨rfl, rfl, rfl, rfl, trivial⟩
   refine block_normal ?_
   refine then_normal (wp_region_lit ?_)
   refine sqv bm rfl (r_move (bm.get rfl)) fun _ bn => ?_
   obtain ⟨cK, cL⟩ := cm
   refine sqv bn rfl (r_addI (bn.get rfl) rfl cK) fun _ bo => ?_
   refine sqv bo rfl (r_assign (bo.get rfl)) fun _ cM => ?_
   refine sq_end ?_
   have cN := cM.keep [(2, .pointer (some (⟨f, 0, none⟩ : Addr))), (3, .pointer (some (⟨i, 0, none⟩ : Addr))), (5, .int .i64 l), (6, .int .i64 (b + 1))] ⟨rfl, rfl, rfl, rfl, trivial⟩
   have bp := cL ab    cJ
   have cO := cN.keep [(2, .pointer (some (⟨f, 0, none⟩ : Addr))), (3, .pointer (some (⟨i, 0, none⟩ : Addr))), (5, .int .i64 l), (6, .int .i64 (b + 1))] ⟨rfl, rfl, rfl, rfl, trivial⟩
   exact then_normal ⟨(l, b + 1, ab), ⟨cO, cH, cI, rfl, bp.1⟩, bp.2⟩
 ·have bq := a4.2 ((b_and_f hc).imp (fun h => ((b_and_f h).imp (fun h => (of_decide_eq_false h)) (fun h => (of_decide_eq_false h)))) (fun h => (of_decide_eq_false h)))
  clear hc
  refine wp_exit ?_
  refine then_exit ?_
  refine then_exit ?_
  refine block_hit ?_
  have br := k.keep [(2, .pointer (some (⟨f, 0, none⟩ : Addr))), (3, .pointer (some (⟨i, 0, none⟩ : Addr))), (5, .int .i64 c)] ⟨rfl, rfl, rfl, trivial⟩
  refine then_normal (wp_seq (wp_seq (wp_region_lit ?_)))
  refine sqv br rfl (r_move (br.get rfl)) fun _ bs => ?_
  refine sqv bs rfl (r_eql (bs.get rfl) rfl) fun _ cP => ?_
  refine sq_end ?_
  have az := cP.keep [(2, .pointer (some (⟨f, 0, none⟩ : Addr))), (3, .pointer (some (⟨i, 0, none⟩ : Addr))), (5, .int .i64 c), (40, .bool (decide (c = 0)))] ⟨rfl, rfl, rfl, rfl, trivial⟩
  refine then_normal ?_
  refine wp_cond_split (az.get rfl) (fun hc => ?_) (fun hc => ?_)
  ·have cQ := bq.1 (of_decide_eq_true hc)
   clear hc
   refine wp_region_lit ?_
   refine sqv az rfl (r_fieldAddr (az.get rfl) Try.underlying29 rfl ti_27 (by decide)) fun _ bt => ?_
   refine sqv bt rfl (r_load1 Try.underlying27 rfl (bt.get rfl) (ax.cell 4 _ rfl)) fun _ bu => ?_
   refine sqv bu rfl (r_len (bu.get rfl) Try.underlying27) fun _ bv => ?_
   refine sqv bv rfl (r_fieldAddr (bv.get rfl) Try.underlying29 rfl ti_27 (by decide)) fun _ bx => ?_
   refine sqv bx rfl (r_load1 Try.underlying27 rfl (bx.get rfl) (ay.cell 4 _ rfl)) fun _ bz => ?_
   refine sqv bz rfl (r_len (bz.get rfl) Try.underlying27) fun _ aL => ?_
   refine sqv aL rfl (r_lss (aL.get rfl) (aL.get rfl)) fun _ bA => ?_
   refine sqv bA rfl (r_fieldAddr (bA.get rfl) Try.underlying29 rfl ti_27 (by decide)) fun _ bB => ?_
   refine sqv bB rfl (r_load1 Try.underlying27 rfl (bB.get rfl) (ax.cell 4 _ rfl)) fun _ bC => ?_
   refine sqv bC rfl (r_len (bC.get rfl) Try.underlying27) fun _ bD => ?_
   refine sqv bD rfl (r_fieldAddr (bD.get rfl) Try.underlying29 rfl ti_27 (by decide)) fun _ bF => ?_
   refine sqv bF rfl (r_load1 Try.underlying27 rfl (bF.get rfl) (ay.cell 4 _ rfl)) fun _ bG => ?_
   refine sqv bG rfl (r_len (bG.get rfl) Try.underlying27) fun _ aM => ?_
   refine sqv aM rfl (r_gtr (aM.get rfl) (aM.get rfl)) fun _ aN => ?_
   refine sq (opk_call aN rfl (r_call (args := #[.bool (decide ((d.n : Int) < (j.n : Int))), .bool (decide ((j.n : Int) < (d.n : Int)))]) Try.func86 (by decide) rfl (map_arr (ml_cons (aN.get rfl) (ml_cons (aN.get rfl) ml_nil))) rfl) cQ fun dh di aO bH _ bI dj cR => ?_)
   obtain ⟨aq, rfl, cS⟩ := cR
   have dk := ax.kept bI (.head _)
   have dl := ay.kept bI (.tail _ (.head _))
   refine sqv bH rfl (r_assign (bH.get rfl)) fun _ cT => ?_
   refine sq_end ?_
   have bJ := cT.keep [(5, .int .i64 aq)] ⟨rfl, trivial⟩
   refine then_normal (wp_seq (wp_region_lit ?_))
   refine sqv bJ rfl (r_move (bJ.get rfl)) fun _ bK => ?_
   refine sqv bK rfl (r_assign (bK.get rfl)) fun _ cU => ?_
   refine sq_end ?_
   have bL := cU.keep [(4, .int .i64 aq)] ⟨rfl, trivial⟩
   refine then_normal ?_
   refine wp_ret ?_
   exact res_all (vs := [.int .i64 aq]) rfl bL ⟨res_of_tmp bL rfl, trivial⟩ cS
  ·have cX := bq.2 (of_decide_eq_false hc)
   clear hc
   refine wp_skip ?_
   refine then_normal (wp_seq (wp_region_lit ?_))
   refine sqv az rfl (r_move (az.get rfl)) fun _ bM => ?_
   refine sqv bM rfl (r_assign (bM.get rfl)) fun _ cY => ?_
   refine sq_end ?_
   have bN := cY.keep [(4, .int .i64 c)] ⟨rfl, trivial⟩
   refine then_normal ?_
   refine wp_ret ?_
   exact res_all (vs := [.int .i64 c]) rfl bN ⟨res_of_tmp bN rfl, trivial⟩ cX
def ref05_Size.vc (j : Int) (k : Str) (l : Str) (m : Sl) (f : Sl) (R : Value → World → Prop) (w : World) : Prop :=
∀ (h : World) (d : Nat), New w d h → Chg [] w h →
∃ (o : Int → Int → World → Prop) (p : Int → Int → World → Nat),
o 1 0 h ∧
(∀ (c : Int) (b : Int) (i : World), o c b i →
((b < (f.n : Int)) →
((0 : Int) ≤ b ∧ b < (f.n : Int)) ∧ ∃ aa : Addr, f.a = some aa ∧
∃ (q : Int) (r : Str) (t : Str) (u : Sl) (x : Sl), (Cells i (aa.add (b.toNat * 5)) [.int .i64 q, .string (Bs r), .string (Bs t), Sl.v u, Sl.v x]) ∧
CallK Try.prog 69 #[.agg #[.int .i64 q, .string (Bs r), .string (Bs t), Sl.v u, Sl.v x]] i [d] (fun v y => ∃ (g : Int), v = .int .i64 g ∧
(I64 (c + g)) ∧
(I64 (b + 1)) ∧
o (c + g) (b + 1) y ∧ p (c + g) (b + 1) y < p c b i)) ∧
((¬ (b < (f.n : Int))) →
R (.int .i64 c) i))
theorem ref05_Size.ok (j : Int) (k : Str) (l : Str) (m : Sl) (f : Sl) {R : Value → World → Prop} {w : World} (ah : ref05_Size.vc j k l m f R w) : Calls Try.prog 69 #[.agg #[.int .i64 j, .string (Bs k), .string (Bs l), Sl.v m, Sl.v f]] w (Ret R) := by
 refine enter [.agg #[.int .i64 j, .string (Bs k), .string (Bs l), Sl.v m, Sl.v f]] Try.func69 rfl Try.ntmps69 rfl ?_
 intro a0 ai
 unfold ref05_Size.vc at ah
 refine wp_seq (wp_region_lit ?_)
 refine sq (opk_new (fun B => .pointer (some ⟨B, 0, none⟩)) ai rfl (r_box (cs := [.int .i64 j, .string (Bs k), .string (Bs l), Sl.v m, Sl.v f]) (ai.get rfl) rfl) fun a4 h d aF aG aH aI _ => ?_)
 have aJ : New w d h := aG
 have aK : Chg [] w h := aF
 refine sqv aI rfl (r_assign rfl) fun _ aL => ?_
 refine sq_end ?_
 have aM := aL.keep [(1, .pointer (some (⟨d, 0, none⟩ : Addr)))] ⟨rfl, trivial⟩
 refine then_normal (wp_seq (wp_region_lit ?_))
 refine sqv aM rfl (r_assign rfl) fun _ aN => ?_
 refine sq_end ?_
 have aO := aN.keep [(1, .pointer (some (⟨d, 0, none⟩ : Addr))), (3, .int .i64 1)] ⟨rfl, rfl, trivial⟩
 refine then_normal (wp_seq (wp_seq (wp_region_lit ?_)))
 refine sqv aO rfl (r_assign rfl) fun _ aP => ?_
 refine sq_end ?_
 have aQ := aP.keep [(1, .pointer (some (⟨d, 0, none⟩ : Addr))), (3, .int .i64 1), (4, .int .i64 0)] ⟨rfl, rfl, rfl, trivial⟩
 refine then_normal (wp_block ?_)
 have aR := ah h d aJ  aK
 obtain ⟨o, p, aS, aT⟩ := aR
 refine wp_loop_st (σ := Int × Int × World) (fun s a w => Ag 21 a [(1, .pointer (some (⟨d, 0, none⟩ : Addr))), (3, .int .i64 s.1), (4, .int .i64 s.2.1)] ∧ Box w d 29 [.int .i64 j, .string (Bs k), .string (Bs l), Sl.v m, Sl.v f] ∧ w = s.2.2 ∧ o s.1 s.2.1 s.2.2) (fun s => p s.1 s.2.1 s.2.2) (1, 0, h) ⟨aQ.keep [(1, .pointer (some (⟨d, 0, none⟩ : Addr))), (3, .int .i64 1), (4, .int .i64 0)] ⟨rfl, rfl, rfl, trivial⟩, aH, rfl, aS⟩ ?_
 rintro ⟨c, b, i⟩ bk w_ ⟨aj, ab, hw_, aU⟩
 have hw_ : i = w_ := hw_.symm
 subst hw_
 have ak := aT c b _ aU
 refine wp_seq (wp_seq (wp_region_lit ?_))
 refine sqv aj rfl (r_move (aj.get rfl)) fun _ al => ?_
 refine sqv al rfl (r_fieldAddr (al.get rfl) Try.underlying29 rfl ti_27 (by decide)) fun _ am => ?_
 refine sqv am rfl (r_load1 Try.underlying27 rfl (am.get rfl) (ab.cell 4 _ rfl)) fun _ an => ?_
 refine sqv an rfl (r_len (an.get rfl) Try.underlying27) fun _ ad => ?_
 refine sqv ad rfl (r_lss (ad.get rfl) (ad.get rfl)) fun _ aV => ?_
 refine sq_end ?_
 have z := aV.keep [(1, .pointer (some (⟨d, 0, none⟩ : Addr))), (3, .int .i64 c), (4, .int .i64 b), (9, .bool (decide (b < (f.n : Int))))] ⟨rfl, rfl, rfl, rfl, trivial⟩
 refine then_normal ?_
 refine wp_cond_split (z.get rfl) (fun hc => ?_) (fun hc => ?_)
 ·have aX := ak.1 (of_decide_eq_true hc)
  clear hc
  refine wp_skip ?_
  refine then_normal (wp_seq (wp_block (wp_region_lit ?_)))
  refine sqv z rfl (r_move (z.get rfl)) fun _ ao => ?_
  refine sqv ao rfl (r_fieldAddr (ao.get rfl) Try.underlying29 rfl ti_27 (by decide)) fun _ ap => ?_
  refine sqv ap rfl (r_load1 Try.underlying27 rfl (ap.get rfl) (ab.cell 4 _ rfl)) fun _ aq => ?_
  refine sqv aq rfl (r_move (aq.get rfl)) fun _ af => ?_
  obtain ⟨aY, aa, aZ, ht86⟩ := aX
  refine sqv af rfl (r_indexAddr (af.get rfl) (af.get rfl) Try.underlying27 ti_29 aY aZ) fun _ ar => ?_
  obtain ⟨q, r, t, u, x, a1, a2⟩ := ht86
  refine sqv ar rfl (r_loadN Try.underlying29 rfl ti_29 (ar.get rfl) a1) fun _ au => ?_
  refine sq (opk_call au rfl (r_call (args := #[.agg #[.int .i64 q, .string (Bs r), .string (Bs t), Sl.v u, Sl.v x]]) Try.func69 (by decide) rfl (map_arr (ml_cons (au.get rfl) ml_nil)) rfl) a2 fun bl bm y ag _ a3 bn hK98 => ?_)
  obtain ⟨g, rfl, a5⟩ := hK98
  have a6 := ab.kept a3 (.head _)
  obtain ⟨a7, a8⟩ := a5
  refine sqv ag rfl (r_addI (ag.get rfl) (ag.get rfl) a7) fun _ av => ?_
  refine sqv av rfl (r_assign (av.get rfl)) fun _ a9 => ?_
  refine sq_end ?_
  have ax := a9.keep [(1, .pointer (some (⟨d, 0, none⟩ : Addr))), (3, .int .i64 (c + g)), (4, .int .i64 b)] ⟨rfl, rfl, rfl, trivial⟩
  refine block_normal ?_
  refine then_normal (wp_region_lit ?_)
  refine sqv ax rfl (r_move (ax.get rfl)) fun _ ay => ?_
  obtain ⟨ba, az⟩ := a8
  refine sqv ay rfl (r_addI (ay.get rfl) rfl ba) fun _ aA => ?_
  refine sqv aA rfl (r_assign (aA.get rfl)) fun _ bb => ?_
  refine sq_end ?_
  have bd := bb.keep [(1, .pointer (some (⟨d, 0, none⟩ : Addr))), (3, .int .i64 (c + g)), (4, .int .i64 (b + 1))] ⟨rfl, rfl, rfl, trivial⟩
  have bf := bd.keep [(1, .pointer (some (⟨d, 0, none⟩ : Addr))), (3, .int .i64 (c + g)), (4, .int .i64 (b + 1))] ⟨rfl, rfl, rfl, trivial⟩
  exact then_normal ⟨(c + g, b + 1, y), ⟨bf, a6, rfl, az.1⟩, az.2⟩
 ·have bg := ak.2 (of_decide_eq_false hc)
  clear hc
  refine wp_exit ?_
  refine then_exit ?_
  refine then_exit ?_
  refine block_hit ?_
  have aB := z.keep [(3, .int .i64 c)] ⟨rfl, trivial⟩
  refine then_normal (wp_seq (wp_region_lit ?_))
  refine sqv aB rfl (r_move (aB.get rfl)) fun _ aC => ?_
  refine sqv aC rfl (r_assign (aC.get rfl)) fun _ bh => ?_
  refine sq_end ?_
  have aD := bh.keep [(2, .int .i64 c)] ⟨rfl, trivial⟩
  refine then_normal ?_
  refine wp_ret ?_
  exact res_all (vs := [.int .i64 c]) rfl aD ⟨res_of_tmp aD rfl, trivial⟩ bg
def ref05_Depth.vc (j : Int) (k : Str) (l : Str) (m : Sl) (f : Sl) (R : Value → World → Prop) (w : World) : Prop :=
∀ (g : World) (d : Nat), New w d g → Chg [] w g →
∃ (o : Int → Int → World → Prop) (p : Int → Int → World → Nat),
o 0 0 g ∧
(∀ (c : Int) (b : Int) (i : World), o c b i →
((b < (f.n : Int)) →
((0 : Int) ≤ b ∧ b < (f.n : Int)) ∧ ∃ aa : Addr, f.a = some aa ∧
∃ (q : Int) (r : Str) (t : Str) (u : Sl) (x : Sl), (Cells i (aa.add (b.toNat * 5)) [.int .i64 q, .string (Bs r), .string (Bs t), Sl.v u, Sl.v x]) ∧
CallK Try.prog 70 #[.agg #[.int .i64 q, .string (Bs r), .string (Bs t), Sl.v u, Sl.v x]] i [d] (fun v y => ∃ (h : Int), v = .int .i64 h ∧
(I64 (b + 1)) ∧
o (max c h) (b + 1) y ∧ p (max c h) (b + 1) y < p c b i)) ∧
((¬ (b < (f.n : Int))) →
(I64 (c + 1)) ∧
R (.int .i64 (c + 1)) i))
theorem ref05_Depth.ok (j : Int) (k : Str) (l : Str) (m : Sl) (f : Sl) {R : Value → World → Prop} {w : World} (ah : ref05_Depth.vc j k l m f R w) : Calls Try.prog 70 #[.agg #[.int .i64 j, .string (Bs k), .string (Bs l), Sl.v m, Sl.v f]] w (Ret R) := by
 refine enter [.agg #[.int .i64 j, .string (Bs k), .string (Bs l), Sl.v m, Sl.v f]] Try.func70 rfl Try.ntmps70 rfl ?_
 intro a0 ai
 unfold ref05_Depth.vc at ah
 refine wp_seq (wp_region_lit ?_)
 refine sq (opk_new (fun B => .pointer (some ⟨B, 0, none⟩)) ai rfl (r_box (cs := [.int .i64 j, .string (Bs k), .string (Bs l), Sl.v m, Sl.v f]) (ai.get rfl) rfl) fun a4 g d aG aH aI aJ _ => ?_)
 have aK : New w d g := aH
 have aL : Chg [] w g := aG
 refine sqv aJ rfl (r_assign rfl) fun _ aM => ?_
 refine sq_end ?_
 have aN := aM.keep [(1, .pointer (some (⟨d, 0, none⟩ : Addr)))] ⟨rfl, trivial⟩
 refine then_normal (wp_seq (wp_region_lit ?_))
 refine sqv aN rfl (r_assign rfl) fun _ aO => ?_
 refine sq_end ?_
 have aP := aO.keep [(1, .pointer (some (⟨d, 0, none⟩ : Addr))), (3, .int .i64 0)] ⟨rfl, rfl, trivial⟩
 refine then_normal (wp_seq (wp_seq (wp_region_lit ?_)))
 refine sqv aP rfl (r_assign rfl) fun _ aQ => ?_
 refine sq_end ?_
 have aR := aQ.keep [(1, .pointer (some (⟨d, 0, none⟩ : Addr))), (3, .int .i64 0), (4, .int .i64 0)] ⟨rfl, rfl, rfl, trivial⟩
 refine then_normal (wp_block ?_)
 have aS := ah g d aK  aL
 obtain ⟨o, p, aT, aU⟩ := aS
 refine wp_loop_st (σ := Int × Int × World) (fun s a w => Ag 22 a [(1, .pointer (some (⟨d, 0, none⟩ : Addr))), (3, .int .i64 s.1), (4, .int .i64 s.2.1)] ∧ Box w d 29 [.int .i64 j, .string (Bs k), .string (Bs l), Sl.v m, Sl.v f] ∧ w = s.2.2 ∧ o s.1 s.2.1 s.2.2) (fun s => p s.1 s.2.1 s.2.2) (0, 0, g) ⟨aR.keep [(1, .pointer (some (⟨d, 0, none⟩ : Addr))), (3, .int .i64 0), (4, .int .i64 0)] ⟨rfl, rfl, rfl, trivial⟩, aI, rfl, aT⟩ ?_
 rintro ⟨c, b, i⟩ bl w_ ⟨aj, ab, hw_, aV⟩
 have hw_ : i = w_ := hw_.symm
 subst hw_
 have ak := aU c b _ aV
 refine wp_seq (wp_seq (wp_region_lit ?_))
 refine sqv aj rfl (r_move (aj.get rfl)) fun _ al => ?_
 refine sqv al rfl (r_fieldAddr (al.get rfl) Try.underlying29 rfl ti_27 (by decide)) fun _ am => ?_
 refine sqv am rfl (r_load1 Try.underlying27 rfl (am.get rfl) (ab.cell 4 _ rfl)) fun _ an => ?_
 refine sqv an rfl (r_len (an.get rfl) Try.underlying27) fun _ ad => ?_
 refine sqv ad rfl (r_lss (ad.get rfl) (ad.get rfl)) fun _ aX => ?_
 refine sq_end ?_
 have z := aX.keep [(1, .pointer (some (⟨d, 0, none⟩ : Addr))), (3, .int .i64 c), (4, .int .i64 b), (9, .bool (decide (b < (f.n : Int))))] ⟨rfl, rfl, rfl, rfl, trivial⟩
 refine then_normal ?_
 refine wp_cond_split (z.get rfl) (fun hc => ?_) (fun hc => ?_)
 ·have aY := ak.1 (of_decide_eq_true hc)
  clear hc
  refine wp_skip ?_
  refine then_normal (wp_seq (wp_block (wp_region_lit ?_)))
  refine sqv z rfl (r_move (z.get rfl)) fun _ ao => ?_
  refine sqv ao rfl (r_fieldAddr (ao.get rfl) Try.underlying29 rfl ti_27 (by decide)) fun _ ap => ?_
  refine sqv ap rfl (r_load1 Try.underlying27 rfl (ap.get rfl) (ab.cell 4 _ rfl)) fun _ aq => ?_
  refine sqv aq rfl (r_move (aq.get rfl)) fun _ af => ?_
  obtain ⟨aZ, aa, hp83, a1⟩ := aY
  refine sqv af rfl (r_indexAddr (af.get rfl) (af.get rfl) Try.underlying27 ti_29 aZ hp83) fun _ ar => ?_
  obtain ⟨q, r, t, u, x, a2, a3⟩ := a1
  refine sqv ar rfl (r_loadN Try.underlying29 rfl ti_29 (ar.get rfl) a2) fun _ au => ?_
  refine sq (opk_call au rfl (r_call (args := #[.agg #[.int .i64 q, .string (Bs r), .string (Bs t), Sl.v u, Sl.v x]]) Try.func70 (by decide) rfl (map_arr (ml_cons (au.get rfl) ml_nil)) rfl) a3 fun bm bn y ag _ hn94 bo a5 => ?_)
  obtain ⟨h, rfl, a6⟩ := a5
  have a7 := ab.kept hn94 (.head _)
  refine sqv ag rfl (r_max (ag.get rfl) (ag.get rfl)) fun _ av => ?_
  refine sqv av rfl (r_assign (av.get rfl)) fun _ a8 => ?_
  refine sq_end ?_
  have ax := a8.keep [(1, .pointer (some (⟨d, 0, none⟩ : Addr))), (3, .int .i64 (max c h)), (4, .int .i64 b)] ⟨rfl, rfl, rfl, trivial⟩
  refine block_normal ?_
  refine then_normal (wp_region_lit ?_)
  refine sqv ax rfl (r_move (ax.get rfl)) fun _ ay => ?_
  obtain ⟨a9, az⟩ := a6
  refine sqv ay rfl (r_addI (ay.get rfl) rfl a9) fun _ aA => ?_
  refine sqv aA rfl (r_assign (aA.get rfl)) fun _ ba => ?_
  refine sq_end ?_
  have bb := ba.keep [(1, .pointer (some (⟨d, 0, none⟩ : Addr))), (3, .int .i64 (max c h)), (4, .int .i64 (b + 1))] ⟨rfl, rfl, rfl, trivial⟩
  have bd := bb.keep [(1, .pointer (some (⟨d, 0, none⟩ : Addr))), (3, .int .i64 (max c h)), (4, .int .i64 (b + 1))] ⟨rfl, rfl, rfl, trivial⟩
  exact then_normal ⟨(max c h, b + 1, y), ⟨bd, a7, rfl, az.1⟩, az.2⟩
 ·have bf := ak.2 (of_decide_eq_false hc)
  clear hc
  refine wp_exit ?_
  refine then_exit ?_
  refine then_exit ?_
  refine block_hit ?_
  have aB := z.keep [(3, .int .i64 c)] ⟨rfl, trivial⟩
  refine then_normal (wp_seq (wp_region_lit ?_))
  refine sqv aB rfl (r_move (aB.get rfl)) fun _ aC => ?_
  obtain ⟨bg, bh⟩ := bf
  refine sqv aC rfl (r_addI (aC.get rfl) rfl bg) fun _ aD => ?_
  refine sqv aD rfl (r_assign (aD.get rfl)) fun _ bi => ?_
  refine sq_end ?_
  have aF := bi.keep [(2, .int .i64 (c + 1))] ⟨rfl, trivial⟩
  refine then_normal ?_
  refine wp_ret ?_
  exact res_all (vs := [.int .i64 (c + 1)]) rfl aF ⟨res_of_tmp aF rfl, trivial⟩ bh
def ref05_all.vc (f : Int) (j : Str) (k : Str) (l : Sl) (d : Sl) (p : Bool) (q : Bool) (R : Value → World → Prop) (w : World) : Prop :=
∀ (r : World) (c : Nat), New w c r → Chg [] w r →
CallK Try.prog 87 #[.agg #[.int .i64 f, .string (Bs j), .string (Bs k), Sl.v l, Sl.v d], .bool p, .bool q] r [c] (fun v ah => ∃ (ab : Bool), v = .bool ab ∧
((ab = false) →
R (.bool false) ah) ∧
((ab = true) →
∃ (ad : Int → World → Prop) (ai : Int → World → Nat),
ad 0 ah ∧
(∀ (b : Int) (t : World), ad b t →
((b < (d.n : Int)) →
∀ (m : World), Chg [] t m →
∃ af : Addr, (((0 : Int) ≤ b ∧ b < (d.n : Int)) ∧ d.a = some af) ∧
∃ (u : Int) (x : Str) (y : Str) (z : Sl) (aa : Sl), (Cells m (af.add (b.toNat * 5)) [.int .i64 u, .string (Bs x), .string (Bs y), Sl.v z, Sl.v aa]) ∧
∃ (o : Bool), (∀ w' : World, Ext m w' → Calls Try.prog 71 #[.agg #[.int .i64 u, .string (Bs x), .string (Bs y), Sl.v z, Sl.v aa], .bool false, .bool (decide (f = 1))] w' (Ret fun v w'' => Ext w' w'' ∧ v = .bool o)) ∧
((o = false) →
∀ (i : World), Chg [] m i →
R (.bool false) i) ∧
((o = true) →
(I64 (b + 1)) ∧
∀ (i : World), Chg [] m i →
ad (b + 1) i ∧ ai (b + 1) i < ai b t)) ∧
((¬ (b < (d.n : Int))) →
R (.bool true) t))))
theorem ref05_all.ok (f : Int) (j : Str) (k : Str) (l : Sl) (d : Sl) (p : Bool) (q : Bool) {R : Value → World → Prop} {w : World} (ao : ref05_all.vc f j k l d p q R w) : Calls Try.prog 71 #[.agg #[.int .i64 f, .string (Bs j), .string (Bs k), Sl.v l, Sl.v d], .bool p, .bool q] w (Ret R) := by
 refine enter [.agg #[.int .i64 f, .string (Bs j), .string (Bs k), Sl.v l, Sl.v d], .bool p, .bool q] Try.func71 rfl Try.ntmps71 rfl ?_
 intro a0 ap
 unfold ref05_all.vc at ao
 refine wp_seq (wp_region_lit ?_)
 refine sq (opk_new (fun B => .pointer (some ⟨B, 0, none⟩)) ap rfl (r_box (cs := [.int .i64 f, .string (Bs j), .string (Bs k), Sl.v l, Sl.v d]) (ap.get rfl) rfl) fun a6 r c aR aS aq aT _ => ?_)
 have aU : New w c r := aS
 have aV : Chg [] w r := aR
 refine sqv aT rfl (r_assign rfl) fun _ aX => ?_
 refine sq_end ?_
 have ar := aX.keep [(1, .bool p), (2, .bool q), (3, .pointer (some (⟨c, 0, none⟩ : Addr)))] ⟨rfl, rfl, rfl, trivial⟩
 refine then_normal (wp_seq (wp_seq (wp_region_lit ?_)))
 refine sqv ar rfl (r_loadN (cs := [.int .i64 f, .string (Bs j), .string (Bs k), Sl.v l, Sl.v d]) Try.underlying29 rfl ti_29 (ar.get rfl) (aq.part 0 _ rfl)) fun _ au => ?_
 refine sqv au rfl (r_move (au.get rfl)) fun _ av => ?_
 refine sqv av rfl (r_move (av.get rfl)) fun _ aj => ?_
 have aY := ao r c aU  aV
 refine sq (opk_call aj rfl (r_call (args := #[.agg #[.int .i64 f, .string (Bs j), .string (Bs k), Sl.v l, Sl.v d], .bool p, .bool q]) Try.func87 (by decide) rfl (map_arr (ml_cons (aj.get rfl) (ml_cons (aj.get rfl) (ml_cons (aj.get rfl) ml_nil)))) rfl) aY fun bS bT ah ax _ aZ bU hK24 => ?_)
 obtain ⟨ab, rfl, ay⟩ := hK24
 have a1 := aq.kept aZ (.head _)
 refine sqv ax rfl (r_not (ax.get rfl)) fun _ a2 => ?_
 refine sq_end ?_
 have al := a2.keep [(3, .pointer (some (⟨c, 0, none⟩ : Addr))), (12, .bool (!ab))] ⟨rfl, rfl, trivial⟩
 refine then_normal ?_
 refine wp_cond_split (al.get rfl) (fun hc => ?_) (fun hc => ?_)
 ·have a3 := ay.1 (b_not_t hc)
  clear hc
  refine wp_seq (wp_region_lit ?_)
  refine sqv al rfl (r_assign rfl) fun _ a4 => ?_
  refine sq_end ?_
  have az := a4.keep [(6, .bool false)] ⟨rfl, trivial⟩
  refine then_normal ?_
  refine wp_ret ?_
  refine then_ret ?_
  exact res_all (vs := [.bool false]) rfl az ⟨res_of_tmp az rfl, trivial⟩ a3
 ·have a5 := ay.2 (b_not_f hc)
  clear hc
  refine wp_skip ?_
  refine then_normal (wp_seq (wp_seq (wp_region_lit ?_)))
  refine sqv al rfl (r_assign rfl) fun _ hA33 => ?_
  refine sq_end ?_
  have a7 := hA33.keep [(3, .pointer (some (⟨c, 0, none⟩ : Addr))), (7, .int .i64 0)] ⟨rfl, rfl, trivial⟩
  refine then_normal (wp_block ?_)
  obtain ⟨ad, ai, a8, a9⟩ := a5
  refine wp_loop_st (σ := Int × World) (fun s a w => Ag 30 a [(3, .pointer (some (⟨c, 0, none⟩ : Addr))), (7, .int .i64 s.1)] ∧ Box w c 29 [.int .i64 f, .string (Bs j), .string (Bs k), Sl.v l, Sl.v d] ∧ w = s.2 ∧ ad s.1 s.2) (fun s => ai s.1 s.2) (0, ah) ⟨a7.keep [(3, .pointer (some (⟨c, 0, none⟩ : Addr))), (7, .int .i64 0)] ⟨rfl, rfl, trivial⟩, a1, rfl, a8⟩ ?_
  rintro ⟨b, t⟩ bV w_ ⟨aA, aB, hw_, ba⟩
  have hw_ : t = w_ := hw_.symm
  subst hw_
  have aC := a9 b _ ba
  refine wp_seq (wp_seq (wp_region_lit ?_))
  refine sqv aA rfl (r_move (aA.get rfl)) fun _ aD => ?_
  refine sqv aD rfl (r_fieldAddr (aD.get rfl) Try.underlying29 rfl ti_27 (by decide)) fun _ aF => ?_
  refine sqv aF rfl (r_load1 Try.underlying27 rfl (aF.get rfl) (aB.cell 4 _ rfl)) fun _ aG => ?_
  refine sqv aG rfl (r_len (aG.get rfl) Try.underlying27) fun _ am => ?_
  refine sqv am rfl (r_lss (am.get rfl) (am.get rfl)) fun _ bb => ?_
  refine sq_end ?_
  have g := bb.keep [(3, .pointer (some (⟨c, 0, none⟩ : Addr))), (7, .int .i64 b), (17, .bool (decide (b < (d.n : Int))))] ⟨rfl, rfl, rfl, trivial⟩
  refine then_normal ?_
  refine wp_cond_split (g.get rfl) (fun hc => ?_) (fun hc => ?_)
  ·have bd := aC.1 (of_decide_eq_true hc)
   clear hc
   refine wp_skip ?_
   refine then_normal (wp_seq (wp_block (wp_seq ?_)))
   refine draw' (by kernel_rfl) fun m aH => ?_
   have an := aB.ext aH
   have bf : Chg [] t m := aH
   have bg := bd m    bf
   obtain ⟨af, aI, bh⟩ := bg
   obtain ⟨u, x, y, z, aa, bi, bj⟩ := bh
   obtain ⟨o, bk, aJ⟩ := bj
   refine par (D := [[], [0], [], [0, 1, 2], [0, 1, 2, 3], [], [5], [5, 6], [0, 1, 2, 3, 4, 5, 6, 7], [0, 1, 2, 3, 4, 5, 6, 7, 8]]) (S := [0, 1, 2, 3, 4, 5, 6, 7, 8, 9]) (F := []) (V := VL [(0, fun v _ => v = .pointer (some (⟨c, 4, none⟩ : Addr))), (1, fun v _ => v = Sl.v d), (2, fun v _ => v = .int .i64 b), (3, fun v _ => v = .pointer (some (af.add (b.toNat * 5)))), (4, fun v _ => v = .agg #[.int .i64 u, .string (Bs x), .string (Bs y), Sl.v z, Sl.v aa]), (5, fun v _ => v = .pointer (some (⟨c, 0, none⟩ : Addr))), (6, fun v _ => v = .int .i64 f), (7, fun v _ => v = .bool (decide (f = 1))), (8, fun v _ => v = .bool o), (9, fun v _ => v = .bool (!o))]) g (by kernel_rfl) ⟨fun _ _ _ _ h => h, fun _ _ _ _ h => h, fun _ _ _ _ h => h, fun _ _ _ _ h => h, fun _ _ _ _ h => h, fun _ _ _ _ h => h, fun _ _ _ _ h => h, fun _ _ _ _ h => h, fun _ _ _ _ h => h, fun _ _ _ _ h => h, trivial⟩ ⟨?_, ?_, ?_, ?_, ?_, ?_, ?_, ?_, ?_, ?_, trivial⟩ ?_
   ·intro a w hT
    have hAp := hT.ag g [(3, .pointer (some (⟨c, 0, none⟩ : Addr)))] ⟨rfl, trivial⟩ (by kernel_rfl)
    exact ovr hAp rfl (r_fieldAddr (hAp.get rfl) Try.underlying29 rfl ti_27 (by decide)) fun _ => Eq.refl _
   ·intro a w hT
    have hAp := hT.ag g [] trivial (by kernel_rfl)
    have bl : a.tmps.getD 20 undef = .pointer (some (⟨c, 4, none⟩ : Addr)) := hT.vals 0 rfl 20 rfl
    have hAp := hAp.add bl
    exact ovr hAp rfl (r_load1 Try.underlying27 rfl (hAp.get rfl) ((an.ext hT.chg).cell 4 _ rfl)) fun _ => Eq.refl _
   ·intro a w hT
    have hAp := hT.ag g [(7, .int .i64 b)] ⟨rfl, trivial⟩ (by kernel_rfl)
    exact ovr hAp rfl (r_move (hAp.get rfl)) fun _ => Eq.refl _
   ·intro a w hT
    have hAp := hT.ag g [] trivial (by kernel_rfl)
    have bm : a.tmps.getD 21 undef = Sl.v d := hT.vals 1 rfl 21 rfl
    have hAp := hAp.add bm
    have bn : a.tmps.getD 22 undef = .int .i64 b := hT.vals 2 rfl 22 rfl
    have hAp := hAp.add bn
    exact ovr hAp rfl (r_indexAddr (hAp.get rfl) (hAp.get rfl) Try.underlying27 ti_29 aI.1 aI.2) fun _ => Eq.refl _
   ·intro a w hT
    have hAp := hT.ag g [] trivial (by kernel_rfl)
    have bo : a.tmps.getD 23 undef = .pointer (some (af.add (b.toNat * 5))) := hT.vals 3 rfl 23 rfl
    have hAp := hAp.add bo
    exact ovr hAp rfl (r_loadN Try.underlying29 rfl ti_29 (hAp.get rfl) (bi.ext hT.chg)) fun _ => Eq.refl _
   ·intro a w hT
    have hAp := hT.ag g [(3, .pointer (some (⟨c, 0, none⟩ : Addr)))] ⟨rfl, trivial⟩ (by kernel_rfl)
    exact ovr hAp rfl (r_fieldAddr (hAp.get rfl) Try.underlying29 rfl ti_3 (by decide)) fun _ => Eq.refl _
   ·intro a w hT
    have hAp := hT.ag g [] trivial (by kernel_rfl)
    have bp : a.tmps.getD 25 undef = .pointer (some (⟨c, 0, none⟩ : Addr)) := hT.vals 5 rfl 25 rfl
    have hAp := hAp.add bp
    exact ovr hAp rfl (r_load1 Try.underlying3 rfl (hAp.get rfl) ((an.ext hT.chg).cell 0 _ rfl)) fun _ => Eq.refl _
   ·intro a w hT
    have hAp := hT.ag g [] trivial (by kernel_rfl)
    have bq : a.tmps.getD 26 undef = .int .i64 f := hT.vals 6 rfl 26 rfl
    have hAp := hAp.add bq
    exact ovr hAp rfl (r_eql (hAp.get rfl) rfl) fun _ => Eq.refl _
   ·intro a w hT
    have hAp := hT.ag g [] trivial (by kernel_rfl)
    have br : a.tmps.getD 24 undef = .agg #[.int .i64 u, .string (Bs x), .string (Bs y), Sl.v z, Sl.v aa] := hT.vals 4 rfl 24 rfl
    have hAp := hAp.add br
    have bs : a.tmps.getD 27 undef = .bool (decide (f = 1)) := hT.vals 7 rfl 27 rfl
    have hAp := hAp.add bs
    exact opk_callX hAp rfl (r_call (args := #[.agg #[.int .i64 u, .string (Bs x), .string (Bs y), Sl.v z, Sl.v aa], .bool false, .bool (decide (f = 1))]) Try.func71 (by decide) rfl (map_arr (ml_cons (hAp.get rfl) (ml_cons rfl (ml_cons (hAp.get rfl) ml_nil)))) rfl) (bk w hT.chg) fun _ _ _ _ e hR => ⟨_, e, hR.1, fun _ => hR.2⟩
   ·intro a w hT
    have hAp := hT.ag g [] trivial (by kernel_rfl)
    have bt : a.tmps.getD 28 undef = .bool o := hT.vals 8 rfl 28 rfl
    have hAp := hAp.add bt
    exact ovr hAp rfl (r_not (hAp.get rfl)) fun _ => Eq.refl _
   ·intro bu i aK bv bx
    have bz := bv [(3, .pointer (some (⟨c, 0, none⟩ : Addr))), (7, .int .i64 b)] ⟨rfl, rfl, trivial⟩ (by kernel_rfl)
    have bA : bu.tmps.getD 29 undef = .bool (!o) := bx 9 rfl 29 rfl
    have bB := bz.add bA
    have bC := an.ext aK
    have aL : Chg [] m i := aK
    refine PR_end (by kernel_rfl) ?_
    have ak := bB.keep [(3, .pointer (some (⟨c, 0, none⟩ : Addr))), (7, .int .i64 b), (29, .bool (!o))] ⟨rfl, rfl, rfl, trivial⟩
    refine then_normal ?_
    refine wp_cond_split (ak.get rfl) (fun hc => ?_) (fun hc => ?_)
    ·have bD := aJ.1 (b_not_t hc)
     clear hc
     refine wp_seq (wp_region_lit ?_)
     refine sqv ak rfl (r_assign rfl) fun _ bF => ?_
     refine sq_end ?_
     have aM := bF.keep [(6, .bool false)] ⟨rfl, trivial⟩
     refine then_normal ?_
     refine wp_ret ?_
     refine block_ret ?_
     refine then_ret ?_
     refine then_ret ?_
     refine block_ret ?_
     refine then_ret ?_
     have bG := bD i    aL
     exact res_all (vs := [.bool false]) rfl aM ⟨res_of_tmp aM rfl, trivial⟩ bG
    ·have bH := aJ.2 (b_not_f hc)
     clear hc
     refine wp_skip ?_
     refine block_normal ?_
     refine then_normal (wp_region_lit ?_)
     refine sqv ak rfl (r_move (ak.get rfl)) fun _ aN => ?_
     obtain ⟨bI, bJ⟩ := bH
     refine sqv aN rfl (r_addI (aN.get rfl) rfl bI) fun _ aO => ?_
     refine sqv aO rfl (r_assign (aO.get rfl)) fun _ bK => ?_
     refine sq_end ?_
     have bL := bK.keep [(3, .pointer (some (⟨c, 0, none⟩ : Addr))), (7, .int .i64 (b + 1))] ⟨rfl, rfl, trivial⟩
     have aP := bJ i    aL
     have bM := bL.keep [(3, .pointer (some (⟨c, 0, none⟩ : Addr))), (7, .int .i64 (b + 1))] ⟨rfl, rfl, trivial⟩
     exact then_normal ⟨(b + 1, i), ⟨bM, bC, rfl, aP.1⟩, aP.2⟩
  ·have bN := aC.2 (of_decide_eq_false hc)
   clear hc
   refine wp_exit ?_
   refine then_exit ?_
   refine then_exit ?_
   refine block_hit ?_
   have bO := g.keep [] trivial
   refine then_normal (wp_seq (wp_region_lit ?_))
   refine sqv bO rfl (r_assign rfl) fun _ bP => ?_
   refine sq_end ?_
   have aQ := bP.keep [(6, .bool true)] ⟨rfl, trivial⟩
   refine then_normal ?_
   refine wp_ret ?_
   exact res_all (vs := [.bool true]) rfl aQ ⟨res_of_tmp aQ rfl, trivial⟩ bN
def ref05_Node.vc (ad : Int) (t : Str) (u : Str) (m : Sl) (al : Sl) (af : Int) (x : Str) (y : Str) (q : Sl) (am : Sl) (R : Value → World → Prop) (w : World) : Prop :=
∀ (av : World) (k : Nat) (j : Nat), New w k av → New w j av → k ≠ j → Chg [] w av →
CallK Try.prog 86 #[.bool (decide (ad < af)), .bool (decide (af < ad))] av [k, j] (fun v w37 => ∃ (aj : Int), v = .int .i64 aj ∧
∃ aH : Int → World → Prop,
(((aj = 0) →
CallK Try.prog 86 #[.bool (Op.bytesLess t x), .bool (!((Op.bytesLess t x) || (decide (t = x))))] w37 [k, j] (fun v bM => ∃ (ax : Int), v = .int .i64 ax ∧
aH ax bM)) ∧
((¬ (aj = 0)) →
aH aj w37)) ∧
(∀ (z : Int) (aI : World), aH z aI →
∃ aJ : Int → World → Prop,
(((z = 0) →
CallK Try.prog 86 #[.bool (Op.bytesLess u y), .bool (!((Op.bytesLess u y) || (decide (u = y))))] aI [k, j] (fun v bN => ∃ (ay : Int), v = .int .i64 ay ∧
aJ ay bN)) ∧
((¬ (z = 0)) →
aJ z aI)) ∧
(∀ (ak : Int) (aK : World), aJ ak aK →
∃ (aL : Int → Int → World → Prop) (aR : Int → Int → World → Nat),
aL ak 0 aK ∧
(∀ (l : Int) (f : Int) (an : World), aL l f an →
((((l = 0) ∧ (f < (m.n : Int))) ∧ (f < (q.n : Int))) →
∀ (ah : World), Chg [] an ah →
∃ az : Addr, (((0 : Int) ≤ f ∧ f < (m.n : Int)) ∧ m.a = some az) ∧
∃ (b : Str) (aa : Str), (Cells ah (az.add (f.toNat * 2)) [.string (Bs b), .string (Bs aa)]) ∧
∃ aq : Addr, (((0 : Int) ≤ f ∧ f < (q.n : Int)) ∧ q.a = some aq) ∧
∃ (d : Str) (ab : Str), (Cells ah (aq.add (f.toNat * 2)) [.string (Bs d), .string (Bs ab)]) ∧
∀ (ao : World) (o : Nat) (p : Nat), Ext ah ao → ah.heap.size ≤ o → Box ao o 65 [.string (Bs ([] : Str)), .string (Bs ([] : Str))] → ah.heap.size ≤ p → Box ao p 65 [.string (Bs ([] : Str)), .string (Bs ([] : Str))] → 
∀ (aM : World), Chg [p, o] ao aM →
CallK Try.prog 86 #[.bool ((Op.bytesLess b d) || ((decide (b = d)) && (Op.bytesLess aa ab))), .bool ((!((Op.bytesLess b d) || (decide (b = d)))) || ((decide (b = d)) && (!((Op.bytesLess aa ab) || (decide (aa = ab))))))] aM [k, j, o, p] (fun v aS => ∃ (ap : Int), v = .int .i64 ap ∧
(I64 (f + 1)) ∧
aL ap (f + 1) aS ∧ aR ap (f + 1) aS < aR l f an)) ∧
((((¬ (l = 0)) ∨ (¬ (f < (m.n : Int)))) ∨ (¬ (f < (q.n : Int)))) →
((l = 0) →
CallK Try.prog 86 #[.bool (decide ((m.n : Int) < (q.n : Int))), .bool (decide ((q.n : Int) < (m.n : Int)))] an [k, j] (fun v bO => ∃ (aA : Int), v = .int .i64 aA ∧
R (.int .i64 aA) bO)) ∧
((¬ (l = 0)) →
R (.int .i64 l) an))))))
theorem ref05_Node.ok (ad : Int) (t : Str) (u : Str) (m : Sl) (al : Sl) (af : Int) (x : Str) (y : Str) (q : Sl) (am : Sl) {R : Value → World → Prop} {w : World} (bP : ref05_Node.vc ad t u m al af x y q am R w) : Calls Try.prog 85 #[.agg #[.int .i64 ad, .string (Bs t), .string (Bs u), Sl.v m, Sl.v al], .agg #[.int .i64 af, .string (Bs x), .string (Bs y), Sl.v q, Sl.v am]] w (Ret R) := by
 refine enter [.agg #[.int .i64 ad, .string (Bs t), .string (Bs u), Sl.v m, Sl.v al], .agg #[.int .i64 af, .string (Bs x), .string (Bs y), Sl.v q, Sl.v am]] Try.func85 rfl Try.ntmps85 rfl ?_
 intro a0 bQ
 unfold ref05_Node.vc at bP
 refine wp_seq (wp_region_lit ?_)
 refine sq (opk_new (fun B => .pointer (some ⟨B, 0, none⟩)) bQ rfl (r_box (cs := [.int .i64 ad, .string (Bs t), .string (Bs u), Sl.v m, Sl.v al]) (bQ.get rfl) rfl) fun a5 w4 k d0 d1 bS bT _ => ?_)
 have d2 : New w k w4 := d1
 have bU : Chg [] w w4 := d0
 refine sq (opk_new (fun B => .pointer (some ⟨B, 0, none⟩)) bT rfl (r_box (cs := [.int .i64 af, .string (Bs x), .string (Bs y), Sl.v q, Sl.v am]) (bT.get rfl) rfl) fun hn av j a6 bV a7 d3 _ => ?_)
 have d4 : k ≠ j := Nat.ne_of_lt (Nat.lt_of_lt_of_le bS.lt bV.ge)
 have d5 := New.of bU bV
 have a8 := bS.ext a6
 have d6 := bU.more a6
 have d7 := d2.up a6.size
 refine sqv d3 rfl (r_assign rfl) fun _ d8 => ?_
 refine sq_end ?_
 have bX := d8.keep [(2, .pointer (some (⟨k, 0, none⟩ : Addr))), (3, .pointer (some (⟨j, 0, none⟩ : Addr)))] ⟨rfl, rfl, trivial⟩
 refine then_normal (wp_seq (wp_region_lit ?_))
 refine sqv bX rfl (r_fieldAddr (bX.get rfl) Try.underlying29 rfl ti_3 (by decide)) fun _ bY => ?_
 refine sqv bY rfl (r_load1 Try.underlying3 rfl (bY.get rfl) (a8.cell 0 _ rfl)) fun _ bZ => ?_
 refine sqv bZ rfl (r_fieldAddr (bZ.get rfl) Try.underlying29 rfl ti_3 (by decide)) fun _ b0 => ?_
 refine sqv b0 rfl (r_load1 Try.underlying3 rfl (b0.get rfl) (a7.cell 0 _ rfl)) fun _ a9 => ?_
 refine sqv a9 rfl (r_lss (a9.get rfl) (a9.get rfl)) fun _ b1 => ?_
 refine sqv b1 rfl (r_fieldAddr (b1.get rfl) Try.underlying29 rfl ti_3 (by decide)) fun _ b2 => ?_
 refine sqv b2 rfl (r_load1 Try.underlying3 rfl (b2.get rfl) (a8.cell 0 _ rfl)) fun _ b3 => ?_
 refine sqv b3 rfl (r_fieldAddr (b3.get rfl) Try.underlying29 rfl ti_3 (by decide)) fun _ b4 => ?_
 refine sqv b4 rfl (r_load1 Try.underlying3 rfl (b4.get rfl) (a7.cell 0 _ rfl)) fun _ ba => ?_
 refine sqv ba rfl (r_gtr (ba.get rfl) (ba.get rfl)) fun _ bb => ?_
 have d9 := bP av k j d7 d5 d4 d6
 refine sq (opk_call bb rfl (r_call (args := #[.bool (decide (ad < af)), .bool (decide (af < ad))]) Try.func86 (by decide) rfl (map_arr (ml_cons (bb.get rfl) (ml_cons (bb.get rfl) ml_nil))) rfl) d9 fun ho hp w37 b5 _ b6 hq fa => ?_)
 obtain ⟨aj, rfl, fb⟩ := fa
 have aT := a8.kept b6 (.head _)
 have aU := a7.kept b6 (.tail _ (.head _))
 refine sqv b5 rfl (r_assign (b5.get rfl)) fun _ fc => ?_
 refine sq_end ?_
 have b7 := fc.keep [(2, .pointer (some (⟨k, 0, none⟩ : Addr))), (3, .pointer (some (⟨j, 0, none⟩ : Addr))), (5, .int .i64 aj)] ⟨rfl, rfl, rfl, trivial⟩
 refine then_normal (wp_seq (wp_seq (wp_region_lit ?_)))
 refine sqv b7 rfl (r_move (b7.get rfl)) fun _ b8 => ?_
 refine sqv b8 rfl (r_eql (b8.get rfl) rfl) fun _ fd => ?_
 refine sq_end ?_
 have aV := fd.keep [(2, .pointer (some (⟨k, 0, none⟩ : Addr))), (3, .pointer (some (⟨j, 0, none⟩ : Addr))), (5, .int .i64 aj), (21, .bool (decide (aj = 0)))] ⟨rfl, rfl, rfl, rfl, trivial⟩
 refine then_normal ?_
 obtain ⟨aH, b9, ff⟩ := fb
 refine wp_meet (fun a w => ∃ z : Int, Ag 131 a [(2, .pointer (some (⟨k, 0, none⟩ : Addr))), (3, .pointer (some (⟨j, 0, none⟩ : Addr))), (5, .int .i64 z)] ∧ Box w k 29 [.int .i64 ad, .string (Bs t), .string (Bs u), Sl.v m, Sl.v al] ∧ Box w j 29 [.int .i64 af, .string (Bs x), .string (Bs y), Sl.v q, Sl.v am] ∧ aH z w) ?_ ?_
 ·refine wp_cond_split (aV.get rfl) (fun hc => ?_) (fun hc => ?_)
  ·have fg := b9.1 (of_decide_eq_true hc)
   clear hc
   refine wp_region_lit ?_
   refine sqv aV rfl (r_fieldAddr (aV.get rfl) Try.underlying29 rfl ti_9 (by decide)) fun _ ca => ?_
   refine sqv ca rfl (r_load1 Try.underlying9 rfl (ca.get rfl) (aT.cell 1 _ rfl)) fun _ cb => ?_
   refine sqv cb rfl (r_fieldAddr (cb.get rfl) Try.underlying29 rfl ti_9 (by decide)) fun _ cc => ?_
   refine sqv cc rfl (r_load1 Try.underlying9 rfl (cc.get rfl) (aU.cell 1 _ rfl)) fun _ bd => ?_
   refine sqv bd rfl (r_slss (bd.get rfl) (bd.get rfl)) fun _ cd => ?_
   refine sqv cd rfl (r_fieldAddr (cd.get rfl) Try.underlying29 rfl ti_9 (by decide)) fun _ cf => ?_
   refine sqv cf rfl (r_load1 Try.underlying9 rfl (cf.get rfl) (aT.cell 1 _ rfl)) fun _ cg => ?_
   refine sqv cg rfl (r_fieldAddr (cg.get rfl) Try.underlying29 rfl ti_9 (by decide)) fun _ ch => ?_
   refine sqv ch rfl (r_load1 Try.underlying9 rfl (ch.get rfl) (aU.cell 1 _ rfl)) fun _ bf => ?_
   refine sqv bf rfl (r_sgtr (bf.get rfl) (bf.get rfl)) fun _ bg => ?_
   refine sq (opk_call bg rfl (r_call (args := #[.bool (Op.bytesLess t x), .bool (!((Op.bytesLess t x) || (decide (t = x))))]) Try.func86 (by decide) rfl (map_arr (ml_cons (bg.get rfl) (ml_cons (bg.get rfl) ml_nil))) rfl) fg fun hr hs bM ci _ cj ht fh => ?_)
   obtain ⟨ax, rfl, fi⟩ := fh
   have fj := aT.kept cj (.head _)
   have fk := aU.kept cj (.tail _ (.head _))
   refine sqv ci rfl (r_assign (ci.get rfl)) fun _ fl => ?_
   refine sq_end ?_
   have fm := fl.keep [(2, .pointer (some (⟨k, 0, none⟩ : Addr))), (3, .pointer (some (⟨j, 0, none⟩ : Addr))), (5, .int .i64 ax)] ⟨rfl, rfl, rfl, trivial⟩
   have fn := fm.keep [(2, .pointer (some (⟨k, 0, none⟩ : Addr))), (3, .pointer (some (⟨j, 0, none⟩ : Addr))), (5, .int .i64 ax)] ⟨rfl, rfl, rfl, trivial⟩
   exact then_normal ⟨ax, fn, fj, fk, fi⟩
  ·have fo := b9.2 (of_decide_eq_false hc)
   clear hc
   refine wp_skip ?_
   have fp := aV.keep [(2, .pointer (some (⟨k, 0, none⟩ : Addr))), (3, .pointer (some (⟨j, 0, none⟩ : Addr))), (5, .int .i64 aj)] ⟨rfl, rfl, rfl, trivial⟩
   exact then_normal ⟨aj, fp, aT, aU, fo⟩
 ·intro hu aI hm
  obtain ⟨z, ck, aX, aY, fq⟩ := hm
  have fr := ff z aI fq
  refine then_normal (wp_seq (wp_seq (wp_region_lit ?_)))
  refine sqv ck rfl (r_move (ck.get rfl)) fun _ cl => ?_
  refine sqv cl rfl (r_eql (cl.get rfl) rfl) fun _ fs => ?_
  refine sq_end ?_
  have aZ := fs.keep [(2, .pointer (some (⟨k, 0, none⟩ : Addr))), (3, .pointer (some (⟨j, 0, none⟩ : Addr))), (5, .int .i64 z), (34, .bool (decide (z = 0)))] ⟨rfl, rfl, rfl, rfl, trivial⟩
  refine then_normal ?_
  obtain ⟨aJ, cm, ft⟩ := fr
  refine wp_meet (fun a w => ∃ ak : Int, Ag 131 a [(2, .pointer (some (⟨k, 0, none⟩ : Addr))), (3, .pointer (some (⟨j, 0, none⟩ : Addr))), (5, .int .i64 ak)] ∧ Box w k 29 [.int .i64 ad, .string (Bs t), .string (Bs u), Sl.v m, Sl.v al] ∧ Box w j 29 [.int .i64 af, .string (Bs x), .string (Bs y), Sl.v q, Sl.v am] ∧ aJ ak w) ?_ ?_
  ·refine wp_cond_split (aZ.get rfl) (fun hc => ?_) (fun hc => ?_)
   ·have fu := cm.1 (of_decide_eq_true hc)
    clear hc
    refine wp_region_lit ?_
    refine sqv aZ rfl (r_fieldAddr (aZ.get rfl) Try.underlying29 rfl ti_9 (by decide)) fun _ cn => ?_
    refine sqv cn rfl (r_load1 Try.underlying9 rfl (cn.get rfl) (aX.cell 2 _ rfl)) fun _ co => ?_
    refine sqv co rfl (r_fieldAddr (co.get rfl) Try.underlying29 rfl ti_9 (by decide)) fun _ cp => ?_
    refine sqv cp rfl (r_load1 Try.underlying9 rfl (cp.get rfl) (aY.cell 2 _ rfl)) fun _ bh => ?_
    refine sqv bh rfl (r_slss (bh.get rfl) (bh.get rfl)) fun _ cq => ?_
    refine sqv cq rfl (r_fieldAddr (cq.get rfl) Try.underlying29 rfl ti_9 (by decide)) fun _ cr => ?_
    refine sqv cr rfl (r_load1 Try.underlying9 rfl (cr.get rfl) (aX.cell 2 _ rfl)) fun _ ct => ?_
    refine sqv ct rfl (r_fieldAddr (ct.get rfl) Try.underlying29 rfl ti_9 (by decide)) fun _ cu => ?_
    refine sqv cu rfl (r_load1 Try.underlying9 rfl (cu.get rfl) (aY.cell 2 _ rfl)) fun _ bi => ?_
    refine sqv bi rfl (r_sgtr (bi.get rfl) (bi.get rfl)) fun _ bj => ?_
    refine sq (opk_call bj rfl (r_call (args := #[.bool (Op.bytesLess u y), .bool (!((Op.bytesLess u y) || (decide (u = y))))]) Try.func86 (by decide) rfl (map_arr (ml_cons (bj.get rfl) (ml_cons (bj.get rfl) ml_nil))) rfl) fu fun hv hx bN cv _ cx hy fv => ?_)
    obtain ⟨ay, rfl, fx⟩ := fv
    have fy := aX.kept cx (.head _)
    have fz := aY.kept cx (.tail _ (.head _))
    refine sqv cv rfl (r_assign (cv.get rfl)) fun _ fA => ?_
    refine sq_end ?_
    have fB := fA.keep [(2, .pointer (some (⟨k, 0, none⟩ : Addr))), (3, .pointer (some (⟨j, 0, none⟩ : Addr))), (5, .int .i64 ay)] ⟨rfl, rfl, rfl, trivial⟩
    have fC := fB.keep [(2, .pointer (some (⟨k, 0, none⟩ : Addr))), (3, .pointer (some (⟨j, 0, none⟩ : Addr))), (5, .int .i64 ay)] ⟨rfl, rfl, rfl, trivial⟩
    exact then_normal ⟨ay, fC, fy, fz, fx⟩
   ·have fD := cm.2 (of_decide_eq_false hc)
    clear hc
    refine wp_skip ?_
    have fF := aZ.keep [(2, .pointer (some (⟨k, 0, none⟩ : Addr))), (3, .pointer (some (⟨j, 0, none⟩ : Addr))), (5, .int .i64 z)] ⟨rfl, rfl, rfl, trivial⟩
    exact then_normal ⟨z, fF, aX, aY, fD⟩
  ·intro hz aK hm
   obtain ⟨ak, fG, fH, fI, fJ⟩ := hm
   have fK := ft ak aK fJ
   refine then_normal (wp_seq (wp_seq (wp_region_lit ?_)))
   refine sqv fG rfl (r_assign rfl) fun _ fL => ?_
   refine sq_end ?_
   have fM := fL.keep [(2, .pointer (some (⟨k, 0, none⟩ : Addr))), (3, .pointer (some (⟨j, 0, none⟩ : Addr))), (5, .int .i64 ak), (6, .int .i64 0)] ⟨rfl, rfl, rfl, rfl, trivial⟩
   refine then_normal (wp_block ?_)
   obtain ⟨aL, aR, fN, fO⟩ := fK
   refine wp_loop_st (σ := Int × Int × World) (fun s a w => Ag 131 a [(2, .pointer (some (⟨k, 0, none⟩ : Addr))), (3, .pointer (some (⟨j, 0, none⟩ : Addr))), (5, .int .i64 s.1), (6, .int .i64 s.2.1)] ∧ Box w k 29 [.int .i64 ad, .string (Bs t), .string (Bs u), Sl.v m, Sl.v al] ∧ Box w j 29 [.int .i64 af, .string (Bs x), .string (Bs y), Sl.v q, Sl.v am] ∧ w = s.2.2 ∧ aL s.1 s.2.1 s.2.2) (fun s => aR s.1 s.2.1 s.2.2) (ak, 0, aK) ⟨fM.keep [(2, .pointer (some (⟨k, 0, none⟩ : Addr))), (3, .pointer (some (⟨j, 0, none⟩ : Addr))), (5, .int .i64 ak), (6, .int .i64 0)] ⟨rfl, rfl, rfl, rfl, trivial⟩, fH, fI, rfl, fN⟩ ?_
   rintro ⟨l, f, an⟩ hA w_ ⟨cy, aN, aO, hw_, fP⟩
   have hw_ : an = w_ := hw_.symm
   subst hw_
   have cz := fO l f _ fP
   refine wp_seq (wp_seq (wp_region_lit ?_))
   refine sqv cy rfl (r_move (cy.get rfl)) fun _ cA => ?_
   refine sqv cA rfl (r_eql (cA.get rfl) rfl) fun _ cB => ?_
   refine sqv cB rfl (r_move (cB.get rfl)) fun _ cC => ?_
   refine sq (opk_gval cC rfl rfl (g := true) (e := (decide (l = 0))) rfl (fun hg => r_move (cC.get rfl)) fun hC cD _ => ?_)
   refine sq (opk_gval cD rfl rfl (g := true) (e := (decide (l = 0))) rfl (fun hg => r_fieldAddr (cD.get rfl) Try.underlying29 rfl ti_26 (by decide)) fun hD cF _ => ?_)
   refine sq (opk_gval cF rfl rfl (g := true) (e := (decide (l = 0))) rfl (fun hg => r_load1 Try.underlying26 rfl (cv_get (cF.get rfl) hg) (aN.cell 3 _ rfl)) fun hF cG _ => ?_)
   refine sq (opk_gval cG rfl rfl (g := true) (e := (decide (l = 0))) rfl (fun hg => r_len (cv_get (cG.get rfl) hg) Try.underlying26) fun hG bk _ => ?_)
   refine sq (opk_gval bk rfl rfl (g := true) (e := (decide (l = 0))) rfl (fun hg => r_lss (cv_get (bk.get rfl) hg) (cv_get (bk.get rfl) hg)) fun hH bl _ => ?_)
   refine sqv bl rfl (r_pick_and (g := (true && ((decide (l = 0)) == true))) (bl.get rfl) (bl.get rfl) (fun he => g_mkt rfl he)) fun _ cH => ?_
   refine sqv cH rfl (r_move (cH.get rfl)) fun _ cI => ?_
   refine sq (opk_gval cI rfl rfl (g := true) (e := ((decide (l = 0)) && (decide (f < (m.n : Int))))) rfl (fun hg => r_move (cI.get rfl)) fun hI cJ _ => ?_)
   refine sq (opk_gval cJ rfl rfl (g := true) (e := ((decide (l = 0)) && (decide (f < (m.n : Int))))) rfl (fun hg => r_fieldAddr (cJ.get rfl) Try.underlying29 rfl ti_26 (by decide)) fun hJ cK _ => ?_)
   refine sq (opk_gval cK rfl rfl (g := true) (e := ((decide (l = 0)) && (decide (f < (m.n : Int))))) rfl (fun hg => r_load1 Try.underlying26 rfl (cv_get (cK.get rfl) hg) (aO.cell 3 _ rfl)) fun hK cL _ => ?_)
   refine sq (opk_gval cL rfl rfl (g := true) (e := ((decide (l = 0)) && (decide (f < (m.n : Int))))) rfl (fun hg => r_len (cv_get (cL.get rfl) hg) Try.underlying26) fun hL bm _ => ?_)
   refine sq (opk_gval bm rfl rfl (g := true) (e := ((decide (l = 0)) && (decide (f < (m.n : Int))))) rfl (fun hg => r_lss (cv_get (bm.get rfl) hg) (cv_get (bm.get rfl) hg)) fun hM bn _ => ?_)
   refine sqv bn rfl (r_pick_and (g := (true && (((decide (l = 0)) && (decide (f < (m.n : Int)))) == true))) (bn.get rfl) (bn.get rfl) (fun he => g_mkt rfl he)) fun _ fQ => ?_
   refine sq_end ?_
   have r := fQ.keep [(2, .pointer (some (⟨k, 0, none⟩ : Addr))), (3, .pointer (some (⟨j, 0, none⟩ : Addr))), (5, .int .i64 l), (6, .int .i64 f), (61, .bool (((decide (l = 0)) && (decide (f < (m.n : Int)))) && (decide (f < (q.n : Int)))))] ⟨rfl, rfl, rfl, rfl, rfl, trivial⟩
   refine then_normal ?_
   refine wp_cond_split (r.get rfl) (fun hc => ?_) (fun hc => ?_)
   ·have fR := cz.1 ⟨⟨(of_decide_eq_true (b_and_t (b_and_t hc).1).1), (of_decide_eq_true (b_and_t (b_and_t hc).1).2)⟩, (of_decide_eq_true (b_and_t hc).2)⟩
    clear hc
    refine wp_skip ?_
    refine then_normal (wp_seq (wp_block (wp_seq ?_)))
    refine draw' (by kernel_rfl) fun ah bo => ?_
    have hB400 := aN.ext bo
    have a1 := aO.ext bo
    have fS : Chg [] an ah := bo
    have fT := fR ah    fS
    obtain ⟨az, a2, fU⟩ := fT
    obtain ⟨b, aa, bp, fV⟩ := fU
    obtain ⟨aq, aB, fX⟩ := fV
    obtain ⟨d, ab, bq, fY⟩ := fX
    refine startF (D := [[], [0], [], [0, 1, 2], [0, 1, 2, 3], [], [5], [], [5, 6, 7], [5, 6, 7, 8], [], [], [0, 1, 2, 3, 4, 10, 11], [0, 1, 2, 3, 4, 5, 6, 7, 8, 9, 10, 11, 12]]) (Fs := [0, 1, 2, 3, 4, 5, 6, 7, 8, 9]) (Ef := [(0, fun v _ => v = .pointer (some (⟨k, 3, none⟩ : Addr))), (1, fun v _ => v = Sl.v m), (2, fun v _ => v = .int .i64 f), (3, fun v _ => v = .pointer (some (az.add (f.toNat * 2)))), (4, fun v _ => v = .agg #[.string (Bs b), .string (Bs aa)]), (5, fun v _ => v = .pointer (some (⟨j, 3, none⟩ : Addr))), (6, fun v _ => v = Sl.v q), (7, fun v _ => v = .int .i64 f), (8, fun v _ => v = .pointer (some (aq.add (f.toNat * 2)))), (9, fun v _ => v = .agg #[.string (Bs d), .string (Bs ab)])]) (by kernel_rfl) ?_
    refine parFN (D := [[], [0], [], [0, 1, 2], [0, 1, 2, 3], [], [5], [], [5, 6, 7], [5, 6, 7, 8], [], [], [0, 1, 2, 3, 4, 10, 11], [0, 1, 2, 3, 4, 5, 6, 7, 8, 9, 10, 11, 12]]) (S := [10, 11]) (F := []) (KE := [10, 11]) (N := [10, 11]) (E := [(10, fun v w' => ∃ o : Nat, ah.heap.size ≤ o ∧ Box w' o 65 [.string (Bs ([] : Str)), .string (Bs ([] : Str))] ∧ v = .pointer (some (⟨o, 0, none⟩ : Addr))), (11, fun v w' => ∃ p : Nat, ah.heap.size ≤ p ∧ Box w' p 65 [.string (Bs ([] : Str)), .string (Bs ([] : Str))] ∧ v = .pointer (some (⟨p, 0, none⟩ : Addr)))]) r rfl (by kernel_rfl) (blkF ⟨fun _ _ h => by obtain ⟨o, _, hB, rfl⟩ := h; exact hB.lt, fun _ _ h => by obtain ⟨p, _, hB, rfl⟩ := h; exact hB.lt, trivial⟩) ⟨fun _ _ _ hE ⟨o, h0_, h1_, e⟩ => ⟨o, h0_, (h1_.ext hE), e⟩, fun _ _ _ hE ⟨p, h0_, h1_, e⟩ => ⟨p, h0_, (h1_.ext hE), e⟩, fun _ _ _ _ h => h, fun _ _ _ _ h => h, fun _ _ _ _ h => h, fun _ _ _ _ h => h, fun _ _ _ _ h => h, fun _ _ _ _ h => h, fun _ _ _ _ h => h, fun _ _ _ _ h => h, fun _ _ _ _ h => h, fun _ _ _ _ h => h, trivial⟩ ⟨?_, ?_, ?_, ?_, ?_, ?_, ?_, ?_, ?_, ?_, ?_, ?_, trivial⟩ ?_
    ·intro a w hT
     have hAp := hT.ag r [] trivial (by kernel_rfl)
     exact opk_new (fun B => .pointer (some ⟨B, 0, none⟩)) hAp rfl (r_alloc (cs := [.string (Bs ([] : Str)), .string (Bs ([] : Str))]) ti_65 rfl) fun _ hN o fZ cM f0 _ e => ⟨_, e, fZ, fun _ => ⟨o, Nat.le_trans hT.chg.size cM.ge, f0, rfl⟩, fun _ => cM.ge⟩
    ·intro a w hT
     have hAp := hT.ag r [] trivial (by kernel_rfl)
     exact opk_new (fun B => .pointer (some ⟨B, 0, none⟩)) hAp rfl (r_alloc (cs := [.string (Bs ([] : Str)), .string (Bs ([] : Str))]) ti_65 rfl) fun _ hO p f1 cN f2 _ e => ⟨_, e, f1, fun _ => ⟨p, Nat.le_trans hT.chg.size cN.ge, f2, rfl⟩, fun _ => cN.ge⟩
    ·intro a w hT
     refine overN_of rfl ?_
     have hAp := hT.ag r [(2, .pointer (some (⟨k, 0, none⟩ : Addr)))] ⟨rfl, trivial⟩ (by kernel_rfl)
     exact ovr hAp rfl (r_fieldAddr (hAp.get rfl) Try.underlying29 rfl ti_26 (by decide)) fun _ => Eq.refl _
    ·intro a w hT
     refine overN_of rfl ?_
     have hAp := hT.ag r [] trivial (by kernel_rfl)
     have f3 : a.tmps.getD 64 undef = .pointer (some (⟨k, 3, none⟩ : Addr)) := hT.vals 0 rfl 64 rfl
     have hAp := hAp.add f3
     exact ovr hAp rfl (r_load1 Try.underlying26 rfl (hAp.get rfl) ((hB400.ext hT.chg).cell 3 _ rfl)) fun _ => Eq.refl _
    ·intro a w hT
     refine overN_of rfl ?_
     have hAp := hT.ag r [(6, .int .i64 f)] ⟨rfl, trivial⟩ (by kernel_rfl)
     exact ovr hAp rfl (r_move (hAp.get rfl)) fun _ => Eq.refl _
    ·intro a w hT
     refine overN_of rfl ?_
     have hAp := hT.ag r [] trivial (by kernel_rfl)
     have f4 : a.tmps.getD 65 undef = Sl.v m := hT.vals 1 rfl 65 rfl
     have hAp := hAp.add f4
     have f5 : a.tmps.getD 66 undef = .int .i64 f := hT.vals 2 rfl 66 rfl
     have hAp := hAp.add f5
     exact ovr hAp rfl (r_indexAddr (hAp.get rfl) (hAp.get rfl) Try.underlying26 ti_65 a2.1 a2.2) fun _ => Eq.refl _
    ·intro a w hT
     refine overN_of rfl ?_
     have hAp := hT.ag r [] trivial (by kernel_rfl)
     have f6 : a.tmps.getD 67 undef = .pointer (some (az.add (f.toNat * 2))) := hT.vals 3 rfl 67 rfl
     have hAp := hAp.add f6
     exact ovr hAp rfl (r_loadN Try.underlying65 rfl ti_65 (hAp.get rfl) (bp.ext hT.chg)) fun _ => Eq.refl _
    ·intro a w hT
     refine overN_of rfl ?_
     have hAp := hT.ag r [(3, .pointer (some (⟨j, 0, none⟩ : Addr)))] ⟨rfl, trivial⟩ (by kernel_rfl)
     exact ovr hAp rfl (r_fieldAddr (hAp.get rfl) Try.underlying29 rfl ti_26 (by decide)) fun _ => Eq.refl _
    ·intro a w hT
     refine overN_of rfl ?_
     have hAp := hT.ag r [] trivial (by kernel_rfl)
     have f7 : a.tmps.getD 69 undef = .pointer (some (⟨j, 3, none⟩ : Addr)) := hT.vals 5 rfl 69 rfl
     have hAp := hAp.add f7
     exact ovr hAp rfl (r_load1 Try.underlying26 rfl (hAp.get rfl) ((a1.ext hT.chg).cell 3 _ rfl)) fun _ => Eq.refl _
    ·intro a w hT
     refine overN_of rfl ?_
     have hAp := hT.ag r [(6, .int .i64 f)] ⟨rfl, trivial⟩ (by kernel_rfl)
     exact ovr hAp rfl (r_move (hAp.get rfl)) fun _ => Eq.refl _
    ·intro a w hT
     refine overN_of rfl ?_
     have hAp := hT.ag r [] trivial (by kernel_rfl)
     have f8 : a.tmps.getD 70 undef = Sl.v q := hT.vals 6 rfl 70 rfl
     have hAp := hAp.add f8
     have f9 : a.tmps.getD 71 undef = .int .i64 f := hT.vals 7 rfl 71 rfl
     have hAp := hAp.add f9
     exact ovr hAp rfl (r_indexAddr (hAp.get rfl) (hAp.get rfl) Try.underlying26 ti_65 aB.1 aB.2) fun _ => Eq.refl _
    ·intro a w hT
     refine overN_of rfl ?_
     have hAp := hT.ag r [] trivial (by kernel_rfl)
     have ga : a.tmps.getD 72 undef = .pointer (some (aq.add (f.toNat * 2))) := hT.vals 8 rfl 72 rfl
     have hAp := hAp.add ga
     exact ovr hAp rfl (r_loadN Try.underlying65 rfl ti_65 (hAp.get rfl) (bq.ext hT.chg)) fun _ => Eq.refl _
    ·intro hP ao aC gb cO gc
     have gd := gb [(2, .pointer (some (⟨k, 0, none⟩ : Addr))), (3, .pointer (some (⟨j, 0, none⟩ : Addr))), (6, .int .i64 f)] ⟨rfl, rfl, rfl, trivial⟩ (by kernel_rfl)
     obtain ⟨o, aP, br, cP⟩ := cO 10 rfl 7 rfl
     have gf := gd.add cP
     obtain ⟨p, bs, cQ, cR⟩ := cO 11 rfl 8 rfl
     have ai := gf.add cR
     have cS : o ≠ p := by have h := gc 10 11 rfl 7 8 rfl rfl; rw [cP, cR] at h; exact h
     have cT := hB400.ext aC
     have cU := a1.ext aC
     have hQ : Chg [] ah ao := aC
     have cX := bp.ext aC
     have cY := bq.ext aC
     have gg := fY ao o p aC aP br bs cQ
     have gh : k ≠ o := Nat.ne_of_lt (Nat.lt_of_lt_of_le hB400.lt aP)
     have gi : j ≠ o := Nat.ne_of_lt (Nat.lt_of_lt_of_le a1.lt aP)
     have gj : k ≠ p := Nat.ne_of_lt (Nat.lt_of_lt_of_le hB400.lt bs)
     have gk : j ≠ p := Nat.ne_of_lt (Nat.lt_of_lt_of_le a1.lt bs)
     refine oneF (c := 12) ai rfl (by kernel_rfl) (constF ⟨fun _ _ _ h => h, fun _ _ _ h => h, fun _ _ _ h => h, fun _ _ _ h => h, fun _ _ _ h => h, fun _ _ _ h => h, fun _ _ _ h => h, fun _ _ _ h => h, fun _ _ _ h => h, fun _ _ _ h => h, trivial⟩) ⟨?_, ?_, ?_, ?_, ?_, ?_, ?_, ?_, ?_, ?_, trivial⟩ ?_
     ·intro a hT
      have hAp := hT.ag ai [(2, .pointer (some (⟨k, 0, none⟩ : Addr)))] ⟨rfl, trivial⟩ (by kernel_rfl)
      exact opk_val hAp rfl (r_fieldAddr (hAp.get rfl) Try.underlying29 rfl ti_26 (by decide)) fun _ _ e => ⟨_, e, rfl, fun _ => Eq.refl _⟩
     ·intro a hT
      have hAp := hT.ag ai [] trivial (by kernel_rfl)
      have gl : a.tmps.getD 64 undef = .pointer (some (⟨k, 3, none⟩ : Addr)) := hT.vals 0 rfl 64 rfl
      have hAp := hAp.add gl
      exact opk_val hAp rfl (r_load1 Try.underlying26 rfl (hAp.get rfl) ((cT.ext hT.chg).cell 3 _ rfl)) fun _ _ e => ⟨_, e, rfl, fun _ => Eq.refl _⟩
     ·intro a hT
      have hAp := hT.ag ai [(6, .int .i64 f)] ⟨rfl, trivial⟩ (by kernel_rfl)
      exact opk_val hAp rfl (r_move (hAp.get rfl)) fun _ _ e => ⟨_, e, rfl, fun _ => Eq.refl _⟩
     ·intro a hT
      have hAp := hT.ag ai [] trivial (by kernel_rfl)
      have gm : a.tmps.getD 65 undef = Sl.v m := hT.vals 1 rfl 65 rfl
      have hAp := hAp.add gm
      have gn : a.tmps.getD 66 undef = .int .i64 f := hT.vals 2 rfl 66 rfl
      have hAp := hAp.add gn
      exact opk_val hAp rfl (r_indexAddr (hAp.get rfl) (hAp.get rfl) Try.underlying26 ti_65 a2.1 a2.2) fun _ _ e => ⟨_, e, rfl, fun _ => Eq.refl _⟩
     ·intro a hT
      have hAp := hT.ag ai [] trivial (by kernel_rfl)
      have go : a.tmps.getD 67 undef = .pointer (some (az.add (f.toNat * 2))) := hT.vals 3 rfl 67 rfl
      have hAp := hAp.add go
      exact opk_val hAp rfl (r_loadN Try.underlying65 rfl ti_65 (hAp.get rfl) (cX.ext hT.chg)) fun _ _ e => ⟨_, e, rfl, fun _ => Eq.refl _⟩
     ·intro a hT
      have hAp := hT.ag ai [(3, .pointer (some (⟨j, 0, none⟩ : Addr)))] ⟨rfl, trivial⟩ (by kernel_rfl)
      exact opk_val hAp rfl (r_fieldAddr (hAp.get rfl) Try.underlying29 rfl ti_26 (by decide)) fun _ _ e => ⟨_, e, rfl, fun _ => Eq.refl _⟩
     ·intro a hT
      have hAp := hT.ag ai [] trivial (by kernel_rfl)
      have gp : a.tmps.getD 69 undef = .pointer (some (⟨j, 3, none⟩ : Addr)) := hT.vals 5 rfl 69 rfl
      have hAp := hAp.add gp
      exact opk_val hAp rfl (r_load1 Try.underlying26 rfl (hAp.get rfl) ((cU.ext hT.chg).cell 3 _ rfl)) fun _ _ e => ⟨_, e, rfl, fun _ => Eq.refl _⟩
     ·intro a hT
      have hAp := hT.ag ai [(6, .int .i64 f)] ⟨rfl, trivial⟩ (by kernel_rfl)
      exact opk_val hAp rfl (r_move (hAp.get rfl)) fun _ _ e => ⟨_, e, rfl, fun _ => Eq.refl _⟩
     ·intro a hT
      have hAp := hT.ag ai [] trivial (by kernel_rfl)
      have gq : a.tmps.getD 70 undef = Sl.v q := hT.vals 6 rfl 70 rfl
      have hAp := hAp.add gq
      have gr : a.tmps.getD 71 undef = .int .i64 f := hT.vals 7 rfl 71 rfl
      have hAp := hAp.add gr
      exact opk_val hAp rfl (r_indexAddr (hAp.get rfl) (hAp.get rfl) Try.underlying26 ti_65 aB.1 aB.2) fun _ _ e => ⟨_, e, rfl, fun _ => Eq.refl _⟩
     ·intro a hT
      have hAp := hT.ag ai [] trivial (by kernel_rfl)
      have gs : a.tmps.getD 72 undef = .pointer (some (aq.add (f.toNat * 2))) := hT.vals 8 rfl 72 rfl
      have hAp := hAp.add gs
      exact opk_val hAp rfl (r_loadN Try.underlying65 rfl ti_65 (hAp.get rfl) (cY.ext hT.chg)) fun _ _ e => ⟨_, e, rfl, fun _ => Eq.refl _⟩
     ·intro gu hT
      have gv := hT.ag ai [(2, .pointer (some (⟨k, 0, none⟩ : Addr))), (3, .pointer (some (⟨j, 0, none⟩ : Addr))), (6, .int .i64 f), (7, .pointer (some (⟨o, 0, none⟩ : Addr))), (8, .pointer (some (⟨p, 0, none⟩ : Addr)))] ⟨rfl, rfl, rfl, rfl, rfl, trivial⟩ (by kernel_rfl)
      have gx : gu.tmps.getD 68 undef = .agg #[.string (Bs b), .string (Bs aa)] := hT.vals 4 rfl 68 rfl
      have bt := gv.add gx
      refine opk_storeF bt br (r_store (vs := [.string (Bs b), .string (Bs aa)]) (bt.get rfl) (bt.get rfl) rfl ti_65 br rfl (ones_all [.string (Bs b), .string (Bs aa)] rfl)) fun cZ aD gy gz => ⟨undef, Eq.refl _, ?_⟩
      have gA : Box cZ o 65 [.string (Bs b), .string (Bs aa)] := gy
      have gB := cT.keep aD (by simpa using gh)
      have c0 := cU.keep aD (by simpa using gi)
      have gC := cQ.keep aD (by simpa using cS.symm)
      have gD : Chg [o] ao cZ := aD
      have hR := cX.chg aD (Cells.apart bp aP)
      have c1 := cY.chg aD (Cells.apart bq aP)
      refine PRF_drop (X := [0, 1, 2, 3, 4]) (Fs' := [5, 6, 7, 8, 9]) gz (by kernel_rfl) fun hS gF hU => ?_
      have aF := gF [(2, .pointer (some (⟨k, 0, none⟩ : Addr))), (3, .pointer (some (⟨j, 0, none⟩ : Addr))), (6, .int .i64 f), (7, .pointer (some (⟨o, 0, none⟩ : Addr))), (8, .pointer (some (⟨p, 0, none⟩ : Addr)))] ⟨rfl, rfl, rfl, rfl, rfl, trivial⟩ (by kernel_rfl)
      refine joinF aF (by kernel_rfl) ⟨fun _ _ _ _ h => h, fun _ _ _ _ h => h, fun _ _ _ _ h => h, fun _ _ _ _ h => h, fun _ _ _ _ h => h, trivial⟩ ⟨?_, ?_, ?_, ?_, ?_, trivial⟩ ?_
      ·intro a w hT
       have hAp := hT.ag aF [(3, .pointer (some (⟨j, 0, none⟩ : Addr)))] ⟨rfl, trivial⟩ (by kernel_rfl)
       exact ovr hAp rfl (r_fieldAddr (hAp.get rfl) Try.underlying29 rfl ti_26 (by decide)) fun _ => Eq.refl _
      ·intro a w hT
       have hAp := hT.ag aF [] trivial (by kernel_rfl)
       have gG : a.tmps.getD 69 undef = .pointer (some (⟨j, 3, none⟩ : Addr)) := hT.vals 5 rfl 69 rfl
       have hAp := hAp.add gG
       exact ovr hAp rfl (r_load1 Try.underlying26 rfl (hAp.get rfl) ((c0.ext hT.chg).cell 3 _ rfl)) fun _ => Eq.refl _
      ·intro a w hT
       have hAp := hT.ag aF [(6, .int .i64 f)] ⟨rfl, trivial⟩ (by kernel_rfl)
       exact ovr hAp rfl (r_move (hAp.get rfl)) fun _ => Eq.refl _
      ·intro a w hT
       have hAp := hT.ag aF [] trivial (by kernel_rfl)
       have gH : a.tmps.getD 70 undef = Sl.v q := hT.vals 6 rfl 70 rfl
       have hAp := hAp.add gH
       have gI : a.tmps.getD 71 undef = .int .i64 f := hT.vals 7 rfl 71 rfl
       have hAp := hAp.add gI
       exact ovr hAp rfl (r_indexAddr (hAp.get rfl) (hAp.get rfl) Try.underlying26 ti_65 aB.1 aB.2) fun _ => Eq.refl _
      ·intro a w hT
       have hAp := hT.ag aF [] trivial (by kernel_rfl)
       have gJ : a.tmps.getD 72 undef = .pointer (some (aq.add (f.toNat * 2))) := hT.vals 8 rfl 72 rfl
       have hAp := hAp.add gJ
       exact ovr hAp rfl (r_loadN Try.underlying65 rfl ti_65 (hAp.get rfl) (c1.ext hT.chg)) fun _ => Eq.refl _
      ·intro gK hV aG gL gM
       have gN := gL [(2, .pointer (some (⟨k, 0, none⟩ : Addr))), (3, .pointer (some (⟨j, 0, none⟩ : Addr))), (6, .int .i64 f), (7, .pointer (some (⟨o, 0, none⟩ : Addr))), (8, .pointer (some (⟨p, 0, none⟩ : Addr)))] ⟨rfl, rfl, rfl, rfl, rfl, trivial⟩ (by kernel_rfl)
       have gO : gK.tmps.getD 73 undef = .agg #[.string (Bs d), .string (Bs ab)] := gM 9 rfl 73 rfl
       have bu := gN.add gO
       have gP := gB.ext aG
       have gQ := c0.ext aG
       have gR := gA.ext aG
       have c2 := gC.ext aG
       have gS := gD.more aG
       have hX := c1.ext aG
       refine one (D := [[], [0], [], [0, 1, 2], [0, 1, 2, 3], [], [5], [], [5, 6, 7], [5, 6, 7, 8], [], [], [0, 1, 2, 3, 4, 10, 11], [0, 1, 2, 3, 4, 5, 6, 7, 8, 9, 10, 11, 12]]) (i := 13) rfl (by kernel_rfl) (opk_store bu c2 (r_store (vs := [.string (Bs d), .string (Bs ab)]) (bu.get rfl) (bu.get rfl) rfl ti_65 c2 rfl (ones_all [.string (Bs d), .string (Bs ab)] rfl)) fun hY aM a3 gT gU => ?_)
       have ar : Box aM p 65 [.string (Bs d), .string (Bs ab)] := gT
       have gV := gP.keep a3 (by simpa using gj)
       have gX := gQ.keep a3 (by simpa using gk)
       have au := gR.keep a3 (by simpa using cS)
       have gY := gS.storeOld a3
       refine PR_end (by kernel_rfl) ?_
       have c3 := gU.keep [(2, .pointer (some (⟨k, 0, none⟩ : Addr))), (3, .pointer (some (⟨j, 0, none⟩ : Addr))), (6, .int .i64 f), (7, .pointer (some (⟨o, 0, none⟩ : Addr))), (8, .pointer (some (⟨p, 0, none⟩ : Addr)))] ⟨rfl, rfl, rfl, rfl, rfl, trivial⟩
       refine then_normal (wp_region_lit ?_)
       refine sqv c3 rfl (r_fieldAddr (c3.get rfl) Try.underlying65 rfl ti_9 (by decide)) fun _ c4 => ?_
       refine sqv c4 rfl (r_load1 Try.underlying9 rfl (c4.get rfl) (au.cell 0 _ rfl)) fun _ c5 => ?_
       refine sqv c5 rfl (r_fieldAddr (c5.get rfl) Try.underlying65 rfl ti_9 (by decide)) fun _ c6 => ?_
       refine sqv c6 rfl (r_load1 Try.underlying9 rfl (c6.get rfl) (ar.cell 0 _ rfl)) fun _ bv => ?_
       refine sqv bv rfl (r_slss (bv.get rfl) (bv.get rfl)) fun _ c7 => ?_
       refine sqv c7 rfl (r_move (c7.get rfl)) fun _ c8 => ?_
       refine sq (opk_gval c8 rfl rfl (g := true) (e := (Op.bytesLess b d)) rfl (fun hg => r_fieldAddr (c8.get rfl) Try.underlying65 rfl ti_9 (by decide)) fun hZ c9 _ => ?_)
       refine sq (opk_gval c9 rfl rfl (g := true) (e := (Op.bytesLess b d)) rfl (fun hg => r_load1 Try.underlying9 rfl (cv_get (c9.get rfl) hg) (au.cell 0 _ rfl)) fun h0 da _ => ?_)
       refine sq (opk_gval da rfl rfl (g := true) (e := (Op.bytesLess b d)) rfl (fun hg => r_fieldAddr (da.get rfl) Try.underlying65 rfl ti_9 (by decide)) fun h1 db _ => ?_)
       refine sq (opk_gval db rfl rfl (g := true) (e := (Op.bytesLess b d)) rfl (fun hg => r_load1 Try.underlying9 rfl (cv_get (db.get rfl) hg) (ar.cell 0 _ rfl)) fun h2 bx _ => ?_)
       refine sq (opk_gval bx rfl rfl (g := true) (e := (Op.bytesLess b d)) rfl (fun hg => r_seql (cv_get (bx.get rfl) hg) (cv_get (bx.get rfl) hg)) fun h3 dc _ => ?_)
       refine sq (opk_gval dc rfl rfl (g := true) (e := (Op.bytesLess b d)) rfl (fun hg => r_move (cv_get (dc.get rfl) hg)) fun h4 dd _ => ?_)
       refine sq (opk_gval dd rfl rfl (g := (true && ((Op.bytesLess b d) == false))) (e := (decide (b = d))) rfl (fun hg => r_fieldAddr (dd.get rfl) Try.underlying65 rfl ti_9 (by decide)) fun h5 df _ => ?_)
       refine sq (opk_gval df rfl rfl (g := (true && ((Op.bytesLess b d) == false))) (e := (decide (b = d))) rfl (fun hg => r_load1 Try.underlying9 rfl (cv_get (df.get rfl) hg) (au.cell 1 _ rfl)) fun h6 dg _ => ?_)
       refine sq (opk_gval dg rfl rfl (g := (true && ((Op.bytesLess b d) == false))) (e := (decide (b = d))) rfl (fun hg => r_fieldAddr (dg.get rfl) Try.underlying65 rfl ti_9 (by decide)) fun h7 dh _ => ?_)
       refine sq (opk_gval dh rfl rfl (g := (true && ((Op.bytesLess b d) == false))) (e := (decide (b = d))) rfl (fun hg => r_load1 Try.underlying9 rfl (cv_get (dh.get rfl) hg) (ar.cell 1 _ rfl)) fun h8 bz _ => ?_)
       refine sq (opk_gval bz rfl rfl (g := (true && ((Op.bytesLess b d) == false))) (e := (decide (b = d))) rfl (fun hg => r_slss (cv_get (bz.get rfl) hg) (cv_get (bz.get rfl) hg)) fun h9 bA _ => ?_)
       refine sq (opk_gval bA rfl rfl (g := true) (e := (Op.bytesLess b d)) rfl (fun hg => r_pick_and (g := ((true && ((Op.bytesLess b d) == false)) && ((decide (b = d)) == true))) (cv_get (bA.get rfl) hg) (bA.get rfl) (fun he => g_mkt hg he)) fun ia bB _ => ?_)
       refine sqv bB rfl (r_pick_or (g := (true && ((Op.bytesLess b d) == false))) (bB.get rfl) (bB.get rfl) (fun he => g_mkf rfl he)) fun _ di => ?_
       refine sqv di rfl (r_fieldAddr (di.get rfl) Try.underlying65 rfl ti_9 (by decide)) fun _ dj => ?_
       refine sqv dj rfl (r_load1 Try.underlying9 rfl (dj.get rfl) (au.cell 0 _ rfl)) fun _ dk => ?_
       refine sqv dk rfl (r_fieldAddr (dk.get rfl) Try.underlying65 rfl ti_9 (by decide)) fun _ dl => ?_
       refine sqv dl rfl (r_load1 Try.underlying9 rfl (dl.get rfl) (ar.cell 0 _ rfl)) fun _ bC => ?_
       refine sqv bC rfl (r_sgtr (bC.get rfl) (bC.get rfl)) fun _ dm => ?_
       refine sqv dm rfl (r_move (dm.get rfl)) fun _ dn => ?_
       refine sq (opk_gval dn rfl rfl (g := true) (e := (!((Op.bytesLess b d) || (decide (b = d))))) rfl (fun hg => r_fieldAddr (dn.get rfl) Try.underlying65 rfl ti_9 (by decide)) fun ib dp _ => ?_)
       refine sq (opk_gval dp rfl rfl (g := true) (e := (!((Op.bytesLess b d) || (decide (b = d))))) rfl (fun hg => r_load1 Try.underlying9 rfl (cv_get (dp.get rfl) hg) (au.cell 0 _ rfl)) fun ig dq _ => ?_)
       refine sq (opk_gval dq rfl rfl (g := true) (e := (!((Op.bytesLess b d) || (decide (b = d))))) rfl (fun hg => r_fieldAddr (dq.get rfl) Try.underlying65 rfl ti_9 (by decide)) fun ih dr _ => ?_)
       refine sq (opk_gval dr rfl rfl (g := true) (e := (!((Op.bytesLess b d) || (decide (b = d))))) rfl (fun hg => r_load1 Try.underlying9 rfl (cv_get (dr.get rfl) hg) (ar.cell 0 _ rfl)) fun ii bD _ => ?_)
       refine sq (opk_gval bD rfl rfl (g := true) (e := (!((Op.bytesLess b d) || (decide (b = d))))) rfl (fun hg => r_seql (cv_get (bD.get rfl) hg) (cv_get (bD.get rfl) hg)) fun ij ds _ => ?_)
       refine sq (opk_gval ds rfl rfl (g := true) (e := (!((Op.bytesLess b d) || (decide (b = d))))) rfl (fun hg => r_move (cv_get (ds.get rfl) hg)) fun ik dt _ => ?_)
       refine sq (opk_gval dt rfl rfl (g := (true && ((!((Op.bytesLess b d) || (decide (b = d)))) == false))) (e := (decide (b = d))) rfl (fun hg => r_fieldAddr (dt.get rfl) Try.underlying65 rfl ti_9 (by decide)) fun il du _ => ?_)
       refine sq (opk_gval du rfl rfl (g := (true && ((!((Op.bytesLess b d) || (decide (b = d)))) == false))) (e := (decide (b = d))) rfl (fun hg => r_load1 Try.underlying9 rfl (cv_get (du.get rfl) hg) (au.cell 1 _ rfl)) fun im dv _ => ?_)
       refine sq (opk_gval dv rfl rfl (g := (true && ((!((Op.bytesLess b d) || (decide (b = d)))) == false))) (e := (decide (b = d))) rfl (fun hg => r_fieldAddr (dv.get rfl) Try.underlying65 rfl ti_9 (by decide)) fun io dx _ => ?_)
       refine sq (opk_gval dx rfl rfl (g := (true && ((!((Op.bytesLess b d) || (decide (b = d)))) == false))) (e := (decide (b = d))) rfl (fun hg => r_load1 Try.underlying9 rfl (cv_get (dx.get rfl) hg) (ar.cell 1 _ rfl)) fun ip bF _ => ?_)
       refine sq (opk_gval bF rfl rfl (g := (true && ((!((Op.bytesLess b d) || (decide (b = d)))) == false))) (e := (decide (b = d))) rfl (fun hg => r_sgtr (cv_get (bF.get rfl) hg) (cv_get (bF.get rfl) hg)) fun iq bG _ => ?_)
       refine sq (opk_gval bG rfl rfl (g := true) (e := (!((Op.bytesLess b d) || (decide (b = d))))) rfl (fun hg => r_pick_and (g := ((true && ((!((Op.bytesLess b d) || (decide (b = d)))) == false)) && ((decide (b = d)) == true))) (cv_get (bG.get rfl) hg) (bG.get rfl) (fun he => g_mkt hg he)) fun ir bH _ => ?_)
       refine sqv bH rfl (r_pick_or (g := (true && ((!((Op.bytesLess b d) || (decide (b = d)))) == false))) (bH.get rfl) (bH.get rfl) (fun he => g_mkf rfl he)) fun _ bI => ?_
       have gZ := gg aM    gY
       refine sq (opk_call bI rfl (r_call (args := #[.bool ((Op.bytesLess b d) || ((decide (b = d)) && (Op.bytesLess aa ab))), .bool ((!((Op.bytesLess b d) || (decide (b = d)))) || ((decide (b = d)) && (!((Op.bytesLess aa ab) || (decide (aa = ab))))))]) Try.func86 (by decide) rfl (map_arr (ml_cons (bI.get rfl) (ml_cons (bI.get rfl) ml_nil))) rfl) gZ fun it iu aS dy _ a4 iv g0 => ?_)
       obtain ⟨ap, rfl, g1⟩ := g0
       have g2 := gV.kept a4 (.head _)
       have g3 := gX.kept a4 (.tail _ (.head _))
       have ix := au.kept a4 (.tail _ (.tail _ (.head _)))
       have iy := ar.kept a4 (.tail _ (.tail _ (.tail _ (.head _))))
       refine sqv dy rfl (r_assign (dy.get rfl)) fun _ g4 => ?_
       refine sq_end ?_
       have dz := g4.keep [(2, .pointer (some (⟨k, 0, none⟩ : Addr))), (3, .pointer (some (⟨j, 0, none⟩ : Addr))), (5, .int .i64 ap), (6, .int .i64 f)] ⟨rfl, rfl, rfl, rfl, trivial⟩
       refine block_normal ?_
       refine then_normal (wp_region_lit ?_)
       refine sqv dz rfl (r_move (dz.get rfl)) fun _ dA => ?_
       obtain ⟨g5, dB⟩ := g1
       refine sqv dA rfl (r_addI (dA.get rfl) rfl g5) fun _ dC => ?_
       refine sqv dC rfl (r_assign (dC.get rfl)) fun _ g6 => ?_
       refine sq_end ?_
       have g7 := g6.keep [(2, .pointer (some (⟨k, 0, none⟩ : Addr))), (3, .pointer (some (⟨j, 0, none⟩ : Addr))), (5, .int .i64 ap), (6, .int .i64 (f + 1))] ⟨rfl, rfl, rfl, rfl, trivial⟩
       have g8 := g7.keep [(2, .pointer (some (⟨k, 0, none⟩ : Addr))), (3, .pointer (some (⟨j, 0, none⟩ : Addr))), (5, .int .i64 ap), (6, .int .i64 (f + 1))] ⟨rfl, rfl, rfl, rfl, trivial⟩
       exact then_normal ⟨(ap, f + 1, aS), ⟨g8, g2, g3, rfl, dB.1⟩, dB.2⟩
   ·have dD := cz.2 ((b_and_f hc).imp (fun h => ((b_and_f h).imp (fun h => (of_decide_eq_false h)) (fun h => (of_decide_eq_false h)))) (fun h => (of_decide_eq_false h)))
    clear hc
    refine wp_exit ?_
    refine then_exit ?_
    refine then_exit ?_
    refine block_hit ?_
    have dF := r.keep [(2, .pointer (some (⟨k, 0, none⟩ : Addr))), (3, .pointer (some (⟨j, 0, none⟩ : Addr))), (5, .int .i64 l)] ⟨rfl, rfl, rfl, trivial⟩
    refine then_normal (wp_seq (wp_seq (wp_region_lit ?_)))
    refine sqv dF rfl (r_move (dF.get rfl)) fun _ dG => ?_
    refine sqv dG rfl (r_eql (dG.get rfl) rfl) fun _ g9 => ?_
    refine sq_end ?_
    have aQ := g9.keep [(2, .pointer (some (⟨k, 0, none⟩ : Addr))), (3, .pointer (some (⟨j, 0, none⟩ : Addr))), (5, .int .i64 l), (114, .bool (decide (l = 0)))] ⟨rfl, rfl, rfl, rfl, trivial⟩
    refine then_normal ?_
    refine wp_cond_split (aQ.get rfl) (fun hc => ?_) (fun hc => ?_)
    ·have ha := dD.1 (of_decide_eq_true hc)
     clear hc
     refine wp_region_lit ?_
     refine sqv aQ rfl (r_fieldAddr (aQ.get rfl) Try.underlying29 rfl ti_26 (by decide)) fun _ dH => ?_
     refine sqv dH rfl (r_load1 Try.underlying26 rfl (dH.get rfl) (aN.cell 3 _ rfl)) fun _ dI => ?_
     refine sqv dI rfl (r_len (dI.get rfl) Try.underlying26) fun _ dJ => ?_
     refine sqv dJ rfl (r_fieldAddr (dJ.get rfl) Try.underlying29 rfl ti_26 (by decide)) fun _ dK => ?_
     refine sqv dK rfl (r_load1 Try.underlying26 rfl (dK.get rfl) (aO.cell 3 _ rfl)) fun _ dL => ?_
     refine sqv dL rfl (r_len (dL.get rfl) Try.underlying26) fun _ bJ => ?_
     refine sqv bJ rfl (r_lss (bJ.get rfl) (bJ.get rfl)) fun _ dM => ?_
     refine sqv dM rfl (r_fieldAddr (dM.get rfl) Try.underlying29 rfl ti_26 (by decide)) fun _ dN => ?_
     refine sqv dN rfl (r_load1 Try.underlying26 rfl (dN.get rfl) (aN.cell 3 _ rfl)) fun _ dO => ?_
     refine sqv dO rfl (r_len (dO.get rfl) Try.underlying26) fun _ dP => ?_
     refine sqv dP rfl (r_fieldAddr (dP.get rfl) Try.underlying29 rfl ti_26 (by decide)) fun _ dQ => ?_
     refine sqv dQ rfl (r_load1 Try.underlying26 rfl (dQ.get rfl) (aO.cell 3 _ rfl)) fun _ dR => ?_
     refine sqv dR rfl (r_len (dR.get rfl) Try.underlying26) fun _ bK => ?_
     refine sqv bK rfl (r_gtr (bK.get rfl) (bK.get rfl)) fun _ bL => ?_
     refine sq (opk_call bL rfl (r_call (args := #[.bool (decide ((m.n : Int) < (q.n : Int))), .bool (decide ((q.n : Int) < (m.n : Int)))]) Try.func86 (by decide) rfl (map_arr (ml_cons (bL.get rfl) (ml_cons (bL.get rfl) ml_nil))) rfl) ha fun iz iA bO dS _ dT iB hb => ?_)
     obtain ⟨aA, rfl, hd⟩ := hb
     have iC := aN.kept dT (.head _)
     have iD := aO.kept dT (.tail _ (.head _))
     refine sqv dS rfl (r_assign (dS.get rfl)) fun _ hf => ?_
     refine sq_end ?_
     have dU := hf.keep [(5, .int .i64 aA)] ⟨rfl, trivial⟩
     refine then_normal (wp_seq (wp_region_lit ?_))
     refine sqv dU rfl (r_move (dU.get rfl)) fun _ dV => ?_
     refine sqv dV rfl (r_assign (dV.get rfl)) fun _ hh => ?_
     refine sq_end ?_
     have dX := hh.keep [(4, .int .i64 aA)] ⟨rfl, trivial⟩
     refine then_normal ?_
     refine wp_ret ?_
     exact res_all (vs := [.int .i64 aA]) rfl dX ⟨res_of_tmp dX rfl, trivial⟩ hd
    ·have hi := dD.2 (of_decide_eq_false hc)
     clear hc
     refine wp_skip ?_
     refine then_normal (wp_seq (wp_region_lit ?_))
     refine sqv aQ rfl (r_move (aQ.get rfl)) fun _ dY => ?_
     refine sqv dY rfl (r_assign (dY.get rfl)) fun _ hj => ?_
     refine sq_end ?_
     have dZ := hj.keep [(4, .int .i64 l)] ⟨rfl, trivial⟩
     refine then_normal ?_
     refine wp_ret ?_
     exact res_all (vs := [.int .i64 l]) rfl dZ ⟨res_of_tmp dZ rfl, trivial⟩ hi
def ref05_sign.vc (b : Bool) (a : Bool) (R : Value → World → Prop) (w : World) : Prop :=
((b = true) →
R (.int .i64 (-1)) w) ∧
((b = false) →
((a = true) →
R (.int .i64 1) w) ∧
((a = false) →
R (.int .i64 0) w))
theorem ref05_sign.ok (b : Bool) (a : Bool) {R : Value → World → Prop} {w : World} (d : ref05_sign.vc b a R w) : Calls Try.prog 86 #[.bool b, .bool a] w (Ret R) := by
 refine enter [.bool b, .bool a] Try.func86 rfl Try.ntmps86 rfl ?_
 intro y n
 unfold ref05_sign.vc at d
 refine wp_seq (wp_region_lit ?_)
 refine sqv n rfl (r_assign rfl) fun _ o => ?_
 refine sq_end ?_
 have g := o.keep [(0, .bool b), (1, .bool a)] ⟨rfl, rfl, trivial⟩
 refine then_normal (wp_seq (wp_block (wp_seq (wp_region_lit ?_))))
 refine sqv g rfl (r_move (g.get rfl)) fun _ h => ?_
 refine sqv h rfl (r_assign (h.get rfl)) fun _ p => ?_
 refine sq_end ?_
 have c := p.keep [(1, .bool a), (5, .bool b)] ⟨rfl, rfl, trivial⟩
 refine then_normal ?_
 refine wp_cond_split (c.get rfl) (fun hc => ?_) (fun hc => ?_)
 ·have q := d.1 hc
  clear hc
  refine wp_seq (wp_region_lit ?_)
  refine sqv c rfl (r_assign rfl) fun _ r => ?_
  refine sq_end ?_
  have i := r.keep [(4, .int .i64 (-1))] ⟨rfl, trivial⟩
  refine then_normal ?_
  refine wp_ret ?_
  refine block_ret ?_
  refine then_ret ?_
  exact res_all (vs := [.int .i64 (-1)]) rfl i ⟨res_of_tmp i rfl, trivial⟩ q
 ·have j := d.2 hc
  clear hc
  refine wp_seq (wp_region_lit ?_)
  refine sqv c rfl (r_move (c.get rfl)) fun _ k => ?_
  refine sqv k rfl (r_assign (k.get rfl)) fun _ s => ?_
  refine sq_end ?_
  have f := s.keep [(7, .bool a)] ⟨rfl, trivial⟩
  refine then_normal ?_
  refine wp_cond_split (f.get rfl) (fun hc => ?_) (fun hc => ?_)
  ·have t := j.1 hc
   clear hc
   refine wp_seq (wp_region_lit ?_)
   refine sqv f rfl (r_assign rfl) fun _ u => ?_
   refine sq_end ?_
   have l := u.keep [(4, .int .i64 1)] ⟨rfl, trivial⟩
   refine then_normal ?_
   refine wp_ret ?_
   refine block_ret ?_
   refine then_ret ?_
   exact res_all (vs := [.int .i64 1]) rfl l ⟨res_of_tmp l rfl, trivial⟩ t
  ·have v := j.2 hc
   clear hc
   refine wp_skip ?_
   refine block_normal ?_
   refine then_normal (wp_seq (wp_region_lit ?_))
   refine sqv f rfl (r_assign rfl) fun _ x => ?_
   refine sq_end ?_
   have m := x.keep [(4, .int .i64 0)] ⟨rfl, trivial⟩
   refine then_normal ?_
   refine wp_ret ?_
   exact res_all (vs := [.int .i64 0]) rfl m ⟨res_of_tmp m rfl, trivial⟩ v
end Go.Proofs.Ytghmgfkdnolcdaa
