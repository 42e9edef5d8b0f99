/-
  PRINTED BY PROGRAM: for each function its condition (vc), and that this suffices (ok).
-/
import Derived.Test.YteacalmdpoblpaaGreatQCodecBaseGT
namespace Go.Proofs.YteacalmdpoblpaaGreat
open Go.RowKit
set_option linter.unusedVariables false
set_option maxHeartbeats 1000000
set_option maxRecDepth 10000
def dom_New.vc (b : Int) (c : Str) (d : Str) (f : Sl) (g : Sl) (R : Value → World → Prop) (w : World) : Prop :=
∀ (j : World) (h : Nat), New w h j → Chg [] w j →
CallK Tryz.prog 35 #[.agg #[.int .i64 b, .string (Bs c), .string (Bs d), Sl.v f, Sl.v g]] j [h] (fun v n => ∃ (l : Bool), v = .bool l ∧
((l = false) →
R (.tuple #[.pointer none, .int .i64 1]) n) ∧
((l = true) →
RunK Tryz.prog (Instr.makeMap 193 none) n [h] (fun v m => ∃ (k : Option Nat), v = .map k ∧
∀ (i : World) (a : Nat), New m a i → Chg [] m i →
∀ (_ : Box i a 195 [Sl.v Sl.nil, .map k]),
CallK Tryz.prog 158 #[.pointer (some (⟨a, 0, none⟩ : Addr)), .agg #[.int .i64 b, .string (Bs c), .string (Bs d), Sl.v f, Sl.v g], .int .i64 (-1)] i [h] (fun v s => ∃ (t : Int), v = .int .i64 t ∧
R (.tuple #[.pointer (some (⟨a, 0, none⟩ : Addr)), .int .i64 0]) s))))
theorem dom_New.ok (b : Int) (c : Str) (d : Str) (f : Sl) (g : Sl) {R : Value → World → Prop} {w : World} (u : dom_New.vc b c d f g R w) : Calls Tryz.prog 115 #[.agg #[.int .i64 b, .string (Bs c), .string (Bs d), Sl.v f, Sl.v g]] w (Ret R) := by
 refine enter [.agg #[.int .i64 b, .string (Bs c), .string (Bs d), Sl.v f, Sl.v g]] Tryz.func115 rfl Tryz.ntmps115 rfl ?_
 intro a0 x
 unfold dom_New.vc at u
 refine wp_seq (wp_region_lit ?_)
 refine sq (opk_new (fun B => .pointer (some ⟨B, 0, none⟩)) x rfl (r_box (cs := [.int .i64 b, .string (Bs c), .string (Bs d), Sl.v f, Sl.v g]) (x.get rfl) rfl) fun a4 j h aq ar y au _ => ?_)
 have av : New w h j := ar
 have ax : Chg [] w j := aq
 refine sqv au rfl (r_assign rfl) fun _ ay => sqv ay rfl (r_assign rfl) fun _ az => sq_end ?_
 have z := az.kp [(1, .pointer (some (⟨h, 0, none⟩ : Addr)))] rfl
 refine then_normal (wp_seq (wp_seq (wp_region_lit ?_)))
 refine sqv z rfl (r_loadN (cs := [.int .i64 b, .string (Bs c), .string (Bs d), Sl.v f, Sl.v g]) Tryz.underlying39 rfl ti_39 (z.get rfl) (y.part 0 _ rfl)) fun _ aa => ?_
 have aA := u j h av  ax
 refine sq (opk_call aa rfl (r_call (args := #[.agg #[.int .i64 b, .string (Bs c), .string (Bs d), Sl.v f, Sl.v g]]) Tryz.func35 (by decide) rfl (map_arr (ml_cons (aa.get rfl) ml_nil)) rfl) aA fun a2 a3 n ab _ aB a5 aC => ?_)
 obtain ⟨l, rfl, ad⟩ := aC
 have aD := y.kept aB (.head _)
 refine sqv ab rfl (r_not (ab.get rfl)) fun _ aF => sq_end ?_
 have o := aF.kp [(1, .pointer (some (⟨h, 0, none⟩ : Addr))), (7, .bool (!l))] rfl
 refine then_normal ?_
 refine wp_cond_split (o.get rfl) (fun hc => ?_) (fun hc => ?_)
 ·have aG := ad.1 (b_not_t hc)
  clear hc
  refine wp_seq (wp_region_lit ?_)
  refine sqv o rfl (r_assign rfl) fun _ aH => sqv aH rfl (r_assign rfl) fun _ aI => sq_end ?_
  have p := aI.kp [(2, .pointer none), (3, .int .i64 1)] rfl
  refine then_normal ?_
  refine wp_ret ?_
  refine then_ret ?_
  exact res_all (vs := [.pointer none, .int .i64 1]) rfl p ⟨res_of_tmp p rfl, res_of_tmp p rfl, trivial⟩ aG
 ·have aJ := ad.2 (b_not_f hc)
  clear hc
  refine wp_skip ?_
  refine then_normal (wp_seq (wp_region_lit ?_))
  refine sq (opk_run o rfl (fun _ _ hr => r_makeMap hr) aJ fun a6 a7 m af _ aK a8 aL => ?_)
  obtain ⟨k, rfl, aM⟩ := aL
  have ag := aD.kept aK (.head _)
  refine sqv af rfl (r_build (vs := #[(1, .map k)]) (cells := #[Sl.v Sl.nil, .map k]) (map_arr2 (ml2_cons (af.get rfl) (ml2_nil))) ti_195 Tryz.underlying195 pl_195 (by kernel_rfl)) fun _ ah => ?_
  refine sq (opk_new (fun B => .pointer (some ⟨B, 0, none⟩)) ah rfl (r_box (cs := [Sl.v Sl.nil, .map k]) (ah.get rfl) rfl) fun a9 i a ai aj aN ak _ => ?_)
  have ba : h ≠ a := Nat.ne_of_lt (Nat.lt_of_lt_of_le ag.lt aj.ge)
  have aO : New m a i := aj
  have al := ag.ext ai
  have aP : Chg [] m i := ai
  refine sqv ak rfl (r_assign (ak.get rfl)) fun _ aQ => sq_end ?_
  have am := aQ.kp [(1, .pointer (some (⟨h, 0, none⟩ : Addr))), (4, .pointer (some (⟨a, 0, none⟩ : Addr)))] rfl
  refine then_normal (wp_seq (wp_region_lit ?_))
  refine sqv am rfl (r_move (am.get rfl)) fun _ an => sqv an rfl (r_loadN (cs := [.int .i64 b, .string (Bs c), .string (Bs d), Sl.v f, Sl.v g]) Tryz.underlying39 rfl ti_39 (an.get rfl) (al.part 0 _ rfl)) fun _ q => ?_
  have aR := aM i a aO  aP
  have aS := aR aN
  refine sq (opk_call q rfl (r_call (args := #[.pointer (some (⟨a, 0, none⟩ : Addr)), .agg #[.int .i64 b, .string (Bs c), .string (Bs d), Sl.v f, Sl.v g], .int .i64 (-1)]) Tryz.func158 (by decide) rfl (map_arr (ml_cons (q.get rfl) (ml_cons (q.get rfl) (ml_cons rfl ml_nil)))) rfl) aS fun bb bd s aT _ aU bf aV => ?_)
  obtain ⟨t, rfl, aX⟩ := aV
  have bg := al.kept aU (.head _)
  refine sq_end ?_
  have ao := aT.kp [(4, .pointer (some (⟨a, 0, none⟩ : Addr)))] rfl
  refine then_normal (wp_seq (wp_region_lit ?_))
  refine sqv ao rfl (r_move (ao.get rfl)) fun _ ap => sqv ap rfl (r_assign (ap.get rfl)) fun _ aY => sqv aY rfl (r_assign rfl) fun _ aZ => sq_end ?_
  have r := aZ.kp [(2, .pointer (some (⟨a, 0, none⟩ : Addr))), (3, .int .i64 0)] rfl
  refine then_normal ?_
  refine wp_ret ?_
  exact res_all (vs := [.pointer (some (⟨a, 0, none⟩ : Addr)), .int .i64 0]) rfl r ⟨res_of_tmp r rfl, res_of_tmp r rfl, trivial⟩ aX
def dom_Dom_tree.vc (m : Addr) (ah : Int) (R : Value → World → Prop) (w : World) : Prop :=
∀ (w4 : World) (k : Nat), New w k w4 → Chg [] w w4 →
CallK Tryz.prog 140 #[.pointer (some m), .int .i64 ah] w4 [k] (fun v ao => ∃ (aj : Option Addr), v = .pointer aj ∧
∃ aA : Addr, (aj = some aA) ∧
∃ (q : Int) (r : Str) (t : Str) (ap : Sl) (ak : Sl), (Cells ao (aA.add 2) [.int .i64 q, .string (Bs r), .string (Bs t), Sl.v ap, Sl.v ak]) ∧
∀ (aq : World) (b : Nat), New ao b aq → Chg [] ao aq →
CallK Tryz.prog 155 #[Sl.v ap] aq [k, b] (fun v aB => ∃ (x : Sl), v = Sl.v x ∧
∃ aC : Addr, (aj = some aC) ∧
∀ (aa : World), Chg [b] aB aa →
∃ (l : Sl), (aa.cell? (aC.add 7) = some (Sl.v l)) ∧
∃ (au : Int → Sl → World → Prop) (ax : Int → Sl → World → Nat),
au 0 ak aa ∧
(∀ (o : Int) (u : Sl) (y : World), au o u y →
((o < (l.n : Int)) →
((0 : Int) ≤ o ∧ o < (l.n : Int)) ∧ ∃ aD : Addr, l.a = some aD ∧
∃ (ab : Int), (y.cell? (aD.add (o.toNat * 1)) = some (.int .i64 ab)) ∧
∀ (z : World), Chg [] y z →
∃ al : Int → Str → Str → Sl → Sl → World → Prop, (∀ c : Int, ∀ d : Str, ∀ f : Str, ∀ g : Sl, ∀ j : Sl, ∀ w' w'' : World, Ext w' w'' → al c d f g j w' → al c d f g j w'') ∧
(∀ w' : World, Ext z w' → Calls Tryz.prog 116 #[.pointer (some m), .int .i64 ab] w' (Ret fun v w'' => Ext w' w'' ∧ ∃ c : Int, ∃ d : Str, ∃ f : Str, ∃ g : Sl, ∃ j : Sl, v = .agg #[.int .i64 c, .string (Bs d), .string (Bs f), Sl.v g, Sl.v j] ∧ al c d f g j w'')) ∧
∀ (ad : World) (c : Int) (d : Str) (f : Str) (g : Sl) (j : Sl) (p : Nat), Ext z ad → al c d f g j ad → z.heap.size ≤ p → Box ad p 39 [.int .i64 c, .string (Bs d), .string (Bs f), Sl.v g, Sl.v j] → 
∀ (_ : Box ad p 39 [.int .i64 c, .string (Bs d), .string (Bs f), Sl.v g, Sl.v j]),
RunK Tryz.prog (Builtin.append_ #[37, 37] 37 #[Sl.v u, Sl.v (Sl.mk (some ⟨p, 0, none⟩) 1 1)]) ad [k, b] (fun v aF => ∃ (af : Sl), v = Sl.v af ∧
(I64 (o + 1)) ∧
∀ (am : World), Chg [b] aF am →
au (o + 1) af am ∧ ax (o + 1) af am < ax o u y)) ∧
((¬ (o < (l.n : Int))) →
∀ (ar : World), Chg [k] y ar →
R (.agg #[.int .i64 q, .string (Bs r), .string (Bs t), Sl.v x, Sl.v u]) ar))))
theorem dom_Dom_tree.ok (m : Addr) (ah : Int) {R : Value → World → Prop} {w : World} (aV : dom_Dom_tree.vc m ah R w) : Calls Tryz.prog 116 #[.pointer (some m), .int .i64 ah] w (Ret R) := by
 refine enter [.pointer (some m), .int .i64 ah] Tryz.func116 rfl Tryz.ntmps116 rfl ?_
 intro a0 bJ
 unfold dom_Dom_tree.vc at aV
 refine wp_seq (wp_region_lit ?_)
 refine sq (opk_new (fun B => .pointer (some ⟨B, 0, none⟩)) bJ rfl (r_alloc (cs := [.int .i64 0, .string (Bs []), .string (Bs []), Sl.v Sl.nil, Sl.v Sl.nil]) ti_39 rfl) fun a5 w4 k bK bL bM bN _ => ?_)
 have bO : New w k w4 := bL
 have bP : Chg [] w w4 := bK
 refine sq_end ?_
 have aX := bN.kp [(0, .pointer (some m)), (1, .int .i64 ah), (4, .pointer (some (⟨k, 0, none⟩ : Addr)))] rfl
 refine then_normal (wp_seq (wp_region_lit ?_))
 refine sqv aX rfl (r_move (aX.get rfl)) fun _ aY => sqv aY rfl (r_move (aY.get rfl)) fun _ aG => ?_
 have bQ := aV w4 k bO  bP
 refine sq (opk_call aG rfl (r_call (args := #[.pointer (some m), .int .i64 ah]) Tryz.func140 (by decide) rfl (map_arr (ml_cons (aG.get rfl) (ml_cons (aG.get rfl) ml_nil))) rfl) bQ fun dz dA ao aZ _ bR dB bS => ?_)
 obtain ⟨aj, rfl, bT⟩ := bS
 have hB23 := bM.kept bR (.head _)
 refine sqv aZ rfl (r_assign (aZ.get rfl)) fun _ bU => sq_end ?_
 have a1 := bU.kp [(0, .pointer (some m)), (4, .pointer (some (⟨k, 0, none⟩ : Addr))), (5, .pointer aj)] rfl
 refine then_normal (wp_seq (wp_region_lit ?_))
 refine sqv a1 rfl (r_move (a1.get rfl)) fun _ a2 => ?_
 obtain ⟨aA, bV, bX⟩ := bT
 refine sqv a2 rfl (r_nilCheckP (((a2.get rfl)).trans (congrArg Value.pointer bV))) fun _ a3 => sqv a3 rfl (r_fieldAddr (a3.get rfl) Tryz.underlying197 rfl ti_39 (by decide)) fun _ a4 => ?_
 obtain ⟨q, r, t, ap, ak, bY, bZ⟩ := bX
 refine sqv a4 rfl (r_loadN Tryz.underlying39 rfl ti_39 (a4.get rfl) bY) fun _ b0 => ?_
 refine sq (opk_new (fun B => .pointer (some ⟨B, 0, none⟩)) b0 rfl (r_alloc (cs := [.int .i64 0, .string (Bs []), .string (Bs []), Sl.v Sl.nil, Sl.v Sl.nil]) ti_39 rfl) fun dC w37 b a6 a7 a8 aH _ => ?_)
 have ay : k ≠ b := Nat.ne_of_lt (Nat.lt_of_lt_of_le hB23.lt a7.ge)
 have a9 : New ao b w37 := a7
 have b1 := hB23.ext a6
 have b2 : Chg [] ao w37 := a6
 refine sq (opk_store aH a8 (r_store (vs := [.int .i64 q, .string (Bs r), .string (Bs t), Sl.v ap, Sl.v ak]) (aH.get rfl) (aH.get rfl) rfl ti_39 a8 rfl (ones_all _ rfl)) fun dD aq aI b3 b4 => ?_)
 have ba : Box aq b 39 [.int .i64 q, .string (Bs r), .string (Bs t), Sl.v ap, Sl.v ak] := b3
 have b5 := b1.keep aI (by simpa using ay)
 have b6 := b2.storeNew a9 aI
 have b7 := a9.up aI.size
 refine sq_end ?_
 have bb := b4.kp [(0, .pointer (some m)), (4, .pointer (some (⟨k, 0, none⟩ : Addr))), (5, .pointer aj), (6, .pointer (some (⟨b, 0, none⟩ : Addr)))] rfl
 refine then_normal (wp_seq (wp_region_lit ?_))
 refine sqv bb rfl (r_fieldAddr (bb.get rfl) Tryz.underlying39 rfl ti_36 (by decide)) fun _ bd => sqv bd rfl (r_load1 tU36 rfl (bd.get rfl) (ba.cell 3 _ rfl)) fun _ bf => ?_
 have b8 := bZ aq b b7  b6
 refine sq (opk_call bf rfl (r_call (args := #[Sl.v ap]) Tryz.func155 (by decide) rfl (map_arr (ml_cons (bf.get rfl) ml_nil)) rfl) b8 fun dF dG aB bg _ bh dH b9 => ?_)
 obtain ⟨x, rfl, ca⟩ := b9
 have cb := b5.kept bh (.head _)
 have bi := ba.kept bh (.tail _ (.head _))
 refine sqv bg rfl (r_fieldAddr (bg.get rfl) Tryz.underlying39 rfl ti_36 (by decide)) fun _ aJ => ?_
 refine sq (opk_store aJ bi (r_store (vs := [Sl.v x]) (aJ.get rfl) (aJ.get rfl) rfl ti_36 bi rfl (ones_all _ rfl)) fun dI aa bj cc cd => ?_)
 have cf : Box aa b 39 [.int .i64 q, .string (Bs r), .string (Bs t), Sl.v x, Sl.v ak] := cc
 have cg := cb.keep bj (by simpa using ay)
 have ch : Chg [b] aB aa := bj
 refine sq_end ?_
 have bk := cd.kp [(0, .pointer (some m)), (4, .pointer (some (⟨k, 0, none⟩ : Addr))), (5, .pointer aj), (6, .pointer (some (⟨b, 0, none⟩ : Addr)))] rfl
 refine then_normal (wp_seq (wp_seq (wp_region_lit ?_)))
 refine sqv bk rfl (r_move (bk.get rfl)) fun _ bl => ?_
 obtain ⟨aC, ci, cj⟩ := ca
 refine sqv bl rfl (r_nilCheckP (((bl.get rfl)).trans (congrArg Value.pointer ci))) fun _ bm => sqv bm rfl (r_fieldAddr (bm.get rfl) Tryz.underlying197 rfl ti_44 (by decide)) fun _ bn => ?_
 have ck := cj aa    ch
 obtain ⟨l, cl, cm⟩ := ck
 refine sqv bn rfl (r_load1 tU44 rfl (bn.get rfl) cl) fun _ bo => sqv bo rfl (r_len (bo.get rfl) tU44) fun _ cn => sqv cn rfl (r_move rfl) fun _ co => sq_end ?_
 have cp := co.kp [(0, .pointer (some m)), (4, .pointer (some (⟨k, 0, none⟩ : Addr))), (6, .pointer (some (⟨b, 0, none⟩ : Addr))), (23, Sl.v l), (24, .int .i64 (l.n : Int)), (25, .int .i64 0)] rfl
 refine then_normal (wp_block ?_)
 obtain ⟨au, ax, cq, cr⟩ := cm
 refine wp_loop_st (σ := Int × Sl × World) (fun s a w => Ag 39 a [(0, .pointer (some m)), (4, .pointer (some (⟨k, 0, none⟩ : Addr))), (6, .pointer (some (⟨b, 0, none⟩ : Addr))), (23, Sl.v l), (24, .int .i64 (l.n : Int)), (25, .int .i64 s.1)] ∧ Box w k 39 [.int .i64 0, .string (Bs []), .string (Bs []), Sl.v Sl.nil, Sl.v Sl.nil] ∧ Box w b 39 [.int .i64 q, .string (Bs r), .string (Bs t), Sl.v x, Sl.v s.2.1] ∧ w = s.2.2 ∧ au s.1 s.2.1 s.2.2) (fun s => ax s.1 s.2.1 s.2.2) (0, ak, aa) ⟨cp.kp [(0, .pointer (some m)), (4, .pointer (some (⟨k, 0, none⟩ : Addr))), (6, .pointer (some (⟨b, 0, none⟩ : Addr))), (23, Sl.v l), (24, .int .i64 (l.n : Int)), (25, .int .i64 0)] rfl, cg, cf, rfl, cq⟩ ?_
 rintro ⟨o, u, y⟩ dJ w_ ⟨aK, aL, aM, hw_, ct⟩
 have hw_ : y = w_ := hw_.symm
 subst hw_
 have bp := cr o u _ ct
 refine wp_seq (wp_region_lit ?_)
 refine sqv aK rfl (r_lss (aK.get rfl) (aK.get rfl)) fun _ cu => sq_end ?_
 have av := cu.kp [(0, .pointer (some m)), (4, .pointer (some (⟨k, 0, none⟩ : Addr))), (6, .pointer (some (⟨b, 0, none⟩ : Addr))), (23, Sl.v l), (24, .int .i64 (l.n : Int)), (25, .int .i64 o), (26, .bool (decide (o < (l.n : Int))))] rfl
 refine then_normal (wp_seq ?_)
 refine wp_cond_split (av.get rfl) (fun hc => ?_) (fun hc => ?_)
 ·have cv := bp.1 (of_decide_eq_true hc)
  clear hc
  refine wp_skip ?_
  refine then_normal (wp_seq (wp_block (wp_seq (wp_region_lit ?_))))
  obtain ⟨cx, aD, cy, cz⟩ := cv
  refine sqv av rfl (r_indexAddr (av.get rfl) (av.get rfl) tU44 ti_3 cx cy) fun _ bq => ?_
  obtain ⟨ab, cA, cB⟩ := cz
  refine sqv bq rfl (r_load1 tU3 rfl (bq.get rfl) cA) fun _ br => sqv br rfl (r_assign (br.get rfl)) fun _ cC => sq_end ?_
  have an := cC.kp [(0, .pointer (some m)), (4, .pointer (some (⟨k, 0, none⟩ : Addr))), (6, .pointer (some (⟨b, 0, none⟩ : Addr))), (8, .int .i64 ab), (23, Sl.v l), (24, .int .i64 (l.n : Int)), (25, .int .i64 o)] rfl
  refine then_normal ?_
  refine draw' (by kernel_rfl) fun z aN => ?_
  have bs := aL.ext aN
  have aO := aM.ext aN
  have cD : Chg [] y z := aN
  have cF := cB z    cD
  obtain ⟨al, aP, cG, cH⟩ := cF
  refine par (D := [[], [0], [], [], [2, 3], [2, 3, 4], [0, 1, 2, 3, 4, 5], [0, 1, 2, 3, 4, 5, 6], [0, 1, 2, 3, 4, 5, 6, 7]]) (S := [0, 1, 2, 3, 4, 5]) (F := []) (V := VL [(0, fun v _ => v = .pointer (some (⟨b, 4, none⟩ : Addr))), (1, fun v _ => v = Sl.v u), (2, fun v _ => v = .pointer (some m)), (3, fun v _ => v = .int .i64 ab), (4, fun v w' => ∃ c : Int, ∃ d : Str, ∃ f : Str, ∃ g : Sl, ∃ j : Sl, al c d f g j w' ∧ v = .agg #[.int .i64 c, .string (Bs d), .string (Bs f), Sl.v g, Sl.v j]), (5, fun v w' => ∃ c : Int, ∃ d : Str, ∃ f : Str, ∃ g : Sl, ∃ j : Sl, ∃ p : Nat, al c d f g j w' ∧ z.heap.size ≤ p ∧ Box w' p 39 [.int .i64 c, .string (Bs d), .string (Bs f), Sl.v g, Sl.v j] ∧ v = Sl.v (Sl.mk (some ⟨p, 0, none⟩) 1 1))]) an (by kernel_rfl) ⟨fun _ _ _ _ h => h, fun _ _ _ _ h => h, fun _ _ _ _ h => h, fun _ _ _ _ h => h, fun _ _ _ hE ⟨c, d, f, g, j, h0_, e⟩ => ⟨c, d, f, g, j, (aP c d f g j _ _ hE h0_), e⟩, fun _ _ _ hE ⟨c, d, f, g, j, p, h0_, h1_, h2_, e⟩ => ⟨c, d, f, g, j, p, (aP c d f g j _ _ hE h0_), h1_, (h2_.ext hE), e⟩, trivial⟩ ⟨?_, ?_, ?_, ?_, ?_, ?_, trivial⟩ ?_
  ·intro a w hT
   have hAp := hT.ag an [(6, .pointer (some (⟨b, 0, none⟩ : Addr)))] ⟨rfl, trivial⟩ (by kernel_rfl)
   exact ovr hAp rfl (r_fieldAddr (hAp.get rfl) Tryz.underlying39 rfl ti_37 (by decide)) fun _ => Eq.refl _
  ·intro a w hT
   have hAp := hT.ag an [] trivial (by kernel_rfl)
   have cI : a.tmps.getD 29 undef = .pointer (some (⟨b, 4, none⟩ : Addr)) := hT.vals 0 rfl 29 rfl
   have hAp := hAp.add cI
   exact ovr hAp rfl (r_load1 tU37 rfl (hAp.get rfl) ((aO.ext hT.chg).cell 4 _ rfl)) fun _ => Eq.refl _
  ·intro a w hT
   have hAp := hT.ag an [(0, .pointer (some m))] ⟨rfl, trivial⟩ (by kernel_rfl)
   exact ovr hAp rfl (r_move (hAp.get rfl)) fun _ => Eq.refl _
  ·intro a w hT
   have hAp := hT.ag an [(8, .int .i64 ab)] ⟨rfl, trivial⟩ (by kernel_rfl)
   exact ovr hAp rfl (r_move (hAp.get rfl)) fun _ => Eq.refl _
  ·intro a w hT
   have hAp := hT.ag an [] trivial (by kernel_rfl)
   have cJ : a.tmps.getD 31 undef = .pointer (some m) := hT.vals 2 rfl 31 rfl
   have hAp := hAp.add cJ
   have cK : a.tmps.getD 32 undef = .int .i64 ab := hT.vals 3 rfl 32 rfl
   have hAp := hAp.add cK
   exact opk_callX hAp rfl (r_call (args := #[.pointer (some m), .int .i64 ab]) Tryz.func116 (by decide) rfl (map_arr (ml_cons (hAp.get rfl) (ml_cons (hAp.get rfl) ml_nil))) rfl) (cG w hT.chg) fun _ _ _ _ e ⟨hE, c, d, f, g, j, he, hV⟩ => ⟨_, e, hE, fun _ => ⟨c, d, f, g, j, hV, he⟩⟩
  ·intro a w hT
   have hAp := hT.ag an [] trivial (by kernel_rfl)
   obtain ⟨c, d, f, g, j, cL, cM⟩ := hT.vals 4 rfl 33 rfl
   have hAp := hAp.add cM
   exact opk_new (fun B => .slice (some ⟨B, 0, none⟩) 1 1) hAp rfl (r_buildSlice (vs := #[(0, .agg #[.int .i64 c, .string (Bs d), .string (Bs f), Sl.v g, Sl.v j])]) (cs := [.int .i64 c, .string (Bs d), .string (Bs f), Sl.v g, Sl.v j]) (map_arr2 (ml2_cons (hAp.get rfl) (ml2_nil))) tU37 ti_39 rfl rfl (by kernel_rfl)) fun _ dK p bt cN cO _ e => ⟨_, e, bt, fun _ => ⟨c, d, f, g, j, p, (aP c d f g j _ _ bt cL), Nat.le_trans hT.chg.size cN.ge, cO, rfl⟩⟩
  ·intro cP ad az cQ bu
   have cR := cQ [(0, .pointer (some m)), (4, .pointer (some (⟨k, 0, none⟩ : Addr))), (6, .pointer (some (⟨b, 0, none⟩ : Addr))), (23, Sl.v l), (24, .int .i64 (l.n : Int)), (25, .int .i64 o)] ⟨rfl, rfl, rfl, rfl, rfl, rfl, trivial⟩ (by kernel_rfl)
   have cS : cP.tmps.getD 30 undef = Sl.v u := bu 1 rfl 30 rfl
   have cT := cR.add cS
   obtain ⟨c, d, f, g, j, p, cU, aQ, bv, cX⟩ := bu 5 rfl 34 rfl
   have aR := cT.add cX
   have cY := bs.ext az
   have cZ := aO.ext az
   have dL : Chg [] z ad := az
   have c0 := cH ad c d f g j p az cU aQ bv
   have dM : k ≠ p := Nat.ne_of_lt (Nat.lt_of_lt_of_le bs.lt aQ)
   have dN : b ≠ p := Nat.ne_of_lt (Nat.lt_of_lt_of_le aO.lt aQ)
   have c1 := c0 bv
   refine one (D := [[], [0], [], [], [2, 3], [2, 3, 4], [0, 1, 2, 3, 4, 5], [0, 1, 2, 3, 4, 5, 6], [0, 1, 2, 3, 4, 5, 6, 7]]) (i := 6) rfl (by kernel_rfl) (opk_run aR rfl (fun _ _ hr => r_append (aR.get rfl) (aR.get rfl) hr) c1 fun dO dP aF bx _ bz dQ c2 => ?_)
   obtain ⟨af, rfl, c3⟩ := c2
   have c4 := cY.kept bz (.head _)
   have c5 := cZ.kept bz (.tail _ (.head _))
   refine par (D := [[], [0], [], [], [2, 3], [2, 3, 4], [0, 1, 2, 3, 4, 5], [0, 1, 2, 3, 4, 5, 6], [0, 1, 2, 3, 4, 5, 6, 7]]) (S := [7]) (F := []) (V := VL [(7, fun v _ => v = .pointer (some (⟨b, 4, none⟩ : Addr)))]) bx (by kernel_rfl) ⟨fun _ _ _ _ h => h, trivial⟩ ⟨?_, trivial⟩ ?_
   ·intro a w hT
    have hAp := hT.ag bx [(6, .pointer (some (⟨b, 0, none⟩ : Addr)))] ⟨rfl, trivial⟩ (by kernel_rfl)
    exact ovr hAp rfl (r_fieldAddr (hAp.get rfl) Tryz.underlying39 rfl ti_37 (by decide)) fun _ => Eq.refl _
   ·intro c6 c7 aS c8 c9
    have da := c8 [(0, .pointer (some m)), (4, .pointer (some (⟨k, 0, none⟩ : Addr))), (6, .pointer (some (⟨b, 0, none⟩ : Addr))), (23, Sl.v l), (24, .int .i64 (l.n : Int)), (25, .int .i64 o), (35, Sl.v af)] ⟨rfl, rfl, rfl, rfl, rfl, rfl, rfl, trivial⟩ (by kernel_rfl)
    have db : c6.tmps.getD 36 undef = .pointer (some (⟨b, 4, none⟩ : Addr)) := c9 7 rfl 36 rfl
    have aT := da.add db
    have dc := c4.ext aS
    have bA := c5.ext aS
    have dd : Chg [] aF c7 := aS
    refine one (D := [[], [0], [], [], [2, 3], [2, 3, 4], [0, 1, 2, 3, 4, 5], [0, 1, 2, 3, 4, 5, 6], [0, 1, 2, 3, 4, 5, 6, 7]]) (i := 8) rfl (by kernel_rfl) (opk_store aT bA (r_store (vs := [Sl.v af]) (aT.get rfl) (aT.get rfl) rfl ti_37 bA rfl (ones_all _ rfl)) fun dR am bB df dg => ?_)
    have dh : Box am b 39 [.int .i64 q, .string (Bs r), .string (Bs t), Sl.v x, Sl.v af] := df
    have di := dc.keep bB (by simpa using ay)
    have dj := dd.storeOld bB
    refine PR_end (by kernel_rfl) ?_
    have bC := dg.kp [(0, .pointer (some m)), (4, .pointer (some (⟨k, 0, none⟩ : Addr))), (6, .pointer (some (⟨b, 0, none⟩ : Addr))), (23, Sl.v l), (24, .int .i64 (l.n : Int)), (25, .int .i64 o)] rfl
    refine block_normal ?_
    refine then_normal (wp_region_lit ?_)
    obtain ⟨dk, dl⟩ := c3
    refine sqv bC rfl (r_addI (bC.get rfl) rfl dk) fun _ bD => sqv bD rfl (r_move (bD.get rfl)) fun _ dm => sq_end ?_
    have dn := dm.kp [(0, .pointer (some m)), (4, .pointer (some (⟨k, 0, none⟩ : Addr))), (6, .pointer (some (⟨b, 0, none⟩ : Addr))), (23, Sl.v l), (24, .int .i64 (l.n : Int)), (25, .int .i64 (o + 1))] rfl
    have bF := dl am    dj
    have dp := dn.kp [(0, .pointer (some m)), (4, .pointer (some (⟨k, 0, none⟩ : Addr))), (6, .pointer (some (⟨b, 0, none⟩ : Addr))), (23, Sl.v l), (24, .int .i64 (l.n : Int)), (25, .int .i64 (o + 1))] rfl
    exact then_normal ⟨(o + 1, af, am), ⟨dp, di, dh, rfl, bF.1⟩, bF.2⟩
 ·have dq := bp.2 (of_decide_eq_false hc)
  clear hc
  refine wp_exit ?_
  refine then_exit ?_
  refine then_exit ?_
  refine block_hit ?_
  have bG := av.kp [(4, .pointer (some (⟨k, 0, none⟩ : Addr))), (6, .pointer (some (⟨b, 0, none⟩ : Addr)))] rfl
  refine then_normal (wp_seq (wp_region_lit ?_))
  refine sqv bG rfl (r_loadN (cs := [.int .i64 q, .string (Bs r), .string (Bs t), Sl.v x, Sl.v u]) Tryz.underlying39 rfl ti_39 (bG.get rfl) (aM.part 0 _ rfl)) fun _ aU => ?_
  refine sq (opk_store aU aL (r_store (vs := [.int .i64 q, .string (Bs r), .string (Bs t), Sl.v x, Sl.v u]) (aU.get rfl) (aU.get rfl) rfl ti_39 aL rfl (ones_all _ rfl)) fun dS ar bH dr ds => ?_)
  have dt : Box ar k 39 [.int .i64 q, .string (Bs r), .string (Bs t), Sl.v x, Sl.v u] := dr
  have dT := aM.keep bH (by simpa using ay.symm)
  have du : Chg [k] y ar := bH
  refine sq_end ?_
  have bI := ds.kp [(4, .pointer (some (⟨k, 0, none⟩ : Addr)))] rfl
  refine then_normal ?_
  refine wp_ret ?_
  have dv := dq ar    du
  exact res_all (vs := [.agg #[.int .i64 q, .string (Bs r), .string (Bs t), Sl.v x, Sl.v u]]) rfl bI ⟨res_of_cell bI rfl dt Tryz.underlying39 rfl ti_39, trivial⟩ dv
def dom_Dom_node.vc (b : Addr) (d : Int) (R : Value → World → Prop) (w : World) : Prop :=
∃ (j : Option Nat), (w.cell? (b.add 1) = some (.map j)) ∧
∃ (c : Int) (f : Bool), ((Instr.lookup 193 (.map j) (.int .i64 d) true).run Tryz.prog w = .ok (.tuple #[.int .i64 c, .bool f]) w) ∧
((f = false) →
R (.pointer none) w) ∧
((f = true) →
∃ (h : Sl), (w.cell? (b.add 0) = some (Sl.v h)) ∧
((0 : Int) ≤ c ∧ c < (h.n : Int)) ∧ ∃ g : Addr, h.a = some g ∧
R (.pointer (some (g.add (c.toNat * 8)))) w)
theorem dom_Dom_node.ok (b : Addr) (d : Int) {R : Value → World → Prop} {w : World} (m : dom_Dom_node.vc b d R w) : Calls Tryz.prog 140 #[.pointer (some b), .int .i64 d] w (Ret R) := by
 refine enter [.pointer (some b), .int .i64 d] Tryz.func140 rfl Tryz.ntmps140 rfl ?_
 intro a0 am
 unfold dom_Dom_node.vc at m
 refine wp_seq (wp_region_lit ?_)
 refine sqv am rfl (r_assign rfl) fun _ an => sq_end ?_
 have o := an.kp [(0, .pointer (some b)), (1, .int .i64 d)] rfl
 refine then_normal (wp_seq (wp_region_lit ?_))
 refine sqv o rfl (r_move (o.get rfl)) fun _ p => sqv p rfl (r_nilCheck (p.get rfl)) fun _ q => sqv q rfl (r_fieldAddr (q.get rfl) Tryz.underlying195 rfl ti_193 (by decide)) fun _ r => ?_
 obtain ⟨j, ao, ap⟩ := m
 refine sqv r rfl (r_load1 tU193 rfl (r.get rfl) ao) fun _ s => sqv s rfl (r_move (s.get rfl)) fun _ k => ?_
 obtain ⟨c, f, aq, t⟩ := ap
 refine sqv k rfl (r_lookup (k.get rfl) (k.get rfl) aq) fun _ u => sqv u rfl (r_move (u.get rfl)) fun _ x => sqv x rfl (r_extract (x.get rfl) rfl) fun _ y => sqv y rfl (r_extract (y.get rfl) rfl) fun _ z => sqv z rfl (r_assign (z.get rfl)) fun _ aa => sqv aa rfl (r_assign (aa.get rfl)) fun _ ar => sq_end ?_
 have ab := ar.kp [(0, .pointer (some b)), (5, .int .i64 c), (6, .bool f)] rfl
 refine then_normal (wp_seq (wp_seq (wp_region_lit ?_)))
 refine sqv ab rfl (r_move (ab.get rfl)) fun _ ad => sqv ad rfl (r_not (ad.get rfl)) fun _ au => sq_end ?_
 have i := au.kp [(0, .pointer (some b)), (5, .int .i64 c), (17, .bool (!f))] rfl
 refine then_normal ?_
 refine wp_cond_split (i.get rfl) (fun hc => ?_) (fun hc => ?_)
 ·have av := t.1 (b_not_t hc)
  clear hc
  refine wp_seq (wp_region_lit ?_)
  refine sqv i rfl (r_assign rfl) fun _ ax => sq_end ?_
  have af := ax.kp [(4, .pointer none)] rfl
  refine then_normal ?_
  refine wp_ret ?_
  refine then_ret ?_
  exact res_all (vs := [.pointer none]) rfl af ⟨res_of_tmp af rfl, trivial⟩ av
 ·have ay := t.2 (b_not_f hc)
  clear hc
  refine wp_skip ?_
  refine then_normal (wp_seq (wp_region_lit ?_))
  refine sqv i rfl (r_move (i.get rfl)) fun _ ag => sqv ag rfl (r_nilCheck (ag.get rfl)) fun _ ah => sqv ah rfl (r_fieldAddr (ah.get rfl) Tryz.underlying195 rfl ti_192 (by decide)) fun _ ai => ?_
  obtain ⟨h, az, aA⟩ := ay
  refine sqv ai rfl (r_load1 tU192 rfl (ai.get rfl) az) fun _ aj => sqv aj rfl (r_move (aj.get rfl)) fun _ l => ?_
  obtain ⟨aB, g, aC, aD⟩ := aA
  refine sqv l rfl (r_indexAddr (l.get rfl) (l.get rfl) tU192 ti_197 aB aC) fun _ ak => sqv ak rfl (r_assign (ak.get rfl)) fun _ aF => sq_end ?_
  have al := aF.kp [(4, .pointer (some (g.add (c.toNat * 8))))] rfl
  refine then_normal ?_
  refine wp_ret ?_
  exact res_all (vs := [.pointer (some (g.add (c.toNat * 8)))]) rfl al ⟨res_of_tmp al rfl, trivial⟩ aD
def dom_Dom_put.vc (d : Addr) (f : Int) (g : Int) (k : Int) (l : Str) (m : Str) (t : Sl) (ai : Sl) (R : Value → World → Prop) (w : World) : Prop :=
∀ (aa : World) (j : Nat), New w j aa → Chg [] w aa →
CallK Tryz.prog 155 #[Sl.v t] aa [j] (fun v ap => ∃ (p : Sl), v = Sl.v p ∧
∀ (u : World), Chg [j] ap u →
∃ (aj : Option Nat), (u.cell? (d.add 1) = some (.map aj)) ∧
∃ (x : Sl), (u.cell? (d.add 0) = some (Sl.v x)) ∧
∀ (ak : World), Chg [] u ak →
RunU Tryz.prog (Instr.mapUpdate 193 (.map aj) (.int .i64 f) (.int .i64 (x.n : Int))) ak [j] (fun aq =>
∀ (s : World), Chg [] aq s →
∃ (y : Sl), (s.cell? (d.add 0) = some (Sl.v y)) ∧
∀ (z : World) (o : Nat), Ext s z → s.heap.size ≤ o → Box z o 197 [.int .i64 f, .int .i64 g, .int .i64 k, .string (Bs l), .string (Bs m), Sl.v p, Sl.v Sl.nil, Sl.v Sl.nil] → 
∀ (_ : Box z o 197 [.int .i64 f, .int .i64 g, .int .i64 k, .string (Bs l), .string (Bs m), Sl.v p, Sl.v Sl.nil, Sl.v Sl.nil]),
RunK Tryz.prog (Builtin.append_ #[192, 192] 192 #[Sl.v y, Sl.v (Sl.mk (some ⟨o, 0, none⟩) 1 1)]) z [j] (fun v ar => ∃ (ab : Sl), v = Sl.v ab ∧
∀ (ad : World), Chg [] ar ad →
∀ (af : World), Chg [] ad af →
∃ (ah am : Nat) (au : TypeId) (an : List Value), (d.add 0) = ⟨ah, am, none⟩ ∧ Box af ah au an ∧ am + 1 ≤ an.length ∧ (∀ b ∈ [j], b ≠ ah) ∧
(∀ al : World, Chg [ah] af al → Box al ah au (putAt an am [Sl.v ab]) →
R (.tuple #[]) al))))
theorem dom_Dom_put.ok (d : Addr) (f : Int) (g : Int) (k : Int) (l : Str) (m : Str) (t : Sl) (ai : Sl) {R : Value → World → Prop} {w : World} (aG : dom_Dom_put.vc d f g k l m t ai R w) : Calls Tryz.prog 144 #[.pointer (some d), .int .i64 f, .int .i64 g, .agg #[.int .i64 k, .string (Bs l), .string (Bs m), Sl.v t, Sl.v ai]] w (Ret R) := by
 refine enter [.pointer (some d), .int .i64 f, .int .i64 g, .agg #[.int .i64 k, .string (Bs l), .string (Bs m), Sl.v t, Sl.v ai]] Tryz.func144 rfl Tryz.ntmps144 rfl ?_
 intro a0 aH
 unfold dom_Dom_put.vc at aG
 refine wp_seq (wp_region_lit ?_)
 refine sq (opk_new (fun B => .pointer (some ⟨B, 0, none⟩)) aH rfl (r_box (cs := [.int .i64 k, .string (Bs l), .string (Bs m), Sl.v t, Sl.v ai]) (aH.get rfl) rfl) fun a7 w6 j hE8 a8 aJ a9 _ => ?_)
 have aK : New w j w6 := a8
 have ba : Chg [] w w6 := hE8
 refine sq_end ?_
 have aL := a9.kp [(0, .pointer (some d)), (1, .int .i64 f), (2, .int .i64 g), (7, .pointer (some (⟨j, 0, none⟩ : Addr)))] rfl
 refine then_normal (wp_seq (wp_region_lit ?_))
 refine sqv aL rfl (r_fieldAddr (aL.get rfl) Tryz.underlying39 rfl ti_37 (by decide)) fun _ aM => ?_
 refine sq (opk_store aM aJ (r_store (vs := [Sl.v Sl.nil]) (aM.get rfl) rfl rfl ti_37 aJ rfl (ones_all _ rfl)) fun cX aa aN bb bd => ?_)
 have aO : Box aa j 39 [.int .i64 k, .string (Bs l), .string (Bs m), Sl.v t, Sl.v Sl.nil] := bb
 have bf := ba.storeNew aK aN
 have bg := aK.up aN.size
 refine sq_end ?_
 have aP := bd.kp [(0, .pointer (some d)), (1, .int .i64 f), (2, .int .i64 g), (7, .pointer (some (⟨j, 0, none⟩ : Addr)))] rfl
 refine then_normal (wp_seq (wp_region_lit ?_))
 refine sqv aP rfl (r_fieldAddr (aP.get rfl) Tryz.underlying39 rfl ti_36 (by decide)) fun _ aQ => sqv aQ rfl (r_load1 tU36 rfl (aQ.get rfl) (aO.cell 3 _ rfl)) fun _ aR => ?_
 have bh := aG aa j bg  bf
 refine sq (opk_call aR rfl (r_call (args := #[Sl.v t]) Tryz.func155 (by decide) rfl (map_arr (ml_cons (aR.get rfl) ml_nil)) rfl) bh fun cY cZ ap aS _ bi c0 bj => ?_)
 obtain ⟨p, rfl, bk⟩ := bj
 have aT := aO.kept bi (.head _)
 refine sqv aS rfl (r_fieldAddr (aS.get rfl) Tryz.underlying39 rfl ti_36 (by decide)) fun _ av => ?_
 refine sq (opk_store av aT (r_store (vs := [Sl.v p]) (av.get rfl) (av.get rfl) rfl ti_36 aT rfl (ones_all _ rfl)) fun c1 aU bl bm bn => ?_)
 have bo : Box aU j 39 [.int .i64 k, .string (Bs l), .string (Bs m), Sl.v p, Sl.v Sl.nil] := bm
 have bp : Chg [j] ap aU := bl
 refine sq_end ?_
 have q := bn.kp [(0, .pointer (some d)), (1, .int .i64 f), (2, .int .i64 g), (7, .pointer (some (⟨j, 0, none⟩ : Addr)))] rfl
 refine then_normal (wp_seq ?_)
 refine draw' (by kernel_rfl) fun u aV => ?_
 have bq := bo.ext aV
 have br := bp.more aV
 have bs := bk u    br
 obtain ⟨aj, bt, bu⟩ := bs
 obtain ⟨x, bv, bx⟩ := bu
 refine par (D := [[], [0], [0, 1], [0, 1, 2], [], [], [5], [5, 6], [5, 6, 7], [5, 6, 7, 8], [0, 1, 2, 3, 4, 5, 6, 7, 8, 9]]) (S := [0, 1, 2, 3, 4, 5, 6, 7, 8, 9]) (F := []) (V := VL [(0, fun v _ => v = .pointer (some d)), (1, fun v _ => v = .pointer (some d)), (2, fun v _ => v = .pointer (some (d.add 1))), (3, fun v _ => v = .map aj), (4, fun v _ => v = .int .i64 f), (5, fun v _ => v = .pointer (some d)), (6, fun v _ => v = .pointer (some d)), (7, fun v _ => v = .pointer (some (d.add 0))), (8, fun v _ => v = Sl.v x), (9, fun v _ => v = .int .i64 (x.n : Int))]) q (by kernel_rfl) ⟨fun _ _ _ _ h => h, fun _ _ _ _ h => h, fun _ _ _ _ h => h, fun _ _ _ _ h => h, fun _ _ _ _ h => h, fun _ _ _ _ h => h, fun _ _ _ _ h => h, fun _ _ _ _ h => h, fun _ _ _ _ h => h, fun _ _ _ _ h => h, trivial⟩ ⟨?_, ?_, ?_, ?_, ?_, ?_, ?_, ?_, ?_, ?_, trivial⟩ ?_
 ·intro a w hT
  have hAp := hT.ag q [(0, .pointer (some d))] ⟨rfl, trivial⟩ (by kernel_rfl)
  exact ovr hAp rfl (r_move (hAp.get rfl)) fun _ => Eq.refl _
 ·intro a w hT
  have hAp := hT.ag q [] trivial (by kernel_rfl)
  have bz : a.tmps.getD 13 undef = .pointer (some d) := hT.vals 0 rfl 13 rfl
  have hAp := hAp.add bz
  exact ovr hAp rfl (r_nilCheck (hAp.get rfl)) fun _ => Eq.refl _
 ·intro a w hT
  have hAp := hT.ag q [] trivial (by kernel_rfl)
  have bA : a.tmps.getD 14 undef = .pointer (some d) := hT.vals 1 rfl 14 rfl
  have hAp := hAp.add bA
  exact ovr hAp rfl (r_fieldAddr (hAp.get rfl) Tryz.underlying195 rfl ti_193 (by decide)) fun _ => Eq.refl _
 ·intro a w hT
  have hAp := hT.ag q [] trivial (by kernel_rfl)
  have bB : a.tmps.getD 15 undef = .pointer (some (d.add 1)) := hT.vals 2 rfl 15 rfl
  have hAp := hAp.add bB
  exact ovr hAp rfl (r_load1 tU193 rfl (hAp.get rfl) (Ext.cell hT.chg bt)) fun _ => Eq.refl _
 ·intro a w hT
  have hAp := hT.ag q [(1, .int .i64 f)] ⟨rfl, trivial⟩ (by kernel_rfl)
  exact ovr hAp rfl (r_move (hAp.get rfl)) fun _ => Eq.refl _
 ·intro a w hT
  have hAp := hT.ag q [(0, .pointer (some d))] ⟨rfl, trivial⟩ (by kernel_rfl)
  exact ovr hAp rfl (r_move (hAp.get rfl)) fun _ => Eq.refl _
 ·intro a w hT
  have hAp := hT.ag q [] trivial (by kernel_rfl)
  have bC : a.tmps.getD 18 undef = .pointer (some d) := hT.vals 5 rfl 18 rfl
  have hAp := hAp.add bC
  exact ovr hAp rfl (r_nilCheck (hAp.get rfl)) fun _ => Eq.refl _
 ·intro a w hT
  have hAp := hT.ag q [] trivial (by kernel_rfl)
  have bD : a.tmps.getD 19 undef = .pointer (some d) := hT.vals 6 rfl 19 rfl
  have hAp := hAp.add bD
  exact ovr hAp rfl (r_fieldAddr (hAp.get rfl) Tryz.underlying195 rfl ti_192 (by decide)) fun _ => Eq.refl _
 ·intro a w hT
  have hAp := hT.ag q [] trivial (by kernel_rfl)
  have bF : a.tmps.getD 20 undef = .pointer (some (d.add 0)) := hT.vals 7 rfl 20 rfl
  have hAp := hAp.add bF
  exact ovr hAp rfl (r_load1 tU192 rfl (hAp.get rfl) (Ext.cell hT.chg bv)) fun _ => Eq.refl _
 ·intro a w hT
  have hAp := hT.ag q [] trivial (by kernel_rfl)
  have bG : a.tmps.getD 21 undef = Sl.v x := hT.vals 8 rfl 21 rfl
  have hAp := hAp.add bG
  exact ovr hAp rfl (r_len (hAp.get rfl) tU192) fun _ => Eq.refl _
 ·intro ax ak aX bH ay
  have bI := bH [(0, .pointer (some d)), (1, .int .i64 f), (2, .int .i64 g), (7, .pointer (some (⟨j, 0, none⟩ : Addr)))] ⟨rfl, rfl, rfl, rfl, trivial⟩ (by kernel_rfl)
  have bJ : ax.tmps.getD 16 undef = .map aj := ay 3 rfl 16 rfl
  have bK := bI.add bJ
  have bL : ax.tmps.getD 17 undef = .int .i64 f := ay 4 rfl 17 rfl
  have bM := bK.add bL
  have bN : ax.tmps.getD 22 undef = .int .i64 (x.n : Int) := ay 9 rfl 22 rfl
  have ao := bM.add bN
  have bO := bq.ext aX
  have bP : Chg [] u ak := aX
  have bQ := bx ak    bP
  refine one (D := [[], [0], [0, 1], [0, 1, 2], [], [], [5], [5, 6], [5, 6, 7], [5, 6, 7, 8], [0, 1, 2, 3, 4, 5, 6, 7, 8, 9]]) (i := 10) rfl (by kernel_rfl) (opk_runU ao (fun _ hr => r_mapUpdate (ao.get rfl) (ao.get rfl) (ao.get rfl) hr) bQ fun c2 aq bR bS c3 bT => ?_)
  have bU := bO.kept bS (.head _)
  refine PR_end (by kernel_rfl) ?_
  have r := bR.kp [(0, .pointer (some d)), (1, .int .i64 f), (2, .int .i64 g), (7, .pointer (some (⟨j, 0, none⟩ : Addr)))] rfl
  refine then_normal ?_
  refine draw' (by kernel_rfl) fun s aY => ?_
  have az := bU.ext aY
  have bV : Chg [] aq s := aY
  have bX := bT s    bV
  refine startF (D := [[], [], [1], [1, 2], [1, 2, 3], [], [], [], [5, 6, 7], [5, 6, 7, 8], [1, 2, 3, 4, 5, 6, 7, 8, 9], [0, 1, 2, 3, 4, 5, 6, 7, 8, 9, 10], [0, 1, 2, 3, 4, 5, 6, 7, 8, 9, 10, 11], [0, 1, 2, 3, 4, 5, 6, 7, 8, 9, 10, 11, 12]]) (Fs := [0, 1, 5, 6, 7, 8]) (Ef := [(0, fun v _ => v = .pointer (some d)), (1, fun v _ => v = .pointer (some d)), (5, fun v _ => v = .int .i64 f), (6, fun v _ => v = .int .i64 g), (7, fun v _ => v = .agg #[.int .i64 k, .string (Bs l), .string (Bs m), Sl.v p, Sl.v Sl.nil]), (8, fun v _ => v = .agg #[.int .i64 f, .int .i64 g, .int .i64 k, .string (Bs l), .string (Bs m), Sl.v p, Sl.v Sl.nil, Sl.v Sl.nil])]) (by kernel_rfl) ?_
  obtain ⟨y, bY, bZ⟩ := bX
  refine parF (D := [[], [], [1], [1, 2], [1, 2, 3], [], [], [], [5, 6, 7], [5, 6, 7, 8], [1, 2, 3, 4, 5, 6, 7, 8, 9], [0, 1, 2, 3, 4, 5, 6, 7, 8, 9, 10], [0, 1, 2, 3, 4, 5, 6, 7, 8, 9, 10, 11], [0, 1, 2, 3, 4, 5, 6, 7, 8, 9, 10, 11, 12]]) (S := [2, 3, 4, 9]) (F := []) (KE := [2, 3, 4, 9]) (E := [(2, fun v _ => v = .pointer (some d)), (3, fun v _ => v = .pointer (some (d.add 0))), (4, fun v _ => v = Sl.v y), (9, fun v w' => ∃ o : Nat, s.heap.size ≤ o ∧ Box w' o 197 [.int .i64 f, .int .i64 g, .int .i64 k, .string (Bs l), .string (Bs m), Sl.v p, Sl.v Sl.nil, Sl.v Sl.nil] ∧ v = Sl.v (Sl.mk (some ⟨o, 0, none⟩) 1 1))]) r rfl (by kernel_rfl) ⟨fun _ _ _ _ h => h, fun _ _ _ _ h => h, fun _ _ _ _ h => h, fun _ _ _ hE ⟨o, h0_, h1_, e⟩ => ⟨o, h0_, (h1_.ext hE), e⟩, fun _ _ _ _ h => h, fun _ _ _ _ h => h, fun _ _ _ _ h => h, fun _ _ _ _ h => h, fun _ _ _ _ h => h, fun _ _ _ _ h => h, trivial⟩ ⟨?_, ?_, ?_, ?_, ?_, ?_, ?_, ?_, ?_, ?_, trivial⟩ ?_
  ·intro a w hT
   have hAp := hT.ag r [] trivial (by kernel_rfl)
   have b0 : a.tmps.getD 24 undef = .pointer (some d) := hT.vals 1 rfl 24 rfl
   have hAp := hAp.add b0
   exact ovr hAp rfl (r_nilCheck (hAp.get rfl)) fun _ => Eq.refl _
  ·intro a w hT
   have hAp := hT.ag r [] trivial (by kernel_rfl)
   have b1 : a.tmps.getD 25 undef = .pointer (some d) := hT.vals 2 rfl 25 rfl
   have hAp := hAp.add b1
   exact ovr hAp rfl (r_fieldAddr (hAp.get rfl) Tryz.underlying195 rfl ti_192 (by decide)) fun _ => Eq.refl _
  ·intro a w hT
   have hAp := hT.ag r [] trivial (by kernel_rfl)
   have b2 : a.tmps.getD 26 undef = .pointer (some (d.add 0)) := hT.vals 3 rfl 26 rfl
   have hAp := hAp.add b2
   exact ovr hAp rfl (r_load1 tU192 rfl (hAp.get rfl) (Ext.cell hT.chg bY)) fun _ => Eq.refl _
  ·intro a w hT
   have hAp := hT.ag r [] trivial (by kernel_rfl)
   have b3 : a.tmps.getD 31 undef = .agg #[.int .i64 f, .int .i64 g, .int .i64 k, .string (Bs l), .string (Bs m), Sl.v p, Sl.v Sl.nil, Sl.v Sl.nil] := hT.vals 8 rfl 31 rfl
   have hAp := hAp.add b3
   exact opk_new (fun B => .slice (some ⟨B, 0, none⟩) 1 1) hAp rfl (r_buildSlice (vs := #[(0, .agg #[.int .i64 f, .int .i64 g, .int .i64 k, .string (Bs l), .string (Bs m), Sl.v p, Sl.v Sl.nil, Sl.v Sl.nil])]) (cs := [.int .i64 f, .int .i64 g, .int .i64 k, .string (Bs l), .string (Bs m), Sl.v p, Sl.v Sl.nil, Sl.v Sl.nil]) (map_arr2 (ml2_cons (hAp.get rfl) (ml2_nil))) tU192 ti_197 rfl rfl (by kernel_rfl)) fun _ c4 o b4 b5 b6 _ e => ⟨_, e, b4, fun _ => ⟨o, Nat.le_trans hT.chg.size b5.ge, b6, rfl⟩⟩
  ·intro a w hT
   have hAp := hT.ag r [(0, .pointer (some d))] ⟨rfl, trivial⟩ (by kernel_rfl)
   exact ovr hAp rfl (r_move (hAp.get rfl)) fun _ => Eq.refl _
  ·intro a w hT
   have hAp := hT.ag r [(0, .pointer (some d))] ⟨rfl, trivial⟩ (by kernel_rfl)
   exact ovr hAp rfl (r_move (hAp.get rfl)) fun _ => Eq.refl _
  ·intro a w hT
   have hAp := hT.ag r [(1, .int .i64 f)] ⟨rfl, trivial⟩ (by kernel_rfl)
   exact ovr hAp rfl (r_move (hAp.get rfl)) fun _ => Eq.refl _
  ·intro a w hT
   have hAp := hT.ag r [(2, .int .i64 g)] ⟨rfl, trivial⟩ (by kernel_rfl)
   exact ovr hAp rfl (r_move (hAp.get rfl)) fun _ => Eq.refl _
  ·intro a w hT
   have hAp := hT.ag r [(7, .pointer (some (⟨j, 0, none⟩ : Addr)))] ⟨rfl, trivial⟩ (by kernel_rfl)
   exact ovr hAp rfl (r_loadN (cs := [.int .i64 k, .string (Bs l), .string (Bs m), Sl.v p, Sl.v Sl.nil]) Tryz.underlying39 rfl ti_39 (hAp.get rfl) ((az.ext hT.chg).part 0 _ rfl)) fun _ => Eq.refl _
  ·intro a w hT
   have hAp := hT.ag r [] trivial (by kernel_rfl)
   have b7 : a.tmps.getD 28 undef = .int .i64 f := hT.vals 5 rfl 28 rfl
   have hAp := hAp.add b7
   have b8 : a.tmps.getD 29 undef = .int .i64 g := hT.vals 6 rfl 29 rfl
   have hAp := hAp.add b8
   have b9 : a.tmps.getD 30 undef = .agg #[.int .i64 k, .string (Bs l), .string (Bs m), Sl.v p, Sl.v Sl.nil] := hT.vals 7 rfl 30 rfl
   have hAp := hAp.add b9
   exact ovr hAp rfl (r_build (vs := #[(0, .int .i64 f), (1, .int .i64 g), (2, .agg #[.int .i64 k, .string (Bs l), .string (Bs m), Sl.v p, Sl.v Sl.nil])]) (cells := #[.int .i64 f, .int .i64 g, .int .i64 k, .string (Bs l), .string (Bs m), Sl.v p, Sl.v Sl.nil, Sl.v Sl.nil]) (map_arr2 (ml2_cons (hAp.get rfl) (ml2_cons (hAp.get rfl) (ml2_cons (hAp.get rfl) (ml2_nil))))) ti_197 Tryz.underlying197 pl_197 (by kernel_rfl)) fun _ => Eq.refl _
  ·intro ca z aA cb aZ
   have cc := cb [(0, .pointer (some d)), (1, .int .i64 f), (2, .int .i64 g), (7, .pointer (some (⟨j, 0, none⟩ : Addr)))] ⟨rfl, rfl, rfl, rfl, trivial⟩ (by kernel_rfl)
   have cd : ca.tmps.getD 27 undef = Sl.v y := aZ 4 rfl 27 rfl
   have cf := cc.add cd
   obtain ⟨o, hf113, a1, cg⟩ := aZ 9 rfl 32 rfl
   have ch := cf.add cg
   have ci := az.ext aA
   have c5 : Chg [] s z := aA
   have cj := bZ z o aA hf113 a1
   have c6 : j ≠ o := Nat.ne_of_lt (Nat.lt_of_lt_of_le az.lt hf113)
   refine PRF_drop (X := [1, 5, 6, 7, 8]) (Fs' := [0]) ch (by kernel_rfl) fun c7 ck c8 => ?_
   have aB := ck [(0, .pointer (some d)), (27, Sl.v y), (32, Sl.v (Sl.mk (some ⟨o, 0, none⟩) 1 1))] ⟨rfl, rfl, rfl, trivial⟩ (by kernel_rfl)
   refine oneF (c := 10) aB rfl (by kernel_rfl) (constF ⟨fun _ _ _ h => h, trivial⟩) ⟨?_, trivial⟩ ?_
   ·intro a hT
    have hAp := hT.ag aB [(0, .pointer (some d))] ⟨rfl, trivial⟩ (by kernel_rfl)
    exact opk_val hAp rfl (r_move (hAp.get rfl)) fun _ _ e => ⟨_, e, rfl, fun _ => Eq.refl _⟩
   ·intro c9 hT
    have aC := hT.ag aB [(0, .pointer (some d)), (27, Sl.v y), (32, Sl.v (Sl.mk (some ⟨o, 0, none⟩) 1 1))] ⟨rfl, rfl, rfl, trivial⟩ (by kernel_rfl)
    have cl := cj a1
    refine (opk_run aC rfl (fun _ _ hr => r_append (aC.get rfl) (aC.get rfl) hr) cl fun da db ar a2 cm cn dc co => ?_)
    refine ⟨_, cm, ?_⟩
    obtain ⟨ab, rfl, cp⟩ := co
    have cq := ci.kept cn (.head _)
    refine joinF a2 (by kernel_rfl) ⟨fun _ _ _ _ h => h, trivial⟩ ⟨?_, trivial⟩ ?_
    ·intro a w hT
     have hAp := hT.ag a2 [(0, .pointer (some d))] ⟨rfl, trivial⟩ (by kernel_rfl)
     exact ovr hAp rfl (r_move (hAp.get rfl)) fun _ => Eq.refl _
    ·intro cr ad a3 ct cu
     have cv := ct [(33, Sl.v ab)] ⟨rfl, trivial⟩ (by kernel_rfl)
     have cx : cr.tmps.getD 23 undef = .pointer (some d) := cu 0 rfl 23 rfl
     have aD := cv.add cx
     have cy := cq.ext a3
     have cz : Chg [] ar ad := a3
     have cA := cp ad    cz
     refine par (D := [[], [], [1], [1, 2], [1, 2, 3], [], [], [], [5, 6, 7], [5, 6, 7, 8], [1, 2, 3, 4, 5, 6, 7, 8, 9], [0, 1, 2, 3, 4, 5, 6, 7, 8, 9, 10], [0, 1, 2, 3, 4, 5, 6, 7, 8, 9, 10, 11], [0, 1, 2, 3, 4, 5, 6, 7, 8, 9, 10, 11, 12]]) (S := [11, 12]) (F := []) (V := VL [(11, fun v _ => v = .pointer (some d)), (12, fun v _ => v = .pointer (some (d.add 0)))]) aD (by kernel_rfl) ⟨fun _ _ _ _ h => h, fun _ _ _ _ h => h, trivial⟩ ⟨?_, ?_, trivial⟩ ?_
     ·intro a w hT
      have hAp := hT.ag aD [(23, .pointer (some d))] ⟨rfl, trivial⟩ (by kernel_rfl)
      exact ovr hAp rfl (r_nilCheck (hAp.get rfl)) fun _ => Eq.refl _
     ·intro a w hT
      have hAp := hT.ag aD [] trivial (by kernel_rfl)
      have cB : a.tmps.getD 34 undef = .pointer (some d) := hT.vals 11 rfl 34 rfl
      have hAp := hAp.add cB
      exact ovr hAp rfl (r_fieldAddr (hAp.get rfl) Tryz.underlying195 rfl ti_192 (by decide)) fun _ => Eq.refl _
     ·intro cC af a4 cD cF
      have cG := cD [(33, Sl.v ab)] ⟨rfl, trivial⟩ (by kernel_rfl)
      have cH : cC.tmps.getD 35 undef = .pointer (some (d.add 0)) := cF 12 rfl 35 rfl
      have aF := cG.add cH
      have cI := cy.ext a4
      have cJ : Chg [] ad af := a4
      have cK := cA af    cJ
      obtain ⟨ah, am, au, an, cL, a5, cM, cN, cO⟩ := cK
      refine one (D := [[], [], [1], [1, 2], [1, 2, 3], [], [], [], [5, 6, 7], [5, 6, 7, 8], [1, 2, 3, 4, 5, 6, 7, 8, 9], [0, 1, 2, 3, 4, 5, 6, 7, 8, 9, 10], [0, 1, 2, 3, 4, 5, 6, 7, 8, 9, 10, 11], [0, 1, 2, 3, 4, 5, 6, 7, 8, 9, 10, 11, 12]]) (i := 13) rfl (by kernel_rfl) (opk_store aF a5 (r_store (vs := [Sl.v ab]) (((aF.get rfl)).trans (congrArg (fun a => Value.pointer (some a)) cL)) (aF.get rfl) rfl ti_192 a5 (Nat.ble_eq_true_of_le cM) (ones_all _ rfl)) fun dd al a6 cP cQ => ?_)
      have df := cI.keep a6 (by have := cN j (by simp); simpa using this)
      have cR := cO al a6 cP
      refine PR_end (by kernel_rfl) ?_
      have cS := cQ.kp [] rfl
      refine res_end ?_
      exact res_all (vs := []) rfl cS trivial cR
def dom_Dom_lay.vc (d : Addr) (t : Int) (u : Str) (x : Str) (y : Sl) (g : Sl) (z : Int) (R : Value → World → Prop) (w : World) : Prop :=
∀ (w5 : World) (ab : Nat), New w ab w5 → Chg [] w w5 →
∃ (f : Sl), (w5.cell? (d.add 0) = some (Sl.v f)) ∧
CallK Tryz.prog 144 #[.pointer (some d), .int .i64 (f.n : Int), .int .i64 z, .agg #[.int .i64 t, .string (Bs u), .string (Bs x), Sl.v y, Sl.v g]] w5 [ab] (fun v aL => v = .tuple #[] ∧
∃ (aB : Int → World → Prop) (aG : Int → World → Nat),
aB 0 aL ∧
(∀ (j : Int) (q : World), aB j q →
((j < (g.n : Int)) →
((0 : Int) ≤ j ∧ j < (g.n : Int)) ∧ ∃ aM : Addr, g.a = some aM ∧
∃ (ah : Int) (ai : Str) (aj : Str) (ak : Sl) (al : Sl), (Cells q (aM.add (j.toNat * 5)) [.int .i64 ah, .string (Bs ai), .string (Bs aj), Sl.v ak, Sl.v al]) ∧
∀ (ar : World) (am : Nat), New q am ar → Chg [] q ar →
CallK Tryz.prog 158 #[.pointer (some d), .agg #[.int .i64 ah, .string (Bs ai), .string (Bs aj), Sl.v ak, Sl.v al], .int .i64 (f.n : Int)] ar [am] (fun v aN => ∃ (o : Int), v = .int .i64 o ∧
∀ (p : World), Chg [] aN p →
∃ (ad : Sl), (p.cell? (d.add 0) = some (Sl.v ad)) ∧
∃ (af : Sl), (p.cell? (d.add 0) = some (Sl.v af)) ∧
∃ r : Addr, (((0 : Int) ≤ (f.n : Int) ∧ (f.n : Int) < (af.n : Int)) ∧ af.a = some r) ∧
∃ (au : Sl), (p.cell? ((r.add ((f.n : Int).toNat * 8)).add 7) = some (Sl.v au)) ∧
∀ (an : World) (m : Nat), Ext p an → p.heap.size ≤ m → Box an m 3 [.int .i64 o] → 
∀ (_ : Box an m 3 [.int .i64 o]),
RunK Tryz.prog (Builtin.append_ #[44, 44] 44 #[Sl.v au, Sl.v (Sl.mk (some ⟨m, 0, none⟩) 1 1)]) an [] (fun v av => ∃ (ao : Sl), v = Sl.v ao ∧
(av.cell? (d.add 0) = some (Sl.v ad)) ∧
(av.cell? (d.add 0) = some (Sl.v af)) ∧
(av.cell? ((r.add ((f.n : Int).toNat * 8)).add 7) = some (Sl.v au)) ∧
∀ (ax : World), Chg [] av ax →
∃ ap : Addr, (((0 : Int) ≤ (f.n : Int) ∧ (f.n : Int) < (ad.n : Int)) ∧ ad.a = some ap) ∧
∀ (ay : World), Chg [] ax ay →
∃ (az aH : Nat) (aO : TypeId) (aI : List Value), ((ap.add ((f.n : Int).toNat * 8)).add 7) = ⟨az, aH, none⟩ ∧ Box ay az aO aI ∧ aH + 1 ≤ aI.length ∧ (∀ b ∈ [], b ≠ az) ∧
(∀ aq : World, Chg [az] ay aq → Box aq az aO (putAt aI aH [Sl.v ao]) →
(I64 (j + 1)) ∧
aB (j + 1) aq ∧ aG (j + 1) aq < aG j q)))) ∧
((¬ (j < (g.n : Int))) →
R (.int .i64 (f.n : Int)) q)))
theorem dom_Dom_lay.ok (d : Addr) (t : Int) (u : Str) (x : Str) (y : Sl) (g : Sl) (z : Int) {R : Value → World → Prop} {w : World} (aU : dom_Dom_lay.vc d t u x y g z R w) : Calls Tryz.prog 158 #[.pointer (some d), .agg #[.int .i64 t, .string (Bs u), .string (Bs x), Sl.v y, Sl.v g], .int .i64 z] w (Ret R) := by
 refine enter [.pointer (some d), .agg #[.int .i64 t, .string (Bs u), .string (Bs x), Sl.v y, Sl.v g], .int .i64 z] Tryz.func158 rfl Tryz.ntmps158 rfl ?_
 intro a0 aV
 unfold dom_Dom_lay.vc at aU
 refine wp_seq (wp_region_lit ?_)
 refine sq (opk_new (fun B => .pointer (some ⟨B, 0, none⟩)) aV rfl (r_box (cs := [.int .i64 t, .string (Bs u), .string (Bs x), Sl.v y, Sl.v g]) (aV.get rfl) rfl) fun a6 w5 ab bH bI aX bJ _ => ?_)
 have bK : New w ab w5 := bI
 have bL : Chg [] w w5 := bH
 refine sqv bJ rfl (r_assign rfl) fun _ bM => sq_end ?_
 have aY := bM.kp [(0, .pointer (some d)), (2, .int .i64 z), (4, .pointer (some (⟨ab, 0, none⟩ : Addr)))] rfl
 refine then_normal (wp_seq (wp_region_lit ?_))
 refine sqv aY rfl (r_move (aY.get rfl)) fun _ aZ => sqv aZ rfl (r_nilCheck (aZ.get rfl)) fun _ hA15 => sqv hA15 rfl (r_fieldAddr (hA15.get rfl) Tryz.underlying195 rfl ti_192 (by decide)) fun _ a1 => ?_
 have bN := aU w5 ab bK  bL
 obtain ⟨f, bO, bP⟩ := bN
 refine sqv a1 rfl (r_load1 tU192 rfl (a1.get rfl) bO) fun _ a2 => sqv a2 rfl (r_len (a2.get rfl) tU192) fun _ a3 => sqv a3 rfl (r_assign (a3.get rfl)) fun _ bQ => sq_end ?_
 have a4 := bQ.kp [(0, .pointer (some d)), (2, .int .i64 z), (4, .pointer (some (⟨ab, 0, none⟩ : Addr))), (7, .int .i64 (f.n : Int))] rfl
 refine then_normal (wp_seq (wp_region_lit ?_))
 refine sqv a4 rfl (r_move (a4.get rfl)) fun _ a5 => sqv a5 rfl (r_move (a5.get rfl)) fun _ hA26 => sqv hA26 rfl (r_move (hA26.get rfl)) fun _ a7 => sqv a7 rfl (r_loadN (cs := [.int .i64 t, .string (Bs u), .string (Bs x), Sl.v y, Sl.v g]) Tryz.underlying39 rfl ti_39 (a7.get rfl) (aX.part 0 _ rfl)) fun _ aC => ?_
 refine sq (opk_call aC rfl (r_call (args := #[.pointer (some d), .int .i64 (f.n : Int), .int .i64 z, .agg #[.int .i64 t, .string (Bs u), .string (Bs x), Sl.v y, Sl.v g]]) Tryz.func144 (by decide) rfl (map_arr (ml_cons (aC.get rfl) (ml_cons (aC.get rfl) (ml_cons (aC.get rfl) (ml_cons (aC.get rfl) ml_nil))))) rfl) bP fun dX dY aL bR _ bS dZ bT => ?_)
 obtain ⟨rfl, bU⟩ := bT
 have bV := aX.kept bS (.head _)
 refine sq_end ?_
 have a8 := bR.kp [(0, .pointer (some d)), (4, .pointer (some (⟨ab, 0, none⟩ : Addr))), (7, .int .i64 (f.n : Int))] rfl
 refine then_normal (wp_seq (wp_seq (wp_region_lit ?_)))
 refine sqv a8 rfl (r_fieldAddr (a8.get rfl) Tryz.underlying39 rfl ti_37 (by decide)) fun _ a9 => sqv a9 rfl (r_load1 tU37 rfl (a9.get rfl) (bV.cell 4 _ rfl)) fun _ ba => sqv ba rfl (r_len (ba.get rfl) tU37) fun _ bX => sqv bX rfl (r_move rfl) fun _ bY => sq_end ?_
 have bZ := bY.kp [(0, .pointer (some d)), (7, .int .i64 (f.n : Int)), (22, Sl.v g), (23, .int .i64 (g.n : Int)), (24, .int .i64 0)] rfl
 refine then_normal (wp_block ?_)
 obtain ⟨aB, aG, b0, b1⟩ := bU
 refine wp_loop_st (σ := Int × World) (fun s a w => Ag 52 a [(0, .pointer (some d)), (7, .int .i64 (f.n : Int)), (22, Sl.v g), (23, .int .i64 (g.n : Int)), (24, .int .i64 s.1)] ∧ w = s.2 ∧ aB s.1 s.2) (fun s => aG s.1 s.2) (0, aL) ⟨bZ.kp [(0, .pointer (some d)), (7, .int .i64 (f.n : Int)), (22, Sl.v g), (23, .int .i64 (g.n : Int)), (24, .int .i64 0)] rfl, rfl, b0⟩ ?_
 rintro ⟨j, q⟩ d0 w_ ⟨aP, hw_, b2⟩
 have hw_ : q = w_ := hw_.symm
 subst hw_
 have bb := b1 j _ b2
 refine wp_seq (wp_region_lit ?_)
 refine sqv aP rfl (r_lss (aP.get rfl) (aP.get rfl)) fun _ b3 => sq_end ?_
 have aD := b3.kp [(0, .pointer (some d)), (7, .int .i64 (f.n : Int)), (22, Sl.v g), (23, .int .i64 (g.n : Int)), (24, .int .i64 j), (25, .bool (decide (j < (g.n : Int))))] rfl
 refine then_normal (wp_seq ?_)
 refine wp_cond_split (aD.get rfl) (fun hc => ?_) (fun hc => ?_)
 ·have b4 := bb.1 (of_decide_eq_true hc)
  clear hc
  refine wp_skip ?_
  refine then_normal (wp_seq (wp_block (wp_seq (wp_region_lit ?_))))
  obtain ⟨b5, aM, b6, b7⟩ := b4
  refine sqv aD rfl (r_indexAddr (aD.get rfl) (aD.get rfl) tU37 ti_39 b5 b6) fun _ bd => ?_
  obtain ⟨ah, ai, aj, ak, al, b8, b9⟩ := b7
  refine sqv bd rfl (r_loadN Tryz.underlying39 rfl ti_39 (bd.get rfl) b8) fun _ ca => ?_
  refine sq (opk_new (fun B => .pointer (some ⟨B, 0, none⟩)) ca rfl (r_alloc (cs := [.int .i64 0, .string (Bs []), .string (Bs []), Sl.v Sl.nil, Sl.v Sl.nil]) ti_39 rfl) fun d1 bf am cb cc bg aQ _ => ?_)
  have bh : New q am bf := cc
  have cd : Chg [] q bf := cb
  refine sq (opk_store aQ bg (r_store (vs := [.int .i64 ah, .string (Bs ai), .string (Bs aj), Sl.v ak, Sl.v al]) (aQ.get rfl) (aQ.get rfl) rfl ti_39 bg rfl (ones_all _ rfl)) fun d2 ar bi cf cg => ?_)
  have bj : Box ar am 39 [.int .i64 ah, .string (Bs ai), .string (Bs aj), Sl.v ak, Sl.v al] := cf
  have ch := cd.storeNew bh bi
  have ci := bh.up bi.size
  refine sq_end ?_
  have bk := cg.kp [(0, .pointer (some d)), (7, .int .i64 (f.n : Int)), (9, .pointer (some (⟨am, 0, none⟩ : Addr))), (22, Sl.v g), (23, .int .i64 (g.n : Int)), (24, .int .i64 j)] rfl
  refine then_normal (wp_seq (wp_region_lit ?_))
  refine sqv bk rfl (r_move (bk.get rfl)) fun _ bl => sqv bl rfl (r_loadN (cs := [.int .i64 ah, .string (Bs ai), .string (Bs aj), Sl.v ak, Sl.v al]) Tryz.underlying39 rfl ti_39 (bl.get rfl) (bj.part 0 _ rfl)) fun _ bm => sqv bm rfl (r_move (bm.get rfl)) fun _ aJ => ?_
  have cj := b9 ar am ci  ch
  refine sq (opk_call aJ rfl (r_call (args := #[.pointer (some d), .agg #[.int .i64 ah, .string (Bs ai), .string (Bs aj), Sl.v ak, Sl.v al], .int .i64 (f.n : Int)]) Tryz.func158 (by decide) rfl (map_arr (ml_cons (aJ.get rfl) (ml_cons (aJ.get rfl) (ml_cons (aJ.get rfl) ml_nil)))) rfl) cj fun d3 d4 aN bn _ ck d5 cl => ?_)
  obtain ⟨o, rfl, cm⟩ := cl
  have d6 := bj.kept ck (.head _)
  refine sqv bn rfl (r_assign (bn.get rfl)) fun _ cn => sq_end ?_
  have k := cn.kp [(0, .pointer (some d)), (7, .int .i64 (f.n : Int)), (10, .int .i64 o), (22, Sl.v g), (23, .int .i64 (g.n : Int)), (24, .int .i64 j)] rfl
  refine then_normal ?_
  refine draw' (by kernel_rfl) fun p co => ?_
  have cp : Chg [] aN p := co
  have cq := cm p    cp
  obtain ⟨ad, bo, cr⟩ := cq
  obtain ⟨af, bp, ct⟩ := cr
  obtain ⟨r, aK, cu⟩ := ct
  obtain ⟨au, bq, cv⟩ := cu
  refine startF (D := [[], [0], [0, 1], [0, 1, 2], [], [], [5], [5, 6], [5, 6, 7], [], [5, 6, 7, 8, 9], [5, 6, 7, 8, 9, 10], [5, 6, 7, 8, 9, 10, 11], [], [13], [5, 6, 7, 8, 9, 10, 11, 12, 13, 14], [0, 1, 2, 3, 4, 5, 6, 7, 8, 9, 10, 11, 12, 13, 14, 15], [0, 1, 2, 3, 4, 5, 6, 7, 8, 9, 10, 11, 12, 13, 14, 15, 16], [0, 1, 2, 3, 4, 5, 6, 7, 8, 9, 10, 11, 12, 13, 14, 15, 16, 17]]) (Fs := [0, 1, 2, 3, 4, 5, 6, 7, 8, 9, 10, 11, 12, 13]) (Ef := [(0, fun v _ => v = .pointer (some d)), (1, fun v _ => v = .pointer (some d)), (2, fun v _ => v = .pointer (some (d.add 0))), (3, fun v _ => v = Sl.v ad), (4, fun v _ => v = .int .i64 (f.n : Int)), (5, fun v _ => v = .pointer (some d)), (6, fun v _ => v = .pointer (some d)), (7, fun v _ => v = .pointer (some (d.add 0))), (8, fun v _ => v = Sl.v af), (9, fun v _ => v = .int .i64 (f.n : Int)), (10, fun v _ => v = .pointer (some (r.add ((f.n : Int).toNat * 8)))), (11, fun v _ => v = .pointer (some ((r.add ((f.n : Int).toNat * 8)).add 7))), (12, fun v _ => v = Sl.v au), (13, fun v _ => v = .int .i64 o)]) (by kernel_rfl) ?_
  refine parF (D := [[], [0], [0, 1], [0, 1, 2], [], [], [5], [5, 6], [5, 6, 7], [], [5, 6, 7, 8, 9], [5, 6, 7, 8, 9, 10], [5, 6, 7, 8, 9, 10, 11], [], [13], [5, 6, 7, 8, 9, 10, 11, 12, 13, 14], [0, 1, 2, 3, 4, 5, 6, 7, 8, 9, 10, 11, 12, 13, 14, 15], [0, 1, 2, 3, 4, 5, 6, 7, 8, 9, 10, 11, 12, 13, 14, 15, 16], [0, 1, 2, 3, 4, 5, 6, 7, 8, 9, 10, 11, 12, 13, 14, 15, 16, 17]]) (S := [14]) (F := []) (KE := [14]) (E := [(14, fun v w' => ∃ m : Nat, p.heap.size ≤ m ∧ Box w' m 3 [.int .i64 o] ∧ v = Sl.v (Sl.mk (some ⟨m, 0, none⟩) 1 1))]) k rfl (by kernel_rfl) ⟨fun _ _ _ hE ⟨m, h0_, h1_, e⟩ => ⟨m, h0_, (h1_.ext hE), e⟩, fun _ _ _ _ h => h, fun _ _ _ _ h => h, fun _ _ _ _ h => h, fun _ _ _ _ h => h, fun _ _ _ _ h => h, fun _ _ _ _ h => h, fun _ _ _ _ h => h, fun _ _ _ _ h => h, fun _ _ _ _ h => h, fun _ _ _ _ h => h, fun _ _ _ _ h => h, fun _ _ _ _ h => h, fun _ _ _ _ h => h, fun _ _ _ _ h => h, trivial⟩ ⟨?_, ?_, ?_, ?_, ?_, ?_, ?_, ?_, ?_, ?_, ?_, ?_, ?_, ?_, ?_, trivial⟩ ?_
  ·intro a w hT
   have hAp := hT.ag k [] trivial (by kernel_rfl)
   have cx : a.tmps.getD 45 undef = .int .i64 o := hT.vals 13 rfl 45 rfl
   have hAp := hAp.add cx
   exact opk_new (fun B => .slice (some ⟨B, 0, none⟩) 1 1) hAp rfl (r_buildSlice (vs := #[(0, .int .i64 o)]) (cs := [.int .i64 o]) (map_arr2 (ml2_cons (hAp.get rfl) (ml2_nil))) tU44 ti_3 rfl rfl (by kernel_rfl)) fun _ d7 m cy cz cA _ e => ⟨_, e, cy, fun _ => ⟨m, Nat.le_trans hT.chg.size cz.ge, cA, rfl⟩⟩
  ·intro a w hT
   have hAp := hT.ag k [(0, .pointer (some d))] ⟨rfl, trivial⟩ (by kernel_rfl)
   exact ovr hAp rfl (r_move (hAp.get rfl)) fun _ => Eq.refl _
  ·intro a w hT
   have hAp := hT.ag k [] trivial (by kernel_rfl)
   have cB : a.tmps.getD 32 undef = .pointer (some d) := hT.vals 0 rfl 32 rfl
   have hAp := hAp.add cB
   exact ovr hAp rfl (r_nilCheck (hAp.get rfl)) fun _ => Eq.refl _
  ·intro a w hT
   have hAp := hT.ag k [] trivial (by kernel_rfl)
   have cC : a.tmps.getD 33 undef = .pointer (some d) := hT.vals 1 rfl 33 rfl
   have hAp := hAp.add cC
   exact ovr hAp rfl (r_fieldAddr (hAp.get rfl) Tryz.underlying195 rfl ti_192 (by decide)) fun _ => Eq.refl _
  ·intro a w hT
   have hAp := hT.ag k [] trivial (by kernel_rfl)
   have cD : a.tmps.getD 34 undef = .pointer (some (d.add 0)) := hT.vals 2 rfl 34 rfl
   have hAp := hAp.add cD
   exact ovr hAp rfl (r_load1 tU192 rfl (hAp.get rfl) (Ext.cell hT.chg bo)) fun _ => Eq.refl _
  ·intro a w hT
   have hAp := hT.ag k [(7, .int .i64 (f.n : Int))] ⟨rfl, trivial⟩ (by kernel_rfl)
   exact ovr hAp rfl (r_move (hAp.get rfl)) fun _ => Eq.refl _
  ·intro a w hT
   have hAp := hT.ag k [(0, .pointer (some d))] ⟨rfl, trivial⟩ (by kernel_rfl)
   exact ovr hAp rfl (r_move (hAp.get rfl)) fun _ => Eq.refl _
  ·intro a w hT
   have hAp := hT.ag k [] trivial (by kernel_rfl)
   have cF : a.tmps.getD 37 undef = .pointer (some d) := hT.vals 5 rfl 37 rfl
   have hAp := hAp.add cF
   exact ovr hAp rfl (r_nilCheck (hAp.get rfl)) fun _ => Eq.refl _
  ·intro a w hT
   have hAp := hT.ag k [] trivial (by kernel_rfl)
   have cG : a.tmps.getD 38 undef = .pointer (some d) := hT.vals 6 rfl 38 rfl
   have hAp := hAp.add cG
   exact ovr hAp rfl (r_fieldAddr (hAp.get rfl) Tryz.underlying195 rfl ti_192 (by decide)) fun _ => Eq.refl _
  ·intro a w hT
   have hAp := hT.ag k [] trivial (by kernel_rfl)
   have cH : a.tmps.getD 39 undef = .pointer (some (d.add 0)) := hT.vals 7 rfl 39 rfl
   have hAp := hAp.add cH
   exact ovr hAp rfl (r_load1 tU192 rfl (hAp.get rfl) (Ext.cell hT.chg bp)) fun _ => Eq.refl _
  ·intro a w hT
   have hAp := hT.ag k [(7, .int .i64 (f.n : Int))] ⟨rfl, trivial⟩ (by kernel_rfl)
   exact ovr hAp rfl (r_move (hAp.get rfl)) fun _ => Eq.refl _
  ·intro a w hT
   have hAp := hT.ag k [] trivial (by kernel_rfl)
   have cI : a.tmps.getD 40 undef = Sl.v af := hT.vals 8 rfl 40 rfl
   have hAp := hAp.add cI
   have cJ : a.tmps.getD 41 undef = .int .i64 (f.n : Int) := hT.vals 9 rfl 41 rfl
   have hAp := hAp.add cJ
   exact ovr hAp rfl (r_indexAddr (hAp.get rfl) (hAp.get rfl) tU192 ti_197 aK.1 aK.2) fun _ => Eq.refl _
  ·intro a w hT
   have hAp := hT.ag k [] trivial (by kernel_rfl)
   have cK : a.tmps.getD 42 undef = .pointer (some (r.add ((f.n : Int).toNat * 8))) := hT.vals 10 rfl 42 rfl
   have hAp := hAp.add cK
   exact ovr hAp rfl (r_fieldAddr (hAp.get rfl) Tryz.underlying197 rfl ti_44 (by decide)) fun _ => Eq.refl _
  ·intro a w hT
   have hAp := hT.ag k [] trivial (by kernel_rfl)
   have cL : a.tmps.getD 43 undef = .pointer (some ((r.add ((f.n : Int).toNat * 8)).add 7)) := hT.vals 11 rfl 43 rfl
   have hAp := hAp.add cL
   exact ovr hAp rfl (r_load1 tU44 rfl (hAp.get rfl) (Ext.cell hT.chg bq)) fun _ => Eq.refl _
  ·intro a w hT
   have hAp := hT.ag k [(10, .int .i64 o)] ⟨rfl, trivial⟩ (by kernel_rfl)
   exact ovr hAp rfl (r_move (hAp.get rfl)) fun _ => Eq.refl _
  ·intro d8 an aF cM cN
   have cO := cM [(0, .pointer (some d)), (7, .int .i64 (f.n : Int)), (10, .int .i64 o), (22, Sl.v g), (23, .int .i64 (g.n : Int)), (24, .int .i64 j)] ⟨rfl, rfl, rfl, rfl, rfl, rfl, trivial⟩ (by kernel_rfl)
   obtain ⟨m, cP, br, cQ⟩ := cN 14 rfl 46 rfl
   have l := cO.add cQ
   have d9 : Chg [] p an := aF
   have cR := Ext.cell aF bo
   have cS := Ext.cell aF bp
   have cT := Ext.cell aF bq
   have cU := cv an m aF cP br
   refine oneF (c := 15) l rfl (by kernel_rfl) (constF ⟨fun _ _ _ h => h, fun _ _ _ h => h, fun _ _ _ h => h, fun _ _ _ h => h, fun _ _ _ h => h, fun _ _ _ h => h, fun _ _ _ h => h, fun _ _ _ h => h, fun _ _ _ h => h, fun _ _ _ h => h, fun _ _ _ h => h, fun _ _ _ h => h, fun _ _ _ h => h, fun _ _ _ h => h, trivial⟩) ⟨?_, ?_, ?_, ?_, ?_, ?_, ?_, ?_, ?_, ?_, ?_, ?_, ?_, ?_, trivial⟩ ?_
   ·intro a hT
    have hAp := hT.ag l [(0, .pointer (some d))] ⟨rfl, trivial⟩ (by kernel_rfl)
    exact opk_val hAp rfl (r_move (hAp.get rfl)) fun _ _ e => ⟨_, e, rfl, fun _ => Eq.refl _⟩
   ·intro a hT
    have hAp := hT.ag l [] trivial (by kernel_rfl)
    have cX : a.tmps.getD 32 undef = .pointer (some d) := hT.vals 0 rfl 32 rfl
    have hAp := hAp.add cX
    exact opk_val hAp rfl (r_nilCheck (hAp.get rfl)) fun _ _ e => ⟨_, e, rfl, fun _ => Eq.refl _⟩
   ·intro a hT
    have hAp := hT.ag l [] trivial (by kernel_rfl)
    have cY : a.tmps.getD 33 undef = .pointer (some d) := hT.vals 1 rfl 33 rfl
    have hAp := hAp.add cY
    exact opk_val hAp rfl (r_fieldAddr (hAp.get rfl) Tryz.underlying195 rfl ti_192 (by decide)) fun _ _ e => ⟨_, e, rfl, fun _ => Eq.refl _⟩
   ·intro a hT
    have hAp := hT.ag l [] trivial (by kernel_rfl)
    have cZ : a.tmps.getD 34 undef = .pointer (some (d.add 0)) := hT.vals 2 rfl 34 rfl
    have hAp := hAp.add cZ
    exact opk_val hAp rfl (r_load1 tU192 rfl (hAp.get rfl) (Ext.cell hT.chg cR)) fun _ _ e => ⟨_, e, rfl, fun _ => Eq.refl _⟩
   ·intro a hT
    have hAp := hT.ag l [(7, .int .i64 (f.n : Int))] ⟨rfl, trivial⟩ (by kernel_rfl)
    exact opk_val hAp rfl (r_move (hAp.get rfl)) fun _ _ e => ⟨_, e, rfl, fun _ => Eq.refl _⟩
   ·intro a hT
    have hAp := hT.ag l [(0, .pointer (some d))] ⟨rfl, trivial⟩ (by kernel_rfl)
    exact opk_val hAp rfl (r_move (hAp.get rfl)) fun _ _ e => ⟨_, e, rfl, fun _ => Eq.refl _⟩
   ·intro a hT
    have hAp := hT.ag l [] trivial (by kernel_rfl)
    have c0 : a.tmps.getD 37 undef = .pointer (some d) := hT.vals 5 rfl 37 rfl
    have hAp := hAp.add c0
    exact opk_val hAp rfl (r_nilCheck (hAp.get rfl)) fun _ _ e => ⟨_, e, rfl, fun _ => Eq.refl _⟩
   ·intro a hT
    have hAp := hT.ag l [] trivial (by kernel_rfl)
    have c1 : a.tmps.getD 38 undef = .pointer (some d) := hT.vals 6 rfl 38 rfl
    have hAp := hAp.add c1
    exact opk_val hAp rfl (r_fieldAddr (hAp.get rfl) Tryz.underlying195 rfl ti_192 (by decide)) fun _ _ e => ⟨_, e, rfl, fun _ => Eq.refl _⟩
   ·intro a hT
    have hAp := hT.ag l [] trivial (by kernel_rfl)
    have c2 : a.tmps.getD 39 undef = .pointer (some (d.add 0)) := hT.vals 7 rfl 39 rfl
    have hAp := hAp.add c2
    exact opk_val hAp rfl (r_load1 tU192 rfl (hAp.get rfl) (Ext.cell hT.chg cS)) fun _ _ e => ⟨_, e, rfl, fun _ => Eq.refl _⟩
   ·intro a hT
    have hAp := hT.ag l [(7, .int .i64 (f.n : Int))] ⟨rfl, trivial⟩ (by kernel_rfl)
    exact opk_val hAp rfl (r_move (hAp.get rfl)) fun _ _ e => ⟨_, e, rfl, fun _ => Eq.refl _⟩
   ·intro a hT
    have hAp := hT.ag l [] trivial (by kernel_rfl)
    have c3 : a.tmps.getD 40 undef = Sl.v af := hT.vals 8 rfl 40 rfl
    have hAp := hAp.add c3
    have c4 : a.tmps.getD 41 undef = .int .i64 (f.n : Int) := hT.vals 9 rfl 41 rfl
    have hAp := hAp.add c4
    exact opk_val hAp rfl (r_indexAddr (hAp.get rfl) (hAp.get rfl) tU192 ti_197 aK.1 aK.2) fun _ _ e => ⟨_, e, rfl, fun _ => Eq.refl _⟩
   ·intro a hT
    have hAp := hT.ag l [] trivial (by kernel_rfl)
    have c5 : a.tmps.getD 42 undef = .pointer (some (r.add ((f.n : Int).toNat * 8))) := hT.vals 10 rfl 42 rfl
    have hAp := hAp.add c5
    exact opk_val hAp rfl (r_fieldAddr (hAp.get rfl) Tryz.underlying197 rfl ti_44 (by decide)) fun _ _ e => ⟨_, e, rfl, fun _ => Eq.refl _⟩
   ·intro a hT
    have hAp := hT.ag l [] trivial (by kernel_rfl)
    have c6 : a.tmps.getD 43 undef = .pointer (some ((r.add ((f.n : Int).toNat * 8)).add 7)) := hT.vals 11 rfl 43 rfl
    have hAp := hAp.add c6
    exact opk_val hAp rfl (r_load1 tU44 rfl (hAp.get rfl) (Ext.cell hT.chg cT)) fun _ _ e => ⟨_, e, rfl, fun _ => Eq.refl _⟩
   ·intro a hT
    have hAp := hT.ag l [(10, .int .i64 o)] ⟨rfl, trivial⟩ (by kernel_rfl)
    exact opk_val hAp rfl (r_move (hAp.get rfl)) fun _ _ e => ⟨_, e, rfl, fun _ => Eq.refl _⟩
   ·intro c7 hT
    have c8 := hT.ag l [(0, .pointer (some d)), (7, .int .i64 (f.n : Int)), (10, .int .i64 o), (22, Sl.v g), (23, .int .i64 (g.n : Int)), (24, .int .i64 j), (46, Sl.v (Sl.mk (some ⟨m, 0, none⟩) 1 1))] ⟨rfl, rfl, rfl, rfl, rfl, rfl, rfl, trivial⟩ (by kernel_rfl)
    have c9 : c7.tmps.getD 44 undef = Sl.v au := hT.vals 12 rfl 44 rfl
    have aR := c8.add c9
    have da := cU br
    refine (opk_run aR rfl (fun _ _ hr => r_append (aR.get rfl) (aR.get rfl) hr) da fun fa fb av db dc fc fd dd => ?_)
    refine ⟨_, dc, ?_⟩
    obtain ⟨ao, rfl, df⟩ := dd
    obtain ⟨bs, dg⟩ := df
    obtain ⟨ff, dh⟩ := dg
    obtain ⟨fg, di⟩ := dh
    refine PRF_drop (X := [5, 6, 7, 8, 9, 10, 11, 12, 13]) (Fs' := [0, 1, 2, 3, 4]) db (by kernel_rfl) fun fh dj fi => ?_
    have aA := dj [(0, .pointer (some d)), (7, .int .i64 (f.n : Int)), (22, Sl.v g), (23, .int .i64 (g.n : Int)), (24, .int .i64 j), (47, Sl.v ao)] ⟨rfl, rfl, rfl, rfl, rfl, rfl, trivial⟩ (by kernel_rfl)
    refine joinF aA (by kernel_rfl) ⟨fun _ _ _ _ h => h, fun _ _ _ _ h => h, fun _ _ _ _ h => h, fun _ _ _ _ h => h, fun _ _ _ _ h => h, trivial⟩ ⟨?_, ?_, ?_, ?_, ?_, trivial⟩ ?_
    ·intro a w hT
     have hAp := hT.ag aA [(0, .pointer (some d))] ⟨rfl, trivial⟩ (by kernel_rfl)
     exact ovr hAp rfl (r_move (hAp.get rfl)) fun _ => Eq.refl _
    ·intro a w hT
     have hAp := hT.ag aA [] trivial (by kernel_rfl)
     have dk : a.tmps.getD 32 undef = .pointer (some d) := hT.vals 0 rfl 32 rfl
     have hAp := hAp.add dk
     exact ovr hAp rfl (r_nilCheck (hAp.get rfl)) fun _ => Eq.refl _
    ·intro a w hT
     have hAp := hT.ag aA [] trivial (by kernel_rfl)
     have dl : a.tmps.getD 33 undef = .pointer (some d) := hT.vals 1 rfl 33 rfl
     have hAp := hAp.add dl
     exact ovr hAp rfl (r_fieldAddr (hAp.get rfl) Tryz.underlying195 rfl ti_192 (by decide)) fun _ => Eq.refl _
    ·intro a w hT
     have hAp := hT.ag aA [] trivial (by kernel_rfl)
     have dm : a.tmps.getD 34 undef = .pointer (some (d.add 0)) := hT.vals 2 rfl 34 rfl
     have hAp := hAp.add dm
     exact ovr hAp rfl (r_load1 tU192 rfl (hAp.get rfl) (Ext.cell hT.chg bs)) fun _ => Eq.refl _
    ·intro a w hT
     have hAp := hT.ag aA [(7, .int .i64 (f.n : Int))] ⟨rfl, trivial⟩ (by kernel_rfl)
     exact ovr hAp rfl (r_move (hAp.get rfl)) fun _ => Eq.refl _
    ·intro bt ax bu dn bv
     have dp := dn [(0, .pointer (some d)), (7, .int .i64 (f.n : Int)), (22, Sl.v g), (23, .int .i64 (g.n : Int)), (24, .int .i64 j), (47, Sl.v ao)] ⟨rfl, rfl, rfl, rfl, rfl, rfl, trivial⟩ (by kernel_rfl)
     have dq : bt.tmps.getD 35 undef = Sl.v ad := bv 3 rfl 35 rfl
     have dr := dp.add dq
     have ds : bt.tmps.getD 36 undef = .int .i64 (f.n : Int) := bv 4 rfl 36 rfl
     have aS := dr.add ds
     have dt : Chg [] av ax := bu
     have fj := Ext.cell bu bs
     have du := di ax    dt
     obtain ⟨ap, bx, dv⟩ := du
     refine par (D := [[], [0], [0, 1], [0, 1, 2], [], [], [5], [5, 6], [5, 6, 7], [], [5, 6, 7, 8, 9], [5, 6, 7, 8, 9, 10], [5, 6, 7, 8, 9, 10, 11], [], [13], [5, 6, 7, 8, 9, 10, 11, 12, 13, 14], [0, 1, 2, 3, 4, 5, 6, 7, 8, 9, 10, 11, 12, 13, 14, 15], [0, 1, 2, 3, 4, 5, 6, 7, 8, 9, 10, 11, 12, 13, 14, 15, 16], [0, 1, 2, 3, 4, 5, 6, 7, 8, 9, 10, 11, 12, 13, 14, 15, 16, 17]]) (S := [16, 17]) (F := []) (V := VL [(16, fun v _ => v = .pointer (some (ap.add ((f.n : Int).toNat * 8)))), (17, fun v _ => v = .pointer (some ((ap.add ((f.n : Int).toNat * 8)).add 7)))]) aS (by kernel_rfl) ⟨fun _ _ _ _ h => h, fun _ _ _ _ h => h, trivial⟩ ⟨?_, ?_, trivial⟩ ?_
     ·intro a w hT
      have hAp := hT.ag aS [(35, Sl.v ad), (36, .int .i64 (f.n : Int))] ⟨rfl, rfl, trivial⟩ (by kernel_rfl)
      exact ovr hAp rfl (r_indexAddr (hAp.get rfl) (hAp.get rfl) tU192 ti_197 bx.1 bx.2) fun _ => Eq.refl _
     ·intro a w hT
      have hAp := hT.ag aS [] trivial (by kernel_rfl)
      have dx : a.tmps.getD 48 undef = .pointer (some (ap.add ((f.n : Int).toNat * 8))) := hT.vals 16 rfl 48 rfl
      have hAp := hAp.add dx
      exact ovr hAp rfl (r_fieldAddr (hAp.get rfl) Tryz.underlying197 rfl ti_44 (by decide)) fun _ => Eq.refl _
     ·intro dy ay dz dA dB
      have dC := dA [(0, .pointer (some d)), (7, .int .i64 (f.n : Int)), (22, Sl.v g), (23, .int .i64 (g.n : Int)), (24, .int .i64 j), (47, Sl.v ao)] ⟨rfl, rfl, rfl, rfl, rfl, rfl, trivial⟩ (by kernel_rfl)
      have dD : dy.tmps.getD 49 undef = .pointer (some ((ap.add ((f.n : Int).toNat * 8)).add 7)) := dB 17 rfl 49 rfl
      have aT := dC.add dD
      have dF : Chg [] ax ay := dz
      have dG := dv ay    dF
      obtain ⟨az, aH, aO, aI, dH, bz, dI, fk, dJ⟩ := dG
      refine one (D := [[], [0], [0, 1], [0, 1, 2], [], [], [5], [5, 6], [5, 6, 7], [], [5, 6, 7, 8, 9], [5, 6, 7, 8, 9, 10], [5, 6, 7, 8, 9, 10, 11], [], [13], [5, 6, 7, 8, 9, 10, 11, 12, 13, 14], [0, 1, 2, 3, 4, 5, 6, 7, 8, 9, 10, 11, 12, 13, 14, 15], [0, 1, 2, 3, 4, 5, 6, 7, 8, 9, 10, 11, 12, 13, 14, 15, 16], [0, 1, 2, 3, 4, 5, 6, 7, 8, 9, 10, 11, 12, 13, 14, 15, 16, 17]]) (i := 18) rfl (by kernel_rfl) (opk_store aT bz (r_store (vs := [Sl.v ao]) (((aT.get rfl)).trans (congrArg (fun a => Value.pointer (some a)) dH)) (aT.get rfl) rfl ti_44 bz (Nat.ble_eq_true_of_le dI) (ones_all _ rfl)) fun fl aq dK dL dM => ?_)
      have dN := dJ aq dK dL
      refine PR_end (by kernel_rfl) ?_
      have bA := dM.kp [(0, .pointer (some d)), (7, .int .i64 (f.n : Int)), (22, Sl.v g), (23, .int .i64 (g.n : Int)), (24, .int .i64 j)] rfl
      refine block_normal ?_
      refine then_normal (wp_region_lit ?_)
      obtain ⟨dO, bB⟩ := dN
      refine sqv bA rfl (r_addI (bA.get rfl) rfl dO) fun _ bC => sqv bC rfl (r_move (bC.get rfl)) fun _ dP => sq_end ?_
      have dQ := dP.kp [(0, .pointer (some d)), (7, .int .i64 (f.n : Int)), (22, Sl.v g), (23, .int .i64 (g.n : Int)), (24, .int .i64 (j + 1))] rfl
      have dR := dQ.kp [(0, .pointer (some d)), (7, .int .i64 (f.n : Int)), (22, Sl.v g), (23, .int .i64 (g.n : Int)), (24, .int .i64 (j + 1))] rfl
      exact then_normal ⟨(j + 1, aq), ⟨dR, rfl, bB.1⟩, bB.2⟩
 ·have dS := bb.2 (of_decide_eq_false hc)
  clear hc
  refine wp_exit ?_
  refine then_exit ?_
  refine then_exit ?_
  refine block_hit ?_
  have bD := aD.kp [(7, .int .i64 (f.n : Int))] rfl
  refine then_normal (wp_seq (wp_region_lit ?_))
  refine sqv bD rfl (r_move (bD.get rfl)) fun _ bF => sqv bF rfl (r_assign (bF.get rfl)) fun _ dT => sq_end ?_
  have bG := dT.kp [(6, .int .i64 (f.n : Int))] rfl
  refine then_normal ?_
  refine wp_ret ?_
  exact res_all (vs := [.int .i64 (f.n : Int)]) rfl bG ⟨res_of_tmp bG rfl, trivial⟩ dS
end Go.Proofs.YteacalmdpoblpaaGreat
