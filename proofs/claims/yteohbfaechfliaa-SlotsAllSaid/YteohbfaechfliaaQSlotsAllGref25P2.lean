/-
  PRINTED BY PROGRAM: for each function its condition (vc), and that this suffices (ok).
-/
import Derived.Test.YteohbfaechfliaaQSlotsAllGT
namespace Go.Proofs.Yteohbfaechfliaa
open Go.RowKit
set_option linter.unusedVariables false
set_option maxHeartbeats 1000000
set_option maxRecDepth 10000
def ref25_C_slot.vc (b : Addr) (p : Int) (R : Value → World → Prop) (w : World) : Prop :=
∀ (w4 : World) (j : Nat), New w j w4 → Chg [] w w4 →
∃ (bU : Option Addr), (w4.cell? (b.add 2) = some (.pointer bU)) ∧
∃ bV : Addr, (bU = some bV) ∧
∃ (bH : Sl), (w4.cell? (bV.add 0) = some (Sl.v bH)) ∧
((0 : Int) ≤ p ∧ p < (bH.n : Int)) ∧ ∃ bX : Addr, bH.a = some bX ∧
∃ (f : Int), (w4.cell? (bX.add (p.toNat * 1)) = some (.int .i64 f)) ∧
((f < 0) →
∀ (a7 : World), Chg [j] w4 a7 →
R (.agg #[.bool true, .bool false, Sl.v Sl.nil, Sl.v Sl.nil, .int .i64 0, Sl.v Sl.nil]) a7) ∧
((¬ (f < 0)) →
∀ (am : World), Chg [] w4 am →
∃ (aU : Sl), (am.cell? (b.add 0) = some (Sl.v aU)) ∧
∃ ay : Addr, (((0 : Int) ≤ p ∧ p < (aU.n : Int)) ∧ aU.a = some ay) ∧
∃ (aJ : Int) (aK : Str) (u : Str) (y : Sl) (aL : Sl), (Cells am ((ay.add (p.toNat * 15)).add 5) [.int .i64 aJ, .string (Bs aK), .string (Bs u), Sl.v y, Sl.v aL]) ∧
∃ (aM : Sl), (am.cell? (b.add 1) = some (Sl.v aM)) ∧
∃ au : Addr, (((0 : Int) ≤ f ∧ f < (aM.n : Int)) ∧ aM.a = some au) ∧
∃ (aN : Int) (aO : Str) (x : Str) (r : Sl) (aP : Sl), (Cells am ((au.add (f.toNat * 15)).add 5) [.int .i64 aN, .string (Bs aO), .string (Bs x), Sl.v r, Sl.v aP]) ∧
∀ (az : World) (k : Nat) (l : Nat), Ext am az → am.heap.size ≤ k → Box az k 26 [.int .i64 0, .string (Bs []), .string (Bs []), Sl.v Sl.nil, Sl.v Sl.nil] → am.heap.size ≤ l → Box az l 26 [.int .i64 0, .string (Bs []), .string (Bs []), Sl.v Sl.nil, Sl.v Sl.nil] → 
∀ (aV : World) (d : Nat), New az d aV → Chg [l, k] az aV →
∃ (a8 : Int → Sl → World → Prop) (a9 : Int → Sl → World → Nat),
a8 0 Sl.nil aV ∧
(∀ (m : Int) (z : Sl) (aA : World), a8 m z aA →
((m < (r.n : Int)) →
∀ (aQ : World), Chg [] aA aQ →
∃ aX : Addr, (((0 : Int) ≤ m ∧ m < (r.n : Int)) ∧ r.a = some aX) ∧
∃ (ba : Str), (aQ.cell? ((aX.add (m.toNat * 2)).add 0) = some (.string (Bs ba))) ∧
∃ (ak : Str) (q : Bool), (∀ w' : World, Ext aQ w' → Calls Try.prog 13 #[Sl.v y, .string (Bs ba)] w' (Ret fun v w'' => Ext w' w'' ∧ v = .tuple #[.string (Bs ak), .bool q])) ∧
∃ bY : Addr, (((q = true)) → ((0 : Int) ≤ m ∧ m < (r.n : Int)) ∧  r.a = some bY) ∧
∀ (av : World), Chg [] aQ av →
∃ (bo : Str), (((q = true)) → av.cell? ((bY.add (m.toNat * 2)).add 1) = some (.string (Bs bo))) ∧
(((q = false) ∨ (ak ≠ bo)) →
∀ (aB : World), Chg [] av aB →
∃ bp : Addr, (((0 : Int) ≤ m ∧ m < (r.n : Int)) ∧ r.a = some bp) ∧
∃ (aC : Str) (aD : Str), (Cells aB (bp.add (m.toNat * 2)) [.string (Bs aC), .string (Bs aD)]) ∧
∀ (aY : World) (ad : Nat), Ext aB aY → aB.heap.size ≤ ad → Box aY ad 47 [.string (Bs aC), .string (Bs aD)] → 
∀ (_ : Box aY ad 47 [.string (Bs aC), .string (Bs aD)]),
RunK Try.prog (Builtin.append_ #[23, 23] 23 #[Sl.v z, Sl.v (Sl.mk (some ⟨ad, 0, none⟩) 1 1)]) aY [j, k, l, d] (fun v bZ => ∃ (aR : Sl), v = Sl.v aR ∧
(I64 (m + 1)) ∧
∀ (aZ : World), Chg [d] bZ aZ →
a8 (m + 1) aR aZ ∧ a9 (m + 1) aR aZ < a9 m z aA)) ∧
(((q = true) ∧ (¬ (ak ≠ bo))) →
(I64 (m + 1)) ∧
a8 (m + 1) z av ∧ a9 (m + 1) z av < a9 m z aA)) ∧
((¬ (m < (r.n : Int))) →
∃ (bb : Int → Sl → World → Prop) (bd : Int → Sl → World → Nat),
bb 0 Sl.nil aA ∧
(∀ (o : Int) (ab : Sl) (ao : World), bb o ab ao →
((o < (y.n : Int)) →
∀ (aF : World), Chg [] ao aF →
∃ p_1130 : Addr, (((0 : Int) ≤ o ∧ o < (y.n : Int)) ∧ y.a = some p_1130) ∧
∃ (bf : Str), (aF.cell? ((p_1130.add (o.toNat * 2)).add 0) = some (.string (Bs bf))) ∧
∃ (ax : Str) (al : Bool), (∀ w' : World, Ext aF w' → Calls Try.prog 13 #[Sl.v r, .string (Bs bf)] w' (Ret fun v w'' => Ext w' w'' ∧ v = .tuple #[.string (Bs ax), .bool al])) ∧
((al = false) →
∀ (aS : World), Chg [] aF aS →
∃ a1 : Addr, (((0 : Int) ≤ o ∧ o < (y.n : Int)) ∧ y.a = some a1) ∧
∃ (aG : Str), (aS.cell? ((a1.add (o.toNat * 2)).add 0) = some (.string (Bs aG))) ∧
∀ (a2 : World) (af : Nat), Ext aS a2 → aS.heap.size ≤ af → Box a2 af 9 [.string (Bs aG)] → 
∀ (_ : Box a2 af 9 [.string (Bs aG)]),
RunK Try.prog (Builtin.append_ #[41, 41] 41 #[Sl.v ab, Sl.v (Sl.mk (some ⟨af, 0, none⟩) 1 1)]) a2 [j, k, l, d] (fun v b0 => ∃ (aT : Sl), v = Sl.v aT ∧
(I64 (o + 1)) ∧
∀ (a3 : World), Chg [d] b0 a3 →
bb (o + 1) aT a3 ∧ bd (o + 1) aT a3 < bd o ab ao)) ∧
((al = true) →
(I64 (o + 1)) ∧
∀ (a4 : World), Chg [] aF a4 →
bb (o + 1) ab a4 ∧ bd (o + 1) ab a4 < bd o ab ao)) ∧
((¬ (o < (y.n : Int))) →
∃ (bI : Sl), (ao.cell? (b.add 1) = some (Sl.v bI)) ∧
((0 : Int) ≤ f ∧ f < (bI.n : Int)) ∧ ∃ b1 : Addr, bI.a = some b1 ∧
∃ (bq : Int), (ao.cell? ((b1.add (f.toNat * 15)).add 0) = some (.int .i64 bq)) ∧
∃ br : Int → World → Prop,
(((0 ≤ bq) →
∃ (bJ : Sl), (ao.cell? (b.add 1) = some (Sl.v bJ)) ∧
((0 : Int) ≤ f ∧ f < (bJ.n : Int)) ∧ ∃ b2 : Addr, bJ.a = some b2 ∧
∃ (bK : Int), (ao.cell? ((b2.add (f.toNat * 15)).add 0) = some (.int .i64 bK)) ∧
CallK Try.prog 67 #[.pointer (some b), .int .i64 bK] ao [j, d] (fun v b3 => ∃ (bg : Int), v = .int .i64 bg ∧
∀ (bh : World), Chg [d] b3 bh →
br bg bh)) ∧
((¬ (0 ≤ bq)) →
br (-1) ao)) ∧
(∀ (aq : Int) (bL : World), br aq bL →
CallK Try.prog 68 #[.pointer (some b), .int .i64 f] bL [j, d] (fun v b4 => ∃ (aH : Sl), v = Sl.v aH ∧
∀ (bs : World), Chg [j, d] b4 bs →
R (.agg #[.bool false, .bool (decide (u ≠ x)), Sl.v z, Sl.v ab, .int .i64 aq, Sl.v aH]) bs)))))))
theorem ref25_C_slot.ok (b : Addr) (p : Int) {R : Value → World → Prop} {w : World} (cP : ref25_C_slot.vc b p R w) : Calls Try.prog 46 #[.pointer (some b), .int .i64 p] w (Ret R) := by
 refine enter [.pointer (some b), .int .i64 p] Try.func46 rfl Try.ntmps46 rfl ?_
 intro a0 gm
 unfold ref25_C_slot.vc at cP
 refine wp_seq (wp_region_lit ?_)
 refine sq (opk_new (fun B => .pointer (some ⟨B, 0, none⟩)) gm rfl (r_alloc (cs := [.bool false, .bool false, Sl.v Sl.nil, Sl.v Sl.nil, .int .i64 0, Sl.v Sl.nil]) ti_93 rfl) fun a5 w4 j gn go b5 gp _ => ?_)
 have gq : New w j w4 := go
 have gr : Chg [] w w4 := gn
 refine sq_end ?_
 have cQ := gp.kp [(0, .pointer (some b)), (1, .int .i64 p), (4, pB j 0)] rfl
 refine then_normal (wp_seq (wp_region_lit ?_))
 refine sqv cQ rfl (r_move (cQ.get rfl)) fun _ cR => sqv cR rfl (r_nilCheck (cR.get rfl)) fun _ cS => sqv cS rfl (r_fieldAddr (cS.get rfl) Try.underlying91 rfl ti_67 (by decide)) fun _ cT => ?_
 have gs := cP w4 j gq  gr
 obtain ⟨bU, gu, gv⟩ := gs
 refine sqv cT rfl (r_load1 tU67 rfl (cT.get rfl) gu) fun _ cU => ?_
 obtain ⟨bV, gx, gy⟩ := gv
 refine sqv cU rfl (r_nilCheckP (((cU.get rfl)).trans (congrArg Value.pointer gx))) fun _ cX => sqv cX rfl (r_fieldAddr (cX.get rfl) Try.underlying74 rfl ti_22 (by decide)) fun _ cY => ?_
 obtain ⟨bH, gz, gA⟩ := gy
 refine sqv cY rfl (r_load1 tU22 rfl (cY.get rfl) gz) fun _ cZ => sqv cZ rfl (r_move (cZ.get rfl)) fun _ b6 => ?_
 obtain ⟨gB, bX, gC, gD⟩ := gA
 refine sqv b6 rfl (r_indexAddr (b6.get rfl) (b6.get rfl) tU22 ti_3 gB gC) fun _ c0 => ?_
 obtain ⟨f, gF, c1⟩ := gD
 refine sqv c0 rfl (r_load1 tU3 rfl (c0.get rfl) gF) fun _ c2 => sqv c2 rfl (r_assign (c2.get rfl)) fun _ gG => sq_end ?_
 have c3 := gG.kp [(0, .pointer (some b)), (1, .int .i64 p), (4, pB j 0), (5, .int .i64 f)] rfl
 refine then_normal (wp_seq (wp_seq (wp_region_lit ?_)))
 refine sqv c3 rfl (r_move (c3.get rfl)) fun _ c4 => sqv c4 rfl (r_lss (c4.get rfl) rfl) fun _ gH => sq_end ?_
 have aa := gH.kp [(0, .pointer (some b)), (1, .int .i64 p), (4, pB j 0), (5, .int .i64 f), (26, .bool (decide (f < 0)))] rfl
 refine then_normal ?_
 refine wp_cond_split (aa.get rfl) (fun hc => ?_) (fun hc => ?_)
 ·have gI := c1.1 (of_decide_eq_true hc)
  clear hc
  refine wp_seq (wp_region_lit ?_)
  refine sqv aa rfl (r_build (vs := #[(0, .bool true)]) (cells := #[.bool true, .bool false, Sl.v Sl.nil, Sl.v Sl.nil, .int .i64 0, Sl.v Sl.nil]) (map_arr2 (ml2_cons rfl (ml2_nil))) ti_93 Try.underlying93 pl_93 (by kernel_rfl)) fun _ b7 => ?_
  refine sq (opk_store b7 b5 (r_store (vs := [.bool true, .bool false, Sl.v Sl.nil, Sl.v Sl.nil, .int .i64 0, Sl.v Sl.nil]) (b7.get rfl) (b7.get rfl) rfl ti_93 b5 rfl (ones_all _ rfl)) fun lD a7 gJ gK gL => ?_)
  have gM : Box a7 j 93 [.bool true, .bool false, Sl.v Sl.nil, Sl.v Sl.nil, .int .i64 0, Sl.v Sl.nil] := gK
  have gN : Chg [j] w4 a7 := gJ
  refine sq_end ?_
  have c5 := gL.kp [(4, pB j 0)] rfl
  refine then_normal ?_
  refine wp_ret ?_
  refine then_ret ?_
  have gO := gI a7    gN
  exact res_all (vs := [.agg #[.bool true, .bool false, Sl.v Sl.nil, Sl.v Sl.nil, .int .i64 0, Sl.v Sl.nil]]) rfl c5 ⟨res_of_cell c5 rfl gM Try.underlying93 rfl ti_93, trivial⟩ gO
 ·have gP := c1.2 (of_decide_eq_false hc)
  clear hc
  refine wp_skip ?_
  refine then_normal (wp_seq ?_)
  refine draw' (by kernel_rfl) fun am c6 => ?_
  have b8 := b5.ext c6
  have gQ : Chg [] w4 am := c6
  have gR := gP am    gQ
  obtain ⟨aU, b9, gS⟩ := gR
  obtain ⟨ay, bM, gT⟩ := gS
  obtain ⟨aJ, aK, u, y, aL, ca, gU⟩ := gT
  obtain ⟨aM, cb, gV⟩ := gU
  obtain ⟨au, bi, gX⟩ := gV
  obtain ⟨aN, aO, x, r, aP, cc, gY⟩ := gX
  refine startF (D := [[], [0], [0, 1], [0, 1, 2], [], [0, 1, 2, 3, 4], [0, 1, 2, 3, 4, 5], [0, 1, 2, 3, 4, 5, 6], [], [8], [8, 9], [8, 9, 10], [], [8, 9, 10, 11, 12], [8, 9, 10, 11, 12, 13], [8, 9, 10, 11, 12, 13, 14], [], [], [0, 1, 2, 3, 4, 5, 6, 7, 16, 17], [0, 1, 2, 3, 4, 5, 6, 7, 8, 9, 10, 11, 12, 13, 14, 15, 16, 17, 18]]) (Fs := [0, 1, 2, 3, 4, 5, 6, 7, 8, 9, 10, 11, 12, 13, 14, 15]) (Ef := [(0, fun v _ => v = .pointer (some b)), (1, fun v _ => v = .pointer (some b)), (2, fun v _ => v = .pointer (some (b.add 0))), (3, fun v _ => v = Sl.v aU), (4, fun v _ => v = .int .i64 p), (5, fun v _ => v = .pointer (some (ay.add (p.toNat * 15)))), (6, fun v _ => v = .pointer (some ((ay.add (p.toNat * 15)).add 5))), (7, fun v _ => v = .agg #[.int .i64 aJ, .string (Bs aK), .string (Bs u), Sl.v y, Sl.v aL]), (8, fun v _ => v = .pointer (some b)), (9, fun v _ => v = .pointer (some b)), (10, fun v _ => v = .pointer (some (b.add 1))), (11, fun v _ => v = Sl.v aM), (12, fun v _ => v = .int .i64 f), (13, fun v _ => v = .pointer (some (au.add (f.toNat * 15)))), (14, fun v _ => v = .pointer (some ((au.add (f.toNat * 15)).add 5))), (15, fun v _ => v = .agg #[.int .i64 aN, .string (Bs aO), .string (Bs x), Sl.v r, Sl.v aP])]) (by kernel_rfl) ?_
  refine parFN (D := [[], [0], [0, 1], [0, 1, 2], [], [0, 1, 2, 3, 4], [0, 1, 2, 3, 4, 5], [0, 1, 2, 3, 4, 5, 6], [], [8], [8, 9], [8, 9, 10], [], [8, 9, 10, 11, 12], [8, 9, 10, 11, 12, 13], [8, 9, 10, 11, 12, 13, 14], [], [], [0, 1, 2, 3, 4, 5, 6, 7, 16, 17], [0, 1, 2, 3, 4, 5, 6, 7, 8, 9, 10, 11, 12, 13, 14, 15, 16, 17, 18]]) (S := [16, 17]) (F := []) (KE := [16, 17]) (N := [16, 17]) (E := [(16, fun v w' => ∃ k : Nat, am.heap.size ≤ k ∧ Box w' k 26 [.int .i64 0, .string (Bs []), .string (Bs []), Sl.v Sl.nil, Sl.v Sl.nil] ∧ v = pB k 0), (17, fun v w' => ∃ l : Nat, am.heap.size ≤ l ∧ Box w' l 26 [.int .i64 0, .string (Bs []), .string (Bs []), Sl.v Sl.nil, Sl.v Sl.nil] ∧ v = pB l 0)]) aa rfl (by kernel_rfl) (blkF ⟨fun _ _ h => by obtain ⟨k, _, hB, rfl⟩ := h; exact hB.lt, fun _ _ h => by obtain ⟨l, _, hB, rfl⟩ := h; exact hB.lt, trivial⟩) ⟨fun _ _ _ hE ⟨k, h0_, h1_, e⟩ => ⟨k, h0_, (h1_.ext hE), e⟩, fun _ _ _ hE ⟨l, h0_, h1_, e⟩ => ⟨l, h0_, (h1_.ext hE), e⟩, fun _ _ _ _ h => h, fun _ _ _ _ h => h, fun _ _ _ _ h => h, fun _ _ _ _ h => h, fun _ _ _ _ h => h, fun _ _ _ _ h => h, fun _ _ _ _ h => h, fun _ _ _ _ h => h, fun _ _ _ _ h => h, fun _ _ _ _ h => h, fun _ _ _ _ h => h, fun _ _ _ _ h => h, fun _ _ _ _ h => h, fun _ _ _ _ h => h, fun _ _ _ _ h => h, fun _ _ _ _ h => h, trivial⟩ ⟨?_, ?_, ?_, ?_, ?_, ?_, ?_, ?_, ?_, ?_, ?_, ?_, ?_, ?_, ?_, ?_, ?_, ?_, trivial⟩ ?_
  ·intro a w hT
   have hAp := hT.ag aa [] trivial (by kernel_rfl)
   exact opk_new (fun B => .pointer (some ⟨B, 0, none⟩)) hAp rfl (r_alloc (cs := [.int .i64 0, .string (Bs []), .string (Bs []), Sl.v Sl.nil, Sl.v Sl.nil]) ti_26 rfl) fun _ lF k gZ c7 g0 _ e => ⟨_, e, gZ, fun _ => ⟨k, Nat.le_trans hT.chg.size c7.ge, g0, rfl⟩, fun _ => c7.ge⟩
  ·intro a w hT
   have hAp := hT.ag aa [] trivial (by kernel_rfl)
   exact opk_new (fun B => .pointer (some ⟨B, 0, none⟩)) hAp rfl (r_alloc (cs := [.int .i64 0, .string (Bs []), .string (Bs []), Sl.v Sl.nil, Sl.v Sl.nil]) ti_26 rfl) fun _ lG l g1 c8 g2 _ e => ⟨_, e, g1, fun _ => ⟨l, Nat.le_trans hT.chg.size c8.ge, g2, rfl⟩, fun _ => c8.ge⟩
  ·intro a w hT
   refine overN_of rfl ?_
   have hAp := hT.ag aa [(0, .pointer (some b))] ⟨rfl, trivial⟩ (by kernel_rfl)
   exact ovr hAp rfl (r_move (hAp.get rfl)) fun _ => Eq.refl _
  ·intro a w hT
   refine overN_of rfl ?_
   have hAp := hT.ag aa [] trivial (by kernel_rfl)
   have hAp := hAp.add (t := 28) (v := .pointer (some b)) (hT.vals 0 rfl 28 rfl)
   exact ovr hAp rfl (r_nilCheck (hAp.get rfl)) fun _ => Eq.refl _
  ·intro a w hT
   refine overN_of rfl ?_
   have hAp := hT.ag aa [] trivial (by kernel_rfl)
   have hAp := hAp.add (t := 29) (v := .pointer (some b)) (hT.vals 1 rfl 29 rfl)
   exact ovr hAp rfl (r_fieldAddr (hAp.get rfl) Try.underlying91 rfl ti_31 (by decide)) fun _ => Eq.refl _
  ·intro a w hT
   refine overN_of rfl ?_
   have hAp := hT.ag aa [] trivial (by kernel_rfl)
   have hAp := hAp.add (t := 30) (v := .pointer (some (b.add 0))) (hT.vals 2 rfl 30 rfl)
   exact ovr hAp rfl (r_load1 tU31 rfl (hAp.get rfl) (Ext.cell hT.chg b9)) fun _ => Eq.refl _
  ·intro a w hT
   refine overN_of rfl ?_
   have hAp := hT.ag aa [(1, .int .i64 p)] ⟨rfl, trivial⟩ (by kernel_rfl)
   exact ovr hAp rfl (r_move (hAp.get rfl)) fun _ => Eq.refl _
  ·intro a w hT
   refine overN_of rfl ?_
   have hAp := hT.ag aa [] trivial (by kernel_rfl)
   have hAp := hAp.add (t := 31) (v := Sl.v aU) (hT.vals 3 rfl 31 rfl)
   have hAp := hAp.add (t := 32) (v := .int .i64 p) (hT.vals 4 rfl 32 rfl)
   exact ovr hAp rfl (r_indexAddr (hAp.get rfl) (hAp.get rfl) tU31 ti_38 bM.1 bM.2) fun _ => Eq.refl _
  ·intro a w hT
   refine overN_of rfl ?_
   have hAp := hT.ag aa [] trivial (by kernel_rfl)
   have hAp := hAp.add (t := 33) (v := .pointer (some (ay.add (p.toNat * 15)))) (hT.vals 5 rfl 33 rfl)
   exact ovr hAp rfl (r_fieldAddr (hAp.get rfl) Try.underlying38 rfl ti_26 (by decide)) fun _ => Eq.refl _
  ·intro a w hT
   refine overN_of rfl ?_
   have hAp := hT.ag aa [] trivial (by kernel_rfl)
   have hAp := hAp.add (t := 34) (v := .pointer (some ((ay.add (p.toNat * 15)).add 5))) (hT.vals 6 rfl 34 rfl)
   exact ovr hAp rfl (r_loadN Try.underlying26 rfl ti_26 (hAp.get rfl) (ca.ext hT.chg)) fun _ => Eq.refl _
  ·intro a w hT
   refine overN_of rfl ?_
   have hAp := hT.ag aa [(0, .pointer (some b))] ⟨rfl, trivial⟩ (by kernel_rfl)
   exact ovr hAp rfl (r_move (hAp.get rfl)) fun _ => Eq.refl _
  ·intro a w hT
   refine overN_of rfl ?_
   have hAp := hT.ag aa [] trivial (by kernel_rfl)
   have hAp := hAp.add (t := 36) (v := .pointer (some b)) (hT.vals 8 rfl 36 rfl)
   exact ovr hAp rfl (r_nilCheck (hAp.get rfl)) fun _ => Eq.refl _
  ·intro a w hT
   refine overN_of rfl ?_
   have hAp := hT.ag aa [] trivial (by kernel_rfl)
   have hAp := hAp.add (t := 37) (v := .pointer (some b)) (hT.vals 9 rfl 37 rfl)
   exact ovr hAp rfl (r_fieldAddr (hAp.get rfl) Try.underlying91 rfl ti_31 (by decide)) fun _ => Eq.refl _
  ·intro a w hT
   refine overN_of rfl ?_
   have hAp := hT.ag aa [] trivial (by kernel_rfl)
   have hAp := hAp.add (t := 38) (v := .pointer (some (b.add 1))) (hT.vals 10 rfl 38 rfl)
   exact ovr hAp rfl (r_load1 tU31 rfl (hAp.get rfl) (Ext.cell hT.chg cb)) fun _ => Eq.refl _
  ·intro a w hT
   refine overN_of rfl ?_
   have hAp := hT.ag aa [(5, .int .i64 f)] ⟨rfl, trivial⟩ (by kernel_rfl)
   exact ovr hAp rfl (r_move (hAp.get rfl)) fun _ => Eq.refl _
  ·intro a w hT
   refine overN_of rfl ?_
   have hAp := hT.ag aa [] trivial (by kernel_rfl)
   have hAp := hAp.add (t := 39) (v := Sl.v aM) (hT.vals 11 rfl 39 rfl)
   have hAp := hAp.add (t := 40) (v := .int .i64 f) (hT.vals 12 rfl 40 rfl)
   exact ovr hAp rfl (r_indexAddr (hAp.get rfl) (hAp.get rfl) tU31 ti_38 bi.1 bi.2) fun _ => Eq.refl _
  ·intro a w hT
   refine overN_of rfl ?_
   have hAp := hT.ag aa [] trivial (by kernel_rfl)
   have hAp := hAp.add (t := 41) (v := .pointer (some (au.add (f.toNat * 15)))) (hT.vals 13 rfl 41 rfl)
   exact ovr hAp rfl (r_fieldAddr (hAp.get rfl) Try.underlying38 rfl ti_26 (by decide)) fun _ => Eq.refl _
  ·intro a w hT
   refine overN_of rfl ?_
   have hAp := hT.ag aa [] trivial (by kernel_rfl)
   have hAp := hAp.add (t := 42) (v := .pointer (some ((au.add (f.toNat * 15)).add 5))) (hT.vals 14 rfl 42 rfl)
   exact ovr hAp rfl (r_loadN Try.underlying26 rfl ti_26 (hAp.get rfl) (cc.ext hT.chg)) fun _ => Eq.refl _
  ·intro lH az hE104 g3 c9 g4
   have g5 := g3 [(0, .pointer (some b)), (1, .int .i64 p), (4, pB j 0), (5, .int .i64 f)] ⟨rfl, rfl, rfl, rfl, trivial⟩ (by kernel_rfl)
   obtain ⟨k, bj, cd, da⟩ := c9 16 rfl 6 rfl
   have g6 := g5.add da
   obtain ⟨l, db, dc, dd⟩ := c9 17 rfl 7 rfl
   have ah := g6.add dd
   have df : k ≠ l := by have h := g4 16 17 rfl 6 7 rfl rfl; rw [da, dd] at h; exact h
   have g7 := b8.ext hE104
   have lI : Chg [] am az := hE104
   have dg := Ext.cell hE104 b9
   have dh := ca.ext hE104
   have di := Ext.cell hE104 cb
   have dj := cc.ext hE104
   have g8 := gY az k l hE104 bj cd db dc
   have g9 : j ≠ k := Nat.ne_of_lt (Nat.lt_of_lt_of_le b8.lt bj)
   have ha : j ≠ l := Nat.ne_of_lt (Nat.lt_of_lt_of_le b8.lt db)
   refine oneF (c := 18) ah rfl (by kernel_rfl) (constF ⟨fun _ _ _ h => h, fun _ _ _ h => h, fun _ _ _ h => h, fun _ _ _ h => h, fun _ _ _ h => h, fun _ _ _ h => h, fun _ _ _ h => h, fun _ _ _ h => h, fun _ _ _ h => h, fun _ _ _ h => h, fun _ _ _ h => h, fun _ _ _ h => h, fun _ _ _ h => h, fun _ _ _ h => h, fun _ _ _ h => h, fun _ _ _ h => h, trivial⟩) ⟨?_, ?_, ?_, ?_, ?_, ?_, ?_, ?_, ?_, ?_, ?_, ?_, ?_, ?_, ?_, ?_, trivial⟩ ?_
   ·intro a hT
    have hAp := hT.ag ah [(0, .pointer (some b))] ⟨rfl, trivial⟩ (by kernel_rfl)
    exact opk_val hAp rfl (r_move (hAp.get rfl)) fun _ _ e => ⟨_, e, rfl, fun _ => Eq.refl _⟩
   ·intro a hT
    have hAp := hT.ag ah [] trivial (by kernel_rfl)
    have hAp := hAp.add (t := 28) (v := .pointer (some b)) (hT.vals 0 rfl 28 rfl)
    exact opk_val hAp rfl (r_nilCheck (hAp.get rfl)) fun _ _ e => ⟨_, e, rfl, fun _ => Eq.refl _⟩
   ·intro a hT
    have hAp := hT.ag ah [] trivial (by kernel_rfl)
    have hAp := hAp.add (t := 29) (v := .pointer (some b)) (hT.vals 1 rfl 29 rfl)
    exact opk_val hAp rfl (r_fieldAddr (hAp.get rfl) Try.underlying91 rfl ti_31 (by decide)) fun _ _ e => ⟨_, e, rfl, fun _ => Eq.refl _⟩
   ·intro a hT
    have hAp := hT.ag ah [] trivial (by kernel_rfl)
    have hAp := hAp.add (t := 30) (v := .pointer (some (b.add 0))) (hT.vals 2 rfl 30 rfl)
    exact opk_val hAp rfl (r_load1 tU31 rfl (hAp.get rfl) (Ext.cell hT.chg dg)) fun _ _ e => ⟨_, e, rfl, fun _ => Eq.refl _⟩
   ·intro a hT
    have hAp := hT.ag ah [(1, .int .i64 p)] ⟨rfl, trivial⟩ (by kernel_rfl)
    exact opk_val hAp rfl (r_move (hAp.get rfl)) fun _ _ e => ⟨_, e, rfl, fun _ => Eq.refl _⟩
   ·intro a hT
    have hAp := hT.ag ah [] trivial (by kernel_rfl)
    have hAp := hAp.add (t := 31) (v := Sl.v aU) (hT.vals 3 rfl 31 rfl)
    have hAp := hAp.add (t := 32) (v := .int .i64 p) (hT.vals 4 rfl 32 rfl)
    exact opk_val hAp rfl (r_indexAddr (hAp.get rfl) (hAp.get rfl) tU31 ti_38 bM.1 bM.2) fun _ _ e => ⟨_, e, rfl, fun _ => Eq.refl _⟩
   ·intro a hT
    have hAp := hT.ag ah [] trivial (by kernel_rfl)
    have hAp := hAp.add (t := 33) (v := .pointer (some (ay.add (p.toNat * 15)))) (hT.vals 5 rfl 33 rfl)
    exact opk_val hAp rfl (r_fieldAddr (hAp.get rfl) Try.underlying38 rfl ti_26 (by decide)) fun _ _ e => ⟨_, e, rfl, fun _ => Eq.refl _⟩
   ·intro a hT
    have hAp := hT.ag ah [] trivial (by kernel_rfl)
    have hAp := hAp.add (t := 34) (v := .pointer (some ((ay.add (p.toNat * 15)).add 5))) (hT.vals 6 rfl 34 rfl)
    exact opk_val hAp rfl (r_loadN Try.underlying26 rfl ti_26 (hAp.get rfl) (dh.ext hT.chg)) fun _ _ e => ⟨_, e, rfl, fun _ => Eq.refl _⟩
   ·intro a hT
    have hAp := hT.ag ah [(0, .pointer (some b))] ⟨rfl, trivial⟩ (by kernel_rfl)
    exact opk_val hAp rfl (r_move (hAp.get rfl)) fun _ _ e => ⟨_, e, rfl, fun _ => Eq.refl _⟩
   ·intro a hT
    have hAp := hT.ag ah [] trivial (by kernel_rfl)
    have hAp := hAp.add (t := 36) (v := .pointer (some b)) (hT.vals 8 rfl 36 rfl)
    exact opk_val hAp rfl (r_nilCheck (hAp.get rfl)) fun _ _ e => ⟨_, e, rfl, fun _ => Eq.refl _⟩
   ·intro a hT
    have hAp := hT.ag ah [] trivial (by kernel_rfl)
    have hAp := hAp.add (t := 37) (v := .pointer (some b)) (hT.vals 9 rfl 37 rfl)
    exact opk_val hAp rfl (r_fieldAddr (hAp.get rfl) Try.underlying91 rfl ti_31 (by decide)) fun _ _ e => ⟨_, e, rfl, fun _ => Eq.refl _⟩
   ·intro a hT
    have hAp := hT.ag ah [] trivial (by kernel_rfl)
    have hAp := hAp.add (t := 38) (v := .pointer (some (b.add 1))) (hT.vals 10 rfl 38 rfl)
    exact opk_val hAp rfl (r_load1 tU31 rfl (hAp.get rfl) (Ext.cell hT.chg di)) fun _ _ e => ⟨_, e, rfl, fun _ => Eq.refl _⟩
   ·intro a hT
    have hAp := hT.ag ah [(5, .int .i64 f)] ⟨rfl, trivial⟩ (by kernel_rfl)
    exact opk_val hAp rfl (r_move (hAp.get rfl)) fun _ _ e => ⟨_, e, rfl, fun _ => Eq.refl _⟩
   ·intro a hT
    have hAp := hT.ag ah [] trivial (by kernel_rfl)
    have hAp := hAp.add (t := 39) (v := Sl.v aM) (hT.vals 11 rfl 39 rfl)
    have hAp := hAp.add (t := 40) (v := .int .i64 f) (hT.vals 12 rfl 40 rfl)
    exact opk_val hAp rfl (r_indexAddr (hAp.get rfl) (hAp.get rfl) tU31 ti_38 bi.1 bi.2) fun _ _ e => ⟨_, e, rfl, fun _ => Eq.refl _⟩
   ·intro a hT
    have hAp := hT.ag ah [] trivial (by kernel_rfl)
    have hAp := hAp.add (t := 41) (v := .pointer (some (au.add (f.toNat * 15)))) (hT.vals 13 rfl 41 rfl)
    exact opk_val hAp rfl (r_fieldAddr (hAp.get rfl) Try.underlying38 rfl ti_26 (by decide)) fun _ _ e => ⟨_, e, rfl, fun _ => Eq.refl _⟩
   ·intro a hT
    have hAp := hT.ag ah [] trivial (by kernel_rfl)
    have hAp := hAp.add (t := 42) (v := .pointer (some ((au.add (f.toNat * 15)).add 5))) (hT.vals 14 rfl 42 rfl)
    exact opk_val hAp rfl (r_loadN Try.underlying26 rfl ti_26 (hAp.get rfl) (dj.ext hT.chg)) fun _ _ e => ⟨_, e, rfl, fun _ => Eq.refl _⟩
   ·intro hb hT
    have hd := hT.ag ah [(0, .pointer (some b)), (1, .int .i64 p), (4, pB j 0), (5, .int .i64 f), (6, pB k 0), (7, pB l 0)] ⟨rfl, rfl, rfl, rfl, rfl, rfl, trivial⟩ (by kernel_rfl)
    have hf : hb.tmps.getD 35 undef = .agg #[.int .i64 aJ, .string (Bs aK), .string (Bs u), Sl.v y, Sl.v aL] := hT.vals 7 rfl 35 rfl
    have cf := hd.add hf
    refine opk_storeF cf cd (r_store (vs := [.int .i64 aJ, .string (Bs aK), .string (Bs u), Sl.v y, Sl.v aL]) (cf.get rfl) (cf.get rfl) rfl ti_26 cd rfl (ones_all _ rfl)) fun dk a6 hh hi => ⟨undef, Eq.refl _, ?_⟩
    have hj : Box dk k 26 [.int .i64 aJ, .string (Bs aK), .string (Bs u), Sl.v y, Sl.v aL] := hh
    have hk := g7.keep a6 (by simpa using g9)
    have hl := dc.keep a6 (by simpa using df.symm)
    have hn : Chg [k] az dk := a6
    have lJ := Chg.cell a6 dg (cell_apart b9 bj)
    have lK := dh.chg a6 (Cells.apart ca bj)
    have dl := Chg.cell a6 di (cell_apart cb bj)
    have dm := dj.chg a6 (Cells.apart cc bj)
    refine PRF_drop (X := [0, 1, 2, 3, 4, 5, 6, 7]) (Fs' := [8, 9, 10, 11, 12, 13, 14, 15]) hi (by kernel_rfl) fun lL ho lM => ?_
    have aI := ho [(0, .pointer (some b)), (4, pB j 0), (5, .int .i64 f), (6, pB k 0), (7, pB l 0)] ⟨rfl, rfl, rfl, rfl, rfl, trivial⟩ (by kernel_rfl)
    refine joinF aI (by kernel_rfl) ⟨fun _ _ _ _ h => h, fun _ _ _ _ h => h, fun _ _ _ _ h => h, fun _ _ _ _ h => h, fun _ _ _ _ h => h, fun _ _ _ _ h => h, fun _ _ _ _ h => h, fun _ _ _ _ h => h, trivial⟩ ⟨?_, ?_, ?_, ?_, ?_, ?_, ?_, ?_, trivial⟩ ?_
    ·intro a w hT
     have hAp := hT.ag aI [(0, .pointer (some b))] ⟨rfl, trivial⟩ (by kernel_rfl)
     exact ovr hAp rfl (r_move (hAp.get rfl)) fun _ => Eq.refl _
    ·intro a w hT
     have hAp := hT.ag aI [] trivial (by kernel_rfl)
     have hAp := hAp.add (t := 36) (v := .pointer (some b)) (hT.vals 8 rfl 36 rfl)
     exact ovr hAp rfl (r_nilCheck (hAp.get rfl)) fun _ => Eq.refl _
    ·intro a w hT
     have hAp := hT.ag aI [] trivial (by kernel_rfl)
     have hAp := hAp.add (t := 37) (v := .pointer (some b)) (hT.vals 9 rfl 37 rfl)
     exact ovr hAp rfl (r_fieldAddr (hAp.get rfl) Try.underlying91 rfl ti_31 (by decide)) fun _ => Eq.refl _
    ·intro a w hT
     have hAp := hT.ag aI [] trivial (by kernel_rfl)
     have hAp := hAp.add (t := 38) (v := .pointer (some (b.add 1))) (hT.vals 10 rfl 38 rfl)
     exact ovr hAp rfl (r_load1 tU31 rfl (hAp.get rfl) (Ext.cell hT.chg dl)) fun _ => Eq.refl _
    ·intro a w hT
     have hAp := hT.ag aI [(5, .int .i64 f)] ⟨rfl, trivial⟩ (by kernel_rfl)
     exact ovr hAp rfl (r_move (hAp.get rfl)) fun _ => Eq.refl _
    ·intro a w hT
     have hAp := hT.ag aI [] trivial (by kernel_rfl)
     have hAp := hAp.add (t := 39) (v := Sl.v aM) (hT.vals 11 rfl 39 rfl)
     have hAp := hAp.add (t := 40) (v := .int .i64 f) (hT.vals 12 rfl 40 rfl)
     exact ovr hAp rfl (r_indexAddr (hAp.get rfl) (hAp.get rfl) tU31 ti_38 bi.1 bi.2) fun _ => Eq.refl _
    ·intro a w hT
     have hAp := hT.ag aI [] trivial (by kernel_rfl)
     have hAp := hAp.add (t := 41) (v := .pointer (some (au.add (f.toNat * 15)))) (hT.vals 13 rfl 41 rfl)
     exact ovr hAp rfl (r_fieldAddr (hAp.get rfl) Try.underlying38 rfl ti_26 (by decide)) fun _ => Eq.refl _
    ·intro a w hT
     have hAp := hT.ag aI [] trivial (by kernel_rfl)
     have hAp := hAp.add (t := 42) (v := .pointer (some ((au.add (f.toNat * 15)).add 5))) (hT.vals 14 rfl 42 rfl)
     exact ovr hAp rfl (r_loadN Try.underlying26 rfl ti_26 (hAp.get rfl) (dm.ext hT.chg)) fun _ => Eq.refl _
    ·intro hp lN bk hq hs
     have ht := hq [(0, .pointer (some b)), (4, pB j 0), (5, .int .i64 f), (6, pB k 0), (7, pB l 0)] ⟨rfl, rfl, rfl, rfl, rfl, trivial⟩ (by kernel_rfl)
     have hu : hp.tmps.getD 43 undef = .agg #[.int .i64 aN, .string (Bs aO), .string (Bs x), Sl.v r, Sl.v aP] := hs 15 rfl 43 rfl
     have cg := ht.add hu
     have hv := hk.ext bk
     have hx := hj.ext bk
     have dn := hl.ext bk
     have hy := hn.more bk
     have lO := Ext.cell bk dl
     have lP := dm.ext bk
     refine one (D := [[], [0], [0, 1], [0, 1, 2], [], [0, 1, 2, 3, 4], [0, 1, 2, 3, 4, 5], [0, 1, 2, 3, 4, 5, 6], [], [8], [8, 9], [8, 9, 10], [], [8, 9, 10, 11, 12], [8, 9, 10, 11, 12, 13], [8, 9, 10, 11, 12, 13, 14], [], [], [0, 1, 2, 3, 4, 5, 6, 7, 16, 17], [0, 1, 2, 3, 4, 5, 6, 7, 8, 9, 10, 11, 12, 13, 14, 15, 16, 17, 18]]) (i := 19) rfl (by kernel_rfl) (opk_store cg dn (r_store (vs := [.int .i64 aN, .string (Bs aO), .string (Bs x), Sl.v r, Sl.v aP]) (cg.get rfl) (cg.get rfl) rfl ti_26 dn rfl (ones_all _ rfl)) fun lQ hz ch hA hC => ?_)
     have ci : Box hz l 26 [.int .i64 aN, .string (Bs aO), .string (Bs x), Sl.v r, Sl.v aP] := hA
     have dp := hv.keep ch (by simpa using ha)
     have cj := hx.keep ch (by simpa using df)
     have dq := hy.storeOld ch
     refine PR_end (by kernel_rfl) ?_
     have dr := hC.kp [(0, .pointer (some b)), (4, pB j 0), (5, .int .i64 f), (6, pB k 0), (7, pB l 0)] rfl
     refine then_normal (wp_seq (wp_region_lit ?_))
     refine sqv dr rfl (r_fieldAddr (dr.get rfl) Try.underlying26 rfl ti_9 (by decide)) fun _ ds => sqv ds rfl (r_load1 tU9 rfl (ds.get rfl) (cj.cell 2 _ rfl)) fun _ dt => sqv dt rfl (r_fieldAddr (dt.get rfl) Try.underlying26 rfl ti_9 (by decide)) fun _ du => sqv du rfl (r_load1 tU9 rfl (du.get rfl) (ci.cell 2 _ rfl)) fun _ ck => sqv ck rfl (r_sneq (ck.get rfl) (ck.get rfl)) fun _ dv => sqv dv rfl (r_build (vs := #[(1, .bool (decide (u ≠ x))), (4, .int .i64 (-1))]) (cells := #[.bool false, .bool (decide (u ≠ x)), Sl.v Sl.nil, Sl.v Sl.nil, .int .i64 (-1), Sl.v Sl.nil]) (map_arr2 (ml2_cons (dv.get rfl) (ml2_cons rfl (ml2_nil)))) ti_93 Try.underlying93 pl_93 (by kernel_rfl)) fun _ hD => ?_
     refine sq (opk_new (fun B => .pointer (some ⟨B, 0, none⟩)) hD rfl (r_alloc (cs := [.bool false, .bool false, Sl.v Sl.nil, Sl.v Sl.nil, .int .i64 0, Sl.v Sl.nil]) ti_93 rfl) fun lR lS d bN bO dx cl _ => ?_)
     have bl : j ≠ d := Nat.ne_of_lt (Nat.lt_of_lt_of_le dp.lt bO.ge)
     have cm : k ≠ d := Nat.ne_of_lt (Nat.lt_of_lt_of_le cj.lt bO.ge)
     have cn : l ≠ d := Nat.ne_of_lt (Nat.lt_of_lt_of_le ci.lt bO.ge)
     have dy := New.of dq bO
     have hF := dp.ext bN
     have hG := cj.ext bN
     have hH := ci.ext bN
     have hI := dq.more bN
     refine sq (opk_store cl dx (r_store (vs := [.bool false, .bool (decide (u ≠ x)), Sl.v Sl.nil, Sl.v Sl.nil, .int .i64 (-1), Sl.v Sl.nil]) (cl.get rfl) (cl.get rfl) rfl ti_93 dx rfl (ones_all _ rfl)) fun lT aV bt hJ hK => ?_)
     have hL : Box aV d 93 [.bool false, .bool (decide (u ≠ x)), Sl.v Sl.nil, Sl.v Sl.nil, .int .i64 (-1), Sl.v Sl.nil] := hJ
     have hM := hF.keep bt (by simpa using bl)
     have hN := hG.keep bt (by simpa using cm)
     have hO := hH.keep bt (by simpa using cn)
     have hP := hI.storeNew dy bt
     have hQ := dy.up bt.size
     refine sq_end ?_
     have hS := hK.kp [(0, .pointer (some b)), (4, pB j 0), (5, .int .i64 f), (6, pB k 0), (7, pB l 0), (8, pB d 0)] rfl
     refine then_normal (wp_seq (wp_seq (wp_region_lit ?_)))
     refine sqv hS rfl (r_assign rfl) fun _ hU => sq_end ?_
     have hV := hU.kp [(0, .pointer (some b)), (4, pB j 0), (5, .int .i64 f), (6, pB k 0), (7, pB l 0), (8, pB d 0), (9, .int .i64 0)] rfl
     refine then_normal (wp_block ?_)
     have hX := g8 aV d hQ  hP
     obtain ⟨a8, a9, hY, hZ⟩ := hX
     refine wp_loop_st (σ := Int × Sl × World) (fun s a w => Ag 148 a [(0, .pointer (some b)), (4, pB j 0), (5, .int .i64 f), (6, pB k 0), (7, pB l 0), (8, pB d 0), (9, .int .i64 s.1)] ∧ Box w j 93 [.bool false, .bool false, Sl.v Sl.nil, Sl.v Sl.nil, .int .i64 0, Sl.v Sl.nil] ∧ Box w k 26 [.int .i64 aJ, .string (Bs aK), .string (Bs u), Sl.v y, Sl.v aL] ∧ Box w l 26 [.int .i64 aN, .string (Bs aO), .string (Bs x), Sl.v r, Sl.v aP] ∧ Box w d 93 [.bool false, .bool (decide (u ≠ x)), Sl.v s.2.1, Sl.v Sl.nil, .int .i64 (-1), Sl.v Sl.nil] ∧ w = s.2.2 ∧ a8 s.1 s.2.1 s.2.2) (fun s => a9 s.1 s.2.1 s.2.2) (0, Sl.nil, aV) ⟨hV.kp [(0, .pointer (some b)), (4, pB j 0), (5, .int .i64 f), (6, pB k 0), (7, pB l 0), (8, pB d 0), (9, .int .i64 0)] rfl, hM, hN, hO, hL, rfl, hY⟩ ?_
     rintro ⟨m, z, aA⟩ lU w_ ⟨dz, dA, dB, co, dC, hw_, h0⟩
     have hw_ : aA = w_ := hw_.symm
     subst hw_
     have dD := hZ m z _ h0
     refine wp_seq (wp_seq (wp_region_lit ?_))
     refine sqv dz rfl (r_move (dz.get rfl)) fun _ dF => sqv dF rfl (r_fieldAddr (dF.get rfl) Try.underlying26 rfl ti_23 (by decide)) fun _ dG => sqv dG rfl (r_load1 tU23 rfl (dG.get rfl) (co.cell 3 _ rfl)) fun _ dH => sqv dH rfl (r_len (dH.get rfl) tU23) fun _ cp => sqv cp rfl (r_lss (cp.get rfl) (cp.get rfl)) fun _ h1 => sq_end ?_
     have ai := h1.kp [(0, .pointer (some b)), (4, pB j 0), (5, .int .i64 f), (6, pB k 0), (7, pB l 0), (8, pB d 0), (9, .int .i64 m), (54, .bool (decide (m < (r.n : Int))))] rfl
     refine then_normal ?_
     refine wp_cond_split (ai.get rfl) (fun hc => ?_) (fun hc => ?_)
     ·have h2 := dD.1 (of_decide_eq_true hc)
      clear hc
      refine wp_skip ?_
      refine then_normal (wp_seq (wp_block (wp_seq ?_)))
      refine draw' (by kernel_rfl) fun aQ bu => ?_
      have h3 := dA.ext bu
      have dI := dB.ext bu
      have dJ := co.ext bu
      have h4 := dC.ext bu
      have h5 : Chg [] aA aQ := bu
      have h6 := h2 aQ    h5
      obtain ⟨aX, dK, h7⟩ := h6
      obtain ⟨ba, h8, h9⟩ := h7
      obtain ⟨ak, q, ia, ib⟩ := h9
      refine par (D := [[], [0], [], [2], [], [2, 3, 4], [2, 3, 4, 5], [2, 3, 4, 5, 6], [0, 1, 2, 3, 4, 5, 6, 7], [0, 1, 2, 3, 4, 5, 6, 7, 8], [0, 1, 2, 3, 4, 5, 6, 7, 8, 9], [0, 1, 2, 3, 4, 5, 6, 7, 8, 9], [0, 1, 2, 3, 4, 5, 6, 7, 8, 9, 10], [0, 1, 2, 3, 4, 5, 6, 7, 8, 9, 10, 11, 12]]) (S := [0, 1, 2, 3, 4, 5, 6, 7, 8, 9, 10, 11, 12, 13]) (F := []) (V := VL [(0, fun v _ => v = pB k 3), (1, fun v _ => v = Sl.v y), (2, fun v _ => v = pB l 3), (3, fun v _ => v = Sl.v r), (4, fun v _ => v = .int .i64 m), (5, fun v _ => v = .pointer (some (aX.add (m.toNat * 2)))), (6, fun v _ => v = .pointer (some ((aX.add (m.toNat * 2)).add 0))), (7, fun v _ => v = .string (Bs ba)), (8, fun v _ => v = .tuple #[.string (Bs ak), .bool q]), (9, fun v _ => v = .tuple #[.string (Bs ak), .bool q]), (10, fun v _ => v = .string (Bs ak)), (11, fun v _ => v = .bool q), (12, fun v _ => v = .string (Bs ak)), (13, fun v _ => v = .bool q)]) ai (by kernel_rfl) ⟨fun _ _ _ _ h => h, fun _ _ _ _ h => h, fun _ _ _ _ h => h, fun _ _ _ _ h => h, fun _ _ _ _ h => h, fun _ _ _ _ h => h, fun _ _ _ _ h => h, fun _ _ _ _ h => h, fun _ _ _ _ h => h, fun _ _ _ _ h => h, fun _ _ _ _ h => h, fun _ _ _ _ h => h, fun _ _ _ _ h => h, fun _ _ _ _ h => h, trivial⟩ ⟨?_, ?_, ?_, ?_, ?_, ?_, ?_, ?_, ?_, ?_, ?_, ?_, ?_, ?_, trivial⟩ ?_
      ·intro a w hT
       have hAp := hT.ag ai [(6, pB k 0)] ⟨rfl, trivial⟩ (by kernel_rfl)
       exact ovr hAp rfl (r_fieldAddr (hAp.get rfl) Try.underlying26 rfl ti_23 (by decide)) fun _ => Eq.refl _
      ·intro a w hT
       have hAp := hT.ag ai [] trivial (by kernel_rfl)
       have hAp := hAp.add (t := 58) (v := pB k 3) (hT.vals 0 rfl 58 rfl)
       exact ovr hAp rfl (r_load1 tU23 rfl (hAp.get rfl) ((dI.ext hT.chg).cell 3 _ rfl)) fun _ => Eq.refl _
      ·intro a w hT
       have hAp := hT.ag ai [(7, pB l 0)] ⟨rfl, trivial⟩ (by kernel_rfl)
       exact ovr hAp rfl (r_fieldAddr (hAp.get rfl) Try.underlying26 rfl ti_23 (by decide)) fun _ => Eq.refl _
      ·intro a w hT
       have hAp := hT.ag ai [] trivial (by kernel_rfl)
       have hAp := hAp.add (t := 60) (v := pB l 3) (hT.vals 2 rfl 60 rfl)
       exact ovr hAp rfl (r_load1 tU23 rfl (hAp.get rfl) ((dJ.ext hT.chg).cell 3 _ rfl)) fun _ => Eq.refl _
      ·intro a w hT
       have hAp := hT.ag ai [(9, .int .i64 m)] ⟨rfl, trivial⟩ (by kernel_rfl)
       exact ovr hAp rfl (r_move (hAp.get rfl)) fun _ => Eq.refl _
      ·intro a w hT
       have hAp := hT.ag ai [] trivial (by kernel_rfl)
       have hAp := hAp.add (t := 61) (v := Sl.v r) (hT.vals 3 rfl 61 rfl)
       have hAp := hAp.add (t := 62) (v := .int .i64 m) (hT.vals 4 rfl 62 rfl)
       exact ovr hAp rfl (r_indexAddr (hAp.get rfl) (hAp.get rfl) tU23 ti_47 dK.1 dK.2) fun _ => Eq.refl _
      ·intro a w hT
       have hAp := hT.ag ai [] trivial (by kernel_rfl)
       have hAp := hAp.add (t := 63) (v := .pointer (some (aX.add (m.toNat * 2)))) (hT.vals 5 rfl 63 rfl)
       exact ovr hAp rfl (r_fieldAddr (hAp.get rfl) Try.underlying47 rfl ti_9 (by decide)) fun _ => Eq.refl _
      ·intro a w hT
       have hAp := hT.ag ai [] trivial (by kernel_rfl)
       have hAp := hAp.add (t := 64) (v := .pointer (some ((aX.add (m.toNat * 2)).add 0))) (hT.vals 6 rfl 64 rfl)
       exact ovr hAp rfl (r_load1 tU9 rfl (hAp.get rfl) (Ext.cell hT.chg h8)) fun _ => Eq.refl _
      ·intro a w hT
       have hAp := hT.ag ai [] trivial (by kernel_rfl)
       have hAp := hAp.add (t := 59) (v := Sl.v y) (hT.vals 1 rfl 59 rfl)
       have hAp := hAp.add (t := 65) (v := .string (Bs ba)) (hT.vals 7 rfl 65 rfl)
       exact opk_callX hAp rfl (r_call (args := #[Sl.v y, .string (Bs ba)]) Try.func13 (by decide) rfl (map_arr (ml_cons (hAp.get rfl) (ml_cons (hAp.get rfl) ml_nil))) rfl) (ia w hT.chg) fun _ _ _ _ e hR => ⟨_, e, hR.1, fun _ => hR.2⟩
      ·intro a w hT
       have hAp := hT.ag ai [] trivial (by kernel_rfl)
       have hAp := hAp.add (t := 66) (v := .tuple #[.string (Bs ak), .bool q]) (hT.vals 8 rfl 66 rfl)
       exact ovr hAp rfl (r_move (hAp.get rfl)) fun _ => Eq.refl _
      ·intro a w hT
       have hAp := hT.ag ai [] trivial (by kernel_rfl)
       have hAp := hAp.add (t := 57) (v := .tuple #[.string (Bs ak), .bool q]) (hT.vals 9 rfl 57 rfl)
       exact ovr hAp rfl (r_extract (hAp.get rfl) rfl) fun _ => Eq.refl _
      ·intro a w hT
       have hAp := hT.ag ai [] trivial (by kernel_rfl)
       have hAp := hAp.add (t := 57) (v := .tuple #[.string (Bs ak), .bool q]) (hT.vals 9 rfl 57 rfl)
       exact ovr hAp rfl (r_extract (hAp.get rfl) rfl) fun _ => Eq.refl _
      ·intro a w hT
       have hAp := hT.ag ai [] trivial (by kernel_rfl)
       have hAp := hAp.add (t := 67) (v := .string (Bs ak)) (hT.vals 10 rfl 67 rfl)
       exact ovr hAp rfl (r_assign (hAp.get rfl)) fun _ => Eq.refl _
      ·intro a w hT
       have hAp := hT.ag ai [] trivial (by kernel_rfl)
       have hAp := hAp.add (t := 68) (v := .bool q) (hT.vals 11 rfl 68 rfl)
       exact ovr hAp rfl (r_assign (hAp.get rfl)) fun _ => Eq.refl _
      ·intro dL av bv id dM
       have ig := id [(0, .pointer (some b)), (4, pB j 0), (5, .int .i64 f), (6, pB k 0), (7, pB l 0), (8, pB d 0), (9, .int .i64 m)] ⟨rfl, rfl, rfl, rfl, rfl, rfl, rfl, trivial⟩ (by kernel_rfl)
       have ih : dL.tmps.getD 10 undef = .string (Bs ak) := dM 12 rfl 10 rfl
       have ii := ig.add ih
       have ij : dL.tmps.getD 11 undef = .bool q := dM 13 rfl 11 rfl
       have ik := ii.add ij
       have dN := h3.ext bv
       have dO := dI.ext bv
       have cq := dJ.ext bv
       have dP := h4.ext bv
       have il : Chg [] aQ av := bv
       refine PR_end (by kernel_rfl) ?_
       have dQ := ik.kp [(0, .pointer (some b)), (4, pB j 0), (5, .int .i64 f), (6, pB k 0), (7, pB l 0), (8, pB d 0), (9, .int .i64 m), (10, .string (Bs ak)), (11, .bool q)] rfl
       refine then_normal (wp_seq (wp_region_lit ?_))
       refine sqv dQ rfl (r_move (dQ.get rfl)) fun _ dR => sqv dR rfl (r_not (dR.get rfl)) fun _ dS => sqv dS rfl (r_move (dS.get rfl)) fun _ dT => ?_
       refine sq (opk_gval dT rfl rfl (g := true) (e := (!q)) rfl (fun hg => r_move (dT.get rfl)) fun lV dU _ => ?_)
       refine sq (opk_gval dU rfl rfl (g := true) (e := (!q)) rfl (fun hg => r_fieldAddr (dU.get rfl) Try.underlying26 rfl ti_23 (by decide)) fun lX dV _ => ?_)
       refine sq (opk_gval dV rfl rfl (g := true) (e := (!q)) rfl (fun hg => r_load1 tU23 rfl (cv_get (dV.get rfl) hg) (cq.cell 3 _ rfl)) fun lY dX _ => ?_)
       refine sq (opk_gval dX rfl rfl (g := true) (e := (!q)) rfl (fun hg => r_move (dX.get rfl)) fun lZ cr _ => ?_)
       obtain ⟨bY, dY, im⟩ := ib
       refine sq (opk_gval cr rfl rfl (g := true) (e := (!q)) rfl (fun hg => r_indexAddr (cv_get (cr.get rfl) hg) (cv_get (cr.get rfl) hg) tU23 ti_47 (dY (b_not_f (g_f hg))).1 (dY (b_not_f (g_f hg))).2) fun l0 dZ _ => ?_)
       refine sq (opk_gval dZ rfl rfl (g := true) (e := (!q)) rfl (fun hg => r_fieldAddr (cv_get (dZ.get rfl) hg) Try.underlying47 rfl ti_9 (by decide)) fun l1 d0 _ => ?_)
       have io := im av    il
       obtain ⟨bo, ip, d1⟩ := io
       refine sq (opk_gval d0 rfl rfl (g := true) (e := (!q)) rfl (fun hg => r_load1 tU9 rfl (cv_get (d0.get rfl) hg) (ip (b_not_f (g_f hg)))) fun l2 ct _ => ?_)
       refine sq (opk_gval ct rfl rfl (g := true) (e := (!q)) rfl (fun hg => r_sneq (cv_get (ct.get rfl) hg) (cv_get (ct.get rfl) hg)) fun l3 cu _ => ?_)
       refine sqv cu rfl (r_pick_or (g := (true && ((!q) == false))) (cu.get rfl) (cu.get rfl) (fun he => g_mkf rfl he)) fun _ iq => sq_end ?_
       have ar := iq.kp [(0, .pointer (some b)), (4, pB j 0), (5, .int .i64 f), (6, pB k 0), (7, pB l 0), (8, pB d 0), (9, .int .i64 m), (80, .bool ((!q) || (decide (ak ≠ bo))))] rfl
       refine then_normal ?_
       refine wp_cond_split (ar.get rfl) (fun hc => ?_) (fun hc => ?_)
       ·have ir := d1.1 ((b_or_t hc).imp (fun h => (b_not_t h)) (fun h => (of_decide_eq_true h)))
        clear hc
        refine draw' (by kernel_rfl) fun aB bx => ?_
        have d2 := dN.ext bx
        have d3 := dO.ext bx
        have cv := cq.ext bx
        have cx := dP.ext bx
        have it : Chg [] av aB := bx
        have iu := ir aB    it
        obtain ⟨bp, d4, iv⟩ := iu
        obtain ⟨aC, aD, ix, iy⟩ := iv
        refine par (D := [[], [0], [], [2], [], [2, 3, 4], [2, 3, 4, 5], [2, 3, 4, 5, 6], [0, 1, 2, 3, 4, 5, 6, 7], [0, 1, 2, 3, 4, 5, 6, 7, 8], [0, 1, 2, 3, 4, 5, 6, 7, 8, 9]]) (S := [0, 1, 2, 3, 4, 5, 6, 7]) (F := []) (V := VL [(0, fun v _ => v = pB d 2), (1, fun v _ => v = Sl.v z), (2, fun v _ => v = pB l 3), (3, fun v _ => v = Sl.v r), (4, fun v _ => v = .int .i64 m), (5, fun v _ => v = .pointer (some (bp.add (m.toNat * 2)))), (6, fun v _ => v = .agg #[.string (Bs aC), .string (Bs aD)]), (7, fun v w' => ∃ ad : Nat, aB.heap.size ≤ ad ∧ Box w' ad 47 [.string (Bs aC), .string (Bs aD)] ∧ v = Sl.v (Sl.mk (some ⟨ad, 0, none⟩) 1 1))]) ar (by kernel_rfl) ⟨fun _ _ _ _ h => h, fun _ _ _ _ h => h, fun _ _ _ _ h => h, fun _ _ _ _ h => h, fun _ _ _ _ h => h, fun _ _ _ _ h => h, fun _ _ _ _ h => h, fun _ _ _ hE ⟨ad, h0_, h1_, e⟩ => ⟨ad, h0_, (h1_.ext hE), e⟩, trivial⟩ ⟨?_, ?_, ?_, ?_, ?_, ?_, ?_, ?_, trivial⟩ ?_
        ·intro a w hT
         have hAp := hT.ag ar [(8, pB d 0)] ⟨rfl, trivial⟩ (by kernel_rfl)
         exact ovr hAp rfl (r_fieldAddr (hAp.get rfl) Try.underlying93 rfl ti_23 (by decide)) fun _ => Eq.refl _
        ·intro a w hT
         have hAp := hT.ag ar [] trivial (by kernel_rfl)
         have hAp := hAp.add (t := 81) (v := pB d 2) (hT.vals 0 rfl 81 rfl)
         exact ovr hAp rfl (r_load1 tU23 rfl (hAp.get rfl) ((cx.ext hT.chg).cell 2 _ rfl)) fun _ => Eq.refl _
        ·intro a w hT
         have hAp := hT.ag ar [(7, pB l 0)] ⟨rfl, trivial⟩ (by kernel_rfl)
         exact ovr hAp rfl (r_fieldAddr (hAp.get rfl) Try.underlying26 rfl ti_23 (by decide)) fun _ => Eq.refl _
        ·intro a w hT
         have hAp := hT.ag ar [] trivial (by kernel_rfl)
         have hAp := hAp.add (t := 83) (v := pB l 3) (hT.vals 2 rfl 83 rfl)
         exact ovr hAp rfl (r_load1 tU23 rfl (hAp.get rfl) ((cv.ext hT.chg).cell 3 _ rfl)) fun _ => Eq.refl _
        ·intro a w hT
         have hAp := hT.ag ar [(9, .int .i64 m)] ⟨rfl, trivial⟩ (by kernel_rfl)
         exact ovr hAp rfl (r_move (hAp.get rfl)) fun _ => Eq.refl _
        ·intro a w hT
         have hAp := hT.ag ar [] trivial (by kernel_rfl)
         have hAp := hAp.add (t := 84) (v := Sl.v r) (hT.vals 3 rfl 84 rfl)
         have hAp := hAp.add (t := 85) (v := .int .i64 m) (hT.vals 4 rfl 85 rfl)
         exact ovr hAp rfl (r_indexAddr (hAp.get rfl) (hAp.get rfl) tU23 ti_47 d4.1 d4.2) fun _ => Eq.refl _
        ·intro a w hT
         have hAp := hT.ag ar [] trivial (by kernel_rfl)
         have hAp := hAp.add (t := 86) (v := .pointer (some (bp.add (m.toNat * 2)))) (hT.vals 5 rfl 86 rfl)
         exact ovr hAp rfl (r_loadN Try.underlying47 rfl ti_47 (hAp.get rfl) (ix.ext hT.chg)) fun _ => Eq.refl _
        ·intro a w hT
         have hAp := hT.ag ar [] trivial (by kernel_rfl)
         have hAp := hAp.add (t := 87) (v := .agg #[.string (Bs aC), .string (Bs aD)]) (hT.vals 6 rfl 87 rfl)
         exact opk_new (fun B => .slice (some ⟨B, 0, none⟩) 1 1) hAp rfl (r_buildSlice (vs := #[(0, .agg #[.string (Bs aC), .string (Bs aD)])]) (cs := [.string (Bs aC), .string (Bs aD)]) (map_arr2 (ml2_cons (hAp.get rfl) (ml2_nil))) tU23 ti_47 rfl rfl (by kernel_rfl)) fun _ l4 ad iz iA iB _ e => ⟨_, e, iz, fun _ => ⟨ad, Nat.le_trans hT.chg.size iA.ge, iB, rfl⟩⟩
        ·intro iC aY bm iD d5
         have iF := iD [(0, .pointer (some b)), (4, pB j 0), (5, .int .i64 f), (6, pB k 0), (7, pB l 0), (8, pB d 0), (9, .int .i64 m)] ⟨rfl, rfl, rfl, rfl, rfl, rfl, rfl, trivial⟩ (by kernel_rfl)
         have iG : iC.tmps.getD 82 undef = Sl.v z := d5 1 rfl 82 rfl
         have iH := iF.add iG
         obtain ⟨ad, bz, d6, iI⟩ := d5 7 rfl 88 rfl
         have cy := iH.add iI
         have iJ := d2.ext bm
         have iK := d3.ext bm
         have iL := cv.ext bm
         have iM := cx.ext bm
         have l5 : Chg [] aB aY := bm
         have iN := iy aY ad bm bz d6
         have l6 : j ≠ ad := Nat.ne_of_lt (Nat.lt_of_lt_of_le d2.lt bz)
         have l7 : k ≠ ad := Nat.ne_of_lt (Nat.lt_of_lt_of_le d3.lt bz)
         have l8 : l ≠ ad := Nat.ne_of_lt (Nat.lt_of_lt_of_le cv.lt bz)
         have l9 : d ≠ ad := Nat.ne_of_lt (Nat.lt_of_lt_of_le cx.lt bz)
         have iO := iN d6
         refine one (D := [[], [0], [], [2], [], [2, 3, 4], [2, 3, 4, 5], [2, 3, 4, 5, 6], [0, 1, 2, 3, 4, 5, 6, 7], [0, 1, 2, 3, 4, 5, 6, 7, 8], [0, 1, 2, 3, 4, 5, 6, 7, 8, 9]]) (i := 8) rfl (by kernel_rfl) (opk_run cy rfl (fun _ _ hr => r_append (cy.get rfl) (cy.get rfl) hr) iO fun ma mb bZ d7 _ bP mc iP => ?_)
         obtain ⟨aR, rfl, iQ⟩ := iP
         have iR := iJ.kept bP (.head _)
         have iS := iK.kept bP (.tail _ (.head _))
         have iT := iL.kept bP (.tail _ (.tail _ (.head _)))
         have iU := iM.kept bP (.tail _ (.tail _ (.tail _ (.head _))))
         refine par (D := [[], [0], [], [2], [], [2, 3, 4], [2, 3, 4, 5], [2, 3, 4, 5, 6], [0, 1, 2, 3, 4, 5, 6, 7], [0, 1, 2, 3, 4, 5, 6, 7, 8], [0, 1, 2, 3, 4, 5, 6, 7, 8, 9]]) (S := [9]) (F := []) (V := VL [(9, fun v _ => v = pB d 2)]) d7 (by kernel_rfl) ⟨fun _ _ _ _ h => h, trivial⟩ ⟨?_, trivial⟩ ?_
         ·intro a w hT
          have hAp := hT.ag d7 [(8, pB d 0)] ⟨rfl, trivial⟩ (by kernel_rfl)
          exact ovr hAp rfl (r_fieldAddr (hAp.get rfl) Try.underlying93 rfl ti_23 (by decide)) fun _ => Eq.refl _
         ·intro iV iX bA iY iZ
          have i0 := iY [(0, .pointer (some b)), (4, pB j 0), (5, .int .i64 f), (6, pB k 0), (7, pB l 0), (8, pB d 0), (9, .int .i64 m), (89, Sl.v aR)] ⟨rfl, rfl, rfl, rfl, rfl, rfl, rfl, rfl, trivial⟩ (by kernel_rfl)
          have i1 : iV.tmps.getD 90 undef = pB d 2 := iZ 9 rfl 90 rfl
          have cz := i0.add i1
          have i2 := iR.ext bA
          have i3 := iS.ext bA
          have i4 := iT.ext bA
          have d8 := iU.ext bA
          have i5 : Chg [] bZ iX := bA
          refine one (D := [[], [0], [], [2], [], [2, 3, 4], [2, 3, 4, 5], [2, 3, 4, 5, 6], [0, 1, 2, 3, 4, 5, 6, 7], [0, 1, 2, 3, 4, 5, 6, 7, 8], [0, 1, 2, 3, 4, 5, 6, 7, 8, 9]]) (i := 10) rfl (by kernel_rfl) (opk_store cz d8 (r_store (vs := [Sl.v aR]) (cz.get rfl) (cz.get rfl) rfl ti_23 d8 rfl (ones_all _ rfl)) fun md aZ bQ i6 i7 => ?_)
          have i8 : Box aZ d 93 [.bool false, .bool (decide (u ≠ x)), Sl.v aR, Sl.v Sl.nil, .int .i64 (-1), Sl.v Sl.nil] := i6
          have i9 := i2.keep bQ (by simpa using bl)
          have ja := i3.keep bQ (by simpa using cm)
          have jb := i4.keep bQ (by simpa using cn)
          have jc := i5.storeOld bQ
          refine PR_end (by kernel_rfl) ?_
          have d9 := i7.kp [(0, .pointer (some b)), (4, pB j 0), (5, .int .i64 f), (6, pB k 0), (7, pB l 0), (8, pB d 0), (9, .int .i64 m)] rfl
          refine block_normal ?_
          refine then_normal (wp_region_lit ?_)
          refine sqv d9 rfl (r_move (d9.get rfl)) fun _ fa => ?_
          obtain ⟨jd, jf⟩ := iQ
          refine sqv fa rfl (r_addI (fa.get rfl) rfl jd) fun _ fb => sqv fb rfl (r_assign (fb.get rfl)) fun _ jg => sq_end ?_
          have jh := jg.kp [(0, .pointer (some b)), (4, pB j 0), (5, .int .i64 f), (6, pB k 0), (7, pB l 0), (8, pB d 0), (9, .int .i64 (m + 1))] rfl
          have fc := jf aZ    jc
          have ji := jh.kp [(0, .pointer (some b)), (4, pB j 0), (5, .int .i64 f), (6, pB k 0), (7, pB l 0), (8, pB d 0), (9, .int .i64 (m + 1))] rfl
          exact then_normal ⟨(m + 1, aR, aZ), ⟨ji, i9, ja, jb, i8, rfl, fc.1⟩, fc.2⟩
       ·have jj := d1.2 ⟨(b_not_f (b_or_f hc).1), (of_decide_eq_false (b_or_f hc).2)⟩
        clear hc
        refine wp_skip ?_
        refine block_normal ?_
        refine then_normal (wp_region_lit ?_)
        refine sqv ar rfl (r_move (ar.get rfl)) fun _ fd => ?_
        obtain ⟨jk, ff⟩ := jj
        refine sqv fd rfl (r_addI (fd.get rfl) rfl jk) fun _ fg => sqv fg rfl (r_assign (fg.get rfl)) fun _ jl => sq_end ?_
        have jm := jl.kp [(0, .pointer (some b)), (4, pB j 0), (5, .int .i64 f), (6, pB k 0), (7, pB l 0), (8, pB d 0), (9, .int .i64 (m + 1))] rfl
        have jn := jm.kp [(0, .pointer (some b)), (4, pB j 0), (5, .int .i64 f), (6, pB k 0), (7, pB l 0), (8, pB d 0), (9, .int .i64 (m + 1))] rfl
        exact then_normal ⟨(m + 1, z, av), ⟨jn, dN, dO, cq, dP, rfl, ff.1⟩, ff.2⟩
     ·have jo := dD.2 (of_decide_eq_false hc)
      clear hc
      refine wp_exit ?_
      refine then_exit ?_
      refine then_exit ?_
      refine block_hit ?_
      have jp := ai.kp [(0, .pointer (some b)), (4, pB j 0), (5, .int .i64 f), (6, pB k 0), (7, pB l 0), (8, pB d 0)] rfl
      refine then_normal (wp_seq (wp_seq (wp_region_lit ?_)))
      refine sqv jp rfl (r_assign rfl) fun _ jq => sq_end ?_
      have jr := jq.kp [(0, .pointer (some b)), (4, pB j 0), (5, .int .i64 f), (6, pB k 0), (7, pB l 0), (8, pB d 0), (12, .int .i64 0)] rfl
      refine then_normal (wp_block ?_)
      obtain ⟨bb, bd, js, jt⟩ := jo
      refine wp_loop_st (σ := Int × Sl × World) (fun s a w => Ag 148 a [(0, .pointer (some b)), (4, pB j 0), (5, .int .i64 f), (6, pB k 0), (7, pB l 0), (8, pB d 0), (12, .int .i64 s.1)] ∧ Box w j 93 [.bool false, .bool false, Sl.v Sl.nil, Sl.v Sl.nil, .int .i64 0, Sl.v Sl.nil] ∧ Box w k 26 [.int .i64 aJ, .string (Bs aK), .string (Bs u), Sl.v y, Sl.v aL] ∧ Box w l 26 [.int .i64 aN, .string (Bs aO), .string (Bs x), Sl.v r, Sl.v aP] ∧ Box w d 93 [.bool false, .bool (decide (u ≠ x)), Sl.v z, Sl.v s.2.1, .int .i64 (-1), Sl.v Sl.nil] ∧ w = s.2.2 ∧ bb s.1 s.2.1 s.2.2) (fun s => bd s.1 s.2.1 s.2.2) (0, Sl.nil, aA) ⟨jr.kp [(0, .pointer (some b)), (4, pB j 0), (5, .int .i64 f), (6, pB k 0), (7, pB l 0), (8, pB d 0), (12, .int .i64 0)] rfl, dA, dB, co, dC, rfl, js⟩ ?_
      rintro ⟨o, ab, ao⟩ mf w_ ⟨fh, cA, fi, ju, cB, hw_, jv⟩
      have hw_ : ao = w_ := hw_.symm
      subst hw_
      have fj := jt o ab _ jv
      refine wp_seq (wp_seq (wp_region_lit ?_))
      refine sqv fh rfl (r_move (fh.get rfl)) fun _ fk => sqv fk rfl (r_fieldAddr (fk.get rfl) Try.underlying26 rfl ti_23 (by decide)) fun _ fl => sqv fl rfl (r_load1 tU23 rfl (fl.get rfl) (fi.cell 3 _ rfl)) fun _ fm => sqv fm rfl (r_len (fm.get rfl) tU23) fun _ cC => sqv cC rfl (r_lss (cC.get rfl) (cC.get rfl)) fun _ jx => sq_end ?_
      have aj := jx.kp [(0, .pointer (some b)), (4, pB j 0), (5, .int .i64 f), (6, pB k 0), (7, pB l 0), (8, pB d 0), (12, .int .i64 o), (95, .bool (decide (o < (y.n : Int))))] rfl
      refine then_normal ?_
      refine wp_cond_split (aj.get rfl) (fun hc => ?_) (fun hc => ?_)
      ·have jy := fj.1 (of_decide_eq_true hc)
       clear hc
       refine wp_skip ?_
       refine then_normal (wp_seq (wp_block (wp_seq ?_)))
       refine draw' (by kernel_rfl) fun aF bB => ?_
       have jz := cA.ext bB
       have fn := fi.ext bB
       have fo := ju.ext bB
       have jA := cB.ext bB
       have jB : Chg [] ao aF := bB
       have jC := jy aF    jB
       obtain ⟨p_1130, fp, jD⟩ := jC
       obtain ⟨bf, jF, jG⟩ := jD
       obtain ⟨ax, al, jH, fq⟩ := jG
       refine par (D := [[], [0], [], [2], [], [2, 3, 4], [2, 3, 4, 5], [2, 3, 4, 5, 6], [0, 1, 2, 3, 4, 5, 6, 7], [0, 1, 2, 3, 4, 5, 6, 7, 8], [0, 1, 2, 3, 4, 5, 6, 7, 8, 9], [0, 1, 2, 3, 4, 5, 6, 7, 8, 9], [0, 1, 2, 3, 4, 5, 6, 7, 8, 9, 10], [0, 1, 2, 3, 4, 5, 6, 7, 8, 9, 10, 11, 12]]) (S := [0, 1, 2, 3, 4, 5, 6, 7, 8, 9, 10, 11, 12, 13]) (F := []) (V := VL [(0, fun v _ => v = pB l 3), (1, fun v _ => v = Sl.v r), (2, fun v _ => v = pB k 3), (3, fun v _ => v = Sl.v y), (4, fun v _ => v = .int .i64 o), (5, fun v _ => v = .pointer (some (p_1130.add (o.toNat * 2)))), (6, fun v _ => v = .pointer (some ((p_1130.add (o.toNat * 2)).add 0))), (7, fun v _ => v = .string (Bs bf)), (8, fun v _ => v = .tuple #[.string (Bs ax), .bool al]), (9, fun v _ => v = .tuple #[.string (Bs ax), .bool al]), (10, fun v _ => v = .string (Bs ax)), (11, fun v _ => v = .bool al), (12, fun v _ => v = .string (Bs ax)), (13, fun v _ => v = .bool al)]) aj (by kernel_rfl) ⟨fun _ _ _ _ h => h, fun _ _ _ _ h => h, fun _ _ _ _ h => h, fun _ _ _ _ h => h, fun _ _ _ _ h => h, fun _ _ _ _ h => h, fun _ _ _ _ h => h, fun _ _ _ _ h => h, fun _ _ _ _ h => h, fun _ _ _ _ h => h, fun _ _ _ _ h => h, fun _ _ _ _ h => h, fun _ _ _ _ h => h, fun _ _ _ _ h => h, trivial⟩ ⟨?_, ?_, ?_, ?_, ?_, ?_, ?_, ?_, ?_, ?_, ?_, ?_, ?_, ?_, trivial⟩ ?_
       ·intro a w hT
        have hAp := hT.ag aj [(7, pB l 0)] ⟨rfl, trivial⟩ (by kernel_rfl)
        exact ovr hAp rfl (r_fieldAddr (hAp.get rfl) Try.underlying26 rfl ti_23 (by decide)) fun _ => Eq.refl _
       ·intro a w hT
        have hAp := hT.ag aj [] trivial (by kernel_rfl)
        have hAp := hAp.add (t := 99) (v := pB l 3) (hT.vals 0 rfl 99 rfl)
        exact ovr hAp rfl (r_load1 tU23 rfl (hAp.get rfl) ((fo.ext hT.chg).cell 3 _ rfl)) fun _ => Eq.refl _
       ·intro a w hT
        have hAp := hT.ag aj [(6, pB k 0)] ⟨rfl, trivial⟩ (by kernel_rfl)
        exact ovr hAp rfl (r_fieldAddr (hAp.get rfl) Try.underlying26 rfl ti_23 (by decide)) fun _ => Eq.refl _
       ·intro a w hT
        have hAp := hT.ag aj [] trivial (by kernel_rfl)
        have hAp := hAp.add (t := 101) (v := pB k 3) (hT.vals 2 rfl 101 rfl)
        exact ovr hAp rfl (r_load1 tU23 rfl (hAp.get rfl) ((fn.ext hT.chg).cell 3 _ rfl)) fun _ => Eq.refl _
       ·intro a w hT
        have hAp := hT.ag aj [(12, .int .i64 o)] ⟨rfl, trivial⟩ (by kernel_rfl)
        exact ovr hAp rfl (r_move (hAp.get rfl)) fun _ => Eq.refl _
       ·intro a w hT
        have hAp := hT.ag aj [] trivial (by kernel_rfl)
        have hAp := hAp.add (t := 102) (v := Sl.v y) (hT.vals 3 rfl 102 rfl)
        have hAp := hAp.add (t := 103) (v := .int .i64 o) (hT.vals 4 rfl 103 rfl)
        exact ovr hAp rfl (r_indexAddr (hAp.get rfl) (hAp.get rfl) tU23 ti_47 fp.1 fp.2) fun _ => Eq.refl _
       ·intro a w hT
        have hAp := hT.ag aj [] trivial (by kernel_rfl)
        have hAp := hAp.add (t := 104) (v := .pointer (some (p_1130.add (o.toNat * 2)))) (hT.vals 5 rfl 104 rfl)
        exact ovr hAp rfl (r_fieldAddr (hAp.get rfl) Try.underlying47 rfl ti_9 (by decide)) fun _ => Eq.refl _
       ·intro a w hT
        have hAp := hT.ag aj [] trivial (by kernel_rfl)
        have hAp := hAp.add (t := 105) (v := .pointer (some ((p_1130.add (o.toNat * 2)).add 0))) (hT.vals 6 rfl 105 rfl)
        exact ovr hAp rfl (r_load1 tU9 rfl (hAp.get rfl) (Ext.cell hT.chg jF)) fun _ => Eq.refl _
       ·intro a w hT
        have hAp := hT.ag aj [] trivial (by kernel_rfl)
        have hAp := hAp.add (t := 100) (v := Sl.v r) (hT.vals 1 rfl 100 rfl)
        have hAp := hAp.add (t := 106) (v := .string (Bs bf)) (hT.vals 7 rfl 106 rfl)
        exact opk_callX hAp rfl (r_call (args := #[Sl.v r, .string (Bs bf)]) Try.func13 (by decide) rfl (map_arr (ml_cons (hAp.get rfl) (ml_cons (hAp.get rfl) ml_nil))) rfl) (jH w hT.chg) fun _ _ _ _ e hR => ⟨_, e, hR.1, fun _ => hR.2⟩
       ·intro a w hT
        have hAp := hT.ag aj [] trivial (by kernel_rfl)
        have hAp := hAp.add (t := 107) (v := .tuple #[.string (Bs ax), .bool al]) (hT.vals 8 rfl 107 rfl)
        exact ovr hAp rfl (r_move (hAp.get rfl)) fun _ => Eq.refl _
       ·intro a w hT
        have hAp := hT.ag aj [] trivial (by kernel_rfl)
        have hAp := hAp.add (t := 98) (v := .tuple #[.string (Bs ax), .bool al]) (hT.vals 9 rfl 98 rfl)
        exact ovr hAp rfl (r_extract (hAp.get rfl) rfl) fun _ => Eq.refl _
       ·intro a w hT
        have hAp := hT.ag aj [] trivial (by kernel_rfl)
        have hAp := hAp.add (t := 98) (v := .tuple #[.string (Bs ax), .bool al]) (hT.vals 9 rfl 98 rfl)
        exact ovr hAp rfl (r_extract (hAp.get rfl) rfl) fun _ => Eq.refl _
       ·intro a w hT
        have hAp := hT.ag aj [] trivial (by kernel_rfl)
        have hAp := hAp.add (t := 108) (v := .string (Bs ax)) (hT.vals 10 rfl 108 rfl)
        exact ovr hAp rfl (r_assign (hAp.get rfl)) fun _ => Eq.refl _
       ·intro a w hT
        have hAp := hT.ag aj [] trivial (by kernel_rfl)
        have hAp := hAp.add (t := 109) (v := .bool al) (hT.vals 11 rfl 109 rfl)
        exact ovr hAp rfl (r_assign (hAp.get rfl)) fun _ => Eq.refl _
       ·intro jI a4 bC jJ jK
        have jL := jJ [(0, .pointer (some b)), (4, pB j 0), (5, .int .i64 f), (6, pB k 0), (7, pB l 0), (8, pB d 0), (12, .int .i64 o)] ⟨rfl, rfl, rfl, rfl, rfl, rfl, rfl, trivial⟩ (by kernel_rfl)
        have jM : jI.tmps.getD 14 undef = .bool al := jK 13 rfl 14 rfl
        have jN := jL.add jM
        have fr := jz.ext bC
        have fs := fn.ext bC
        have ft := fo.ext bC
        have fu := jA.ext bC
        have fv : Chg [] aF a4 := bC
        refine PR_end (by kernel_rfl) ?_
        have fx := jN.kp [(0, .pointer (some b)), (4, pB j 0), (5, .int .i64 f), (6, pB k 0), (7, pB l 0), (8, pB d 0), (12, .int .i64 o), (14, .bool al)] rfl
        refine then_normal (wp_seq (wp_region_lit ?_))
        refine sqv fx rfl (r_move (fx.get rfl)) fun _ fy => sqv fy rfl (r_not (fy.get rfl)) fun _ jO => sq_end ?_
        have ap := jO.kp [(0, .pointer (some b)), (4, pB j 0), (5, .int .i64 f), (6, pB k 0), (7, pB l 0), (8, pB d 0), (12, .int .i64 o), (111, .bool (!al))] rfl
        refine then_normal ?_
        refine wp_cond_split (ap.get rfl) (fun hc => ?_) (fun hc => ?_)
        ·have jP := fq.1 (b_not_t hc)
         clear hc
         refine draw' (by kernel_rfl) fun aS bD => ?_
         have fz := fr.ext bD
         have cD := fs.ext bD
         have fA := ft.ext bD
         have cF := fu.ext bD
         have jQ := fv.more bD
         have jR := jP aS    jQ
         obtain ⟨a1, fB, jS⟩ := jR
         obtain ⟨aG, jT, jU⟩ := jS
         refine par (D := [[], [0], [], [2], [], [2, 3, 4], [2, 3, 4, 5], [2, 3, 4, 5, 6], [2, 3, 4, 5, 6, 7], [0, 1, 2, 3, 4, 5, 6, 7, 8], [0, 1, 2, 3, 4, 5, 6, 7, 8, 9], [0, 1, 2, 3, 4, 5, 6, 7, 8, 9, 10]]) (S := [0, 1, 2, 3, 4, 5, 6, 7, 8]) (F := []) (V := VL [(0, fun v _ => v = pB d 3), (1, fun v _ => v = Sl.v ab), (2, fun v _ => v = pB k 3), (3, fun v _ => v = Sl.v y), (4, fun v _ => v = .int .i64 o), (5, fun v _ => v = .pointer (some (a1.add (o.toNat * 2)))), (6, fun v _ => v = .pointer (some ((a1.add (o.toNat * 2)).add 0))), (7, fun v _ => v = .string (Bs aG)), (8, fun v w' => ∃ af : Nat, aS.heap.size ≤ af ∧ Box w' af 9 [.string (Bs aG)] ∧ v = Sl.v (Sl.mk (some ⟨af, 0, none⟩) 1 1))]) ap (by kernel_rfl) ⟨fun _ _ _ _ h => h, fun _ _ _ _ h => h, fun _ _ _ _ h => h, fun _ _ _ _ h => h, fun _ _ _ _ h => h, fun _ _ _ _ h => h, fun _ _ _ _ h => h, fun _ _ _ _ h => h, fun _ _ _ hE ⟨af, h0_, h1_, e⟩ => ⟨af, h0_, (h1_.ext hE), e⟩, trivial⟩ ⟨?_, ?_, ?_, ?_, ?_, ?_, ?_, ?_, ?_, trivial⟩ ?_
         ·intro a w hT
          have hAp := hT.ag ap [(8, pB d 0)] ⟨rfl, trivial⟩ (by kernel_rfl)
          exact ovr hAp rfl (r_fieldAddr (hAp.get rfl) Try.underlying93 rfl ti_41 (by decide)) fun _ => Eq.refl _
         ·intro a w hT
          have hAp := hT.ag ap [] trivial (by kernel_rfl)
          have hAp := hAp.add (t := 112) (v := pB d 3) (hT.vals 0 rfl 112 rfl)
          exact ovr hAp rfl (r_load1 tU41 rfl (hAp.get rfl) ((cF.ext hT.chg).cell 3 _ rfl)) fun _ => Eq.refl _
         ·intro a w hT
          have hAp := hT.ag ap [(6, pB k 0)] ⟨rfl, trivial⟩ (by kernel_rfl)
          exact ovr hAp rfl (r_fieldAddr (hAp.get rfl) Try.underlying26 rfl ti_23 (by decide)) fun _ => Eq.refl _
         ·intro a w hT
          have hAp := hT.ag ap [] trivial (by kernel_rfl)
          have hAp := hAp.add (t := 114) (v := pB k 3) (hT.vals 2 rfl 114 rfl)
          exact ovr hAp rfl (r_load1 tU23 rfl (hAp.get rfl) ((cD.ext hT.chg).cell 3 _ rfl)) fun _ => Eq.refl _
         ·intro a w hT
          have hAp := hT.ag ap [(12, .int .i64 o)] ⟨rfl, trivial⟩ (by kernel_rfl)
          exact ovr hAp rfl (r_move (hAp.get rfl)) fun _ => Eq.refl _
         ·intro a w hT
          have hAp := hT.ag ap [] trivial (by kernel_rfl)
          have hAp := hAp.add (t := 115) (v := Sl.v y) (hT.vals 3 rfl 115 rfl)
          have hAp := hAp.add (t := 116) (v := .int .i64 o) (hT.vals 4 rfl 116 rfl)
          exact ovr hAp rfl (r_indexAddr (hAp.get rfl) (hAp.get rfl) tU23 ti_47 fB.1 fB.2) fun _ => Eq.refl _
         ·intro a w hT
          have hAp := hT.ag ap [] trivial (by kernel_rfl)
          have hAp := hAp.add (t := 117) (v := .pointer (some (a1.add (o.toNat * 2)))) (hT.vals 5 rfl 117 rfl)
          exact ovr hAp rfl (r_fieldAddr (hAp.get rfl) Try.underlying47 rfl ti_9 (by decide)) fun _ => Eq.refl _
         ·intro a w hT
          have hAp := hT.ag ap [] trivial (by kernel_rfl)
          have hAp := hAp.add (t := 118) (v := .pointer (some ((a1.add (o.toNat * 2)).add 0))) (hT.vals 6 rfl 118 rfl)
          exact ovr hAp rfl (r_load1 tU9 rfl (hAp.get rfl) (Ext.cell hT.chg jT)) fun _ => Eq.refl _
         ·intro a w hT
          have hAp := hT.ag ap [] trivial (by kernel_rfl)
          have hAp := hAp.add (t := 119) (v := .string (Bs aG)) (hT.vals 7 rfl 119 rfl)
          exact opk_new (fun B => .slice (some ⟨B, 0, none⟩) 1 1) hAp rfl (r_buildSlice (vs := #[(0, .string (Bs aG))]) (cs := [.string (Bs aG)]) (map_arr2 (ml2_cons (hAp.get rfl) (ml2_nil))) tU41 ti_9 rfl rfl (by kernel_rfl)) fun _ mg af jV jX jY _ e => ⟨_, e, jV, fun _ => ⟨af, Nat.le_trans hT.chg.size jX.ge, jY, rfl⟩⟩
         ·intro jZ a2 bn j0 fC
          have j1 := j0 [(0, .pointer (some b)), (4, pB j 0), (5, .int .i64 f), (6, pB k 0), (7, pB l 0), (8, pB d 0), (12, .int .i64 o)] ⟨rfl, rfl, rfl, rfl, rfl, rfl, rfl, trivial⟩ (by kernel_rfl)
          have j2 : jZ.tmps.getD 113 undef = Sl.v ab := fC 1 rfl 113 rfl
          have j3 := j1.add j2
          obtain ⟨af, bF, fD, j4⟩ := fC 8 rfl 120 rfl
          have cG := j3.add j4
          have j5 := fz.ext bn
          have j6 := cD.ext bn
          have j7 := fA.ext bn
          have j8 := cF.ext bn
          have mh : Chg [] aS a2 := bn
          have j9 := jU a2 af bn bF fD
          have mi : j ≠ af := Nat.ne_of_lt (Nat.lt_of_lt_of_le fz.lt bF)
          have mj : k ≠ af := Nat.ne_of_lt (Nat.lt_of_lt_of_le cD.lt bF)
          have ml : l ≠ af := Nat.ne_of_lt (Nat.lt_of_lt_of_le fA.lt bF)
          have mm : d ≠ af := Nat.ne_of_lt (Nat.lt_of_lt_of_le cF.lt bF)
          have ka := j9 fD
          refine one (D := [[], [0], [], [2], [], [2, 3, 4], [2, 3, 4, 5], [2, 3, 4, 5, 6], [2, 3, 4, 5, 6, 7], [0, 1, 2, 3, 4, 5, 6, 7, 8], [0, 1, 2, 3, 4, 5, 6, 7, 8, 9], [0, 1, 2, 3, 4, 5, 6, 7, 8, 9, 10]]) (i := 9) rfl (by kernel_rfl) (opk_run cG rfl (fun _ _ hr => r_append (cG.get rfl) (cG.get rfl) hr) ka fun mn mo b0 fF _ bR mp kb => ?_)
          obtain ⟨aT, rfl, kc⟩ := kb
          have kd := j5.kept bR (.head _)
          have kf := j6.kept bR (.tail _ (.head _))
          have kg := j7.kept bR (.tail _ (.tail _ (.head _)))
          have kh := j8.kept bR (.tail _ (.tail _ (.tail _ (.head _))))
          refine par (D := [[], [0], [], [2], [], [2, 3, 4], [2, 3, 4, 5], [2, 3, 4, 5, 6], [2, 3, 4, 5, 6, 7], [0, 1, 2, 3, 4, 5, 6, 7, 8], [0, 1, 2, 3, 4, 5, 6, 7, 8, 9], [0, 1, 2, 3, 4, 5, 6, 7, 8, 9, 10]]) (S := [10]) (F := []) (V := VL [(10, fun v _ => v = pB d 3)]) fF (by kernel_rfl) ⟨fun _ _ _ _ h => h, trivial⟩ ⟨?_, trivial⟩ ?_
          ·intro a w hT
           have hAp := hT.ag fF [(8, pB d 0)] ⟨rfl, trivial⟩ (by kernel_rfl)
           exact ovr hAp rfl (r_fieldAddr (hAp.get rfl) Try.underlying93 rfl ti_41 (by decide)) fun _ => Eq.refl _
          ·intro ki kj bG kk kl
           have km := kk [(0, .pointer (some b)), (4, pB j 0), (5, .int .i64 f), (6, pB k 0), (7, pB l 0), (8, pB d 0), (12, .int .i64 o), (121, Sl.v aT)] ⟨rfl, rfl, rfl, rfl, rfl, rfl, rfl, rfl, trivial⟩ (by kernel_rfl)
           have kn : ki.tmps.getD 122 undef = pB d 3 := kl 10 rfl 122 rfl
           have cH := km.add kn
           have ko := kd.ext bG
           have kq := kf.ext bG
           have kr := kg.ext bG
           have fG := kh.ext bG
           have ks : Chg [] b0 kj := bG
           refine one (D := [[], [0], [], [2], [], [2, 3, 4], [2, 3, 4, 5], [2, 3, 4, 5, 6], [2, 3, 4, 5, 6, 7], [0, 1, 2, 3, 4, 5, 6, 7, 8], [0, 1, 2, 3, 4, 5, 6, 7, 8, 9], [0, 1, 2, 3, 4, 5, 6, 7, 8, 9, 10]]) (i := 11) rfl (by kernel_rfl) (opk_store cH fG (r_store (vs := [Sl.v aT]) (cH.get rfl) (cH.get rfl) rfl ti_41 fG rfl (ones_all _ rfl)) fun mq a3 bS kt ku => ?_)
           have kv : Box a3 d 93 [.bool false, .bool (decide (u ≠ x)), Sl.v z, Sl.v aT, .int .i64 (-1), Sl.v Sl.nil] := kt
           have kx := ko.keep bS (by simpa using bl)
           have ky := kq.keep bS (by simpa using cm)
           have kz := kr.keep bS (by simpa using cn)
           have kA := ks.storeOld bS
           refine PR_end (by kernel_rfl) ?_
           have fH := ku.kp [(0, .pointer (some b)), (4, pB j 0), (5, .int .i64 f), (6, pB k 0), (7, pB l 0), (8, pB d 0), (12, .int .i64 o)] rfl
           refine block_normal ?_
           refine then_normal (wp_region_lit ?_)
           refine sqv fH rfl (r_move (fH.get rfl)) fun _ fI => ?_
           obtain ⟨kB, kC⟩ := kc
           refine sqv fI rfl (r_addI (fI.get rfl) rfl kB) fun _ fJ => sqv fJ rfl (r_assign (fJ.get rfl)) fun _ kD => sq_end ?_
           have kF := kD.kp [(0, .pointer (some b)), (4, pB j 0), (5, .int .i64 f), (6, pB k 0), (7, pB l 0), (8, pB d 0), (12, .int .i64 (o + 1))] rfl
           have fK := kC a3    kA
           have kG := kF.kp [(0, .pointer (some b)), (4, pB j 0), (5, .int .i64 f), (6, pB k 0), (7, pB l 0), (8, pB d 0), (12, .int .i64 (o + 1))] rfl
           exact then_normal ⟨(o + 1, aT, a3), ⟨kG, kx, ky, kz, kv, rfl, fK.1⟩, fK.2⟩
        ·have kH := fq.2 (b_not_f hc)
         clear hc
         refine wp_skip ?_
         refine block_normal ?_
         refine then_normal (wp_region_lit ?_)
         refine sqv ap rfl (r_move (ap.get rfl)) fun _ fL => ?_
         obtain ⟨kI, kJ⟩ := kH
         refine sqv fL rfl (r_addI (fL.get rfl) rfl kI) fun _ fM => sqv fM rfl (r_assign (fM.get rfl)) fun _ kK => sq_end ?_
         have kL := kK.kp [(0, .pointer (some b)), (4, pB j 0), (5, .int .i64 f), (6, pB k 0), (7, pB l 0), (8, pB d 0), (12, .int .i64 (o + 1))] rfl
         have fN := kJ a4    fv
         have kM := kL.kp [(0, .pointer (some b)), (4, pB j 0), (5, .int .i64 f), (6, pB k 0), (7, pB l 0), (8, pB d 0), (12, .int .i64 (o + 1))] rfl
         exact then_normal ⟨(o + 1, ab, a4), ⟨kM, fr, fs, ft, fu, rfl, fN.1⟩, fN.2⟩
      ·have kN := fj.2 (of_decide_eq_false hc)
       clear hc
       refine wp_exit ?_
       refine then_exit ?_
       refine then_exit ?_
       refine block_hit ?_
       have fO := aj.kp [(0, .pointer (some b)), (4, pB j 0), (5, .int .i64 f), (8, pB d 0)] rfl
       refine then_normal (wp_seq (wp_seq (wp_region_lit ?_)))
       refine sqv fO rfl (r_move (fO.get rfl)) fun _ fP => sqv fP rfl (r_nilCheck (fP.get rfl)) fun _ fQ => sqv fQ rfl (r_fieldAddr (fQ.get rfl) Try.underlying91 rfl ti_31 (by decide)) fun _ fR => ?_
       obtain ⟨bI, kO, kP⟩ := kN
       refine sqv fR rfl (r_load1 tU31 rfl (fR.get rfl) kO) fun _ fS => sqv fS rfl (r_move (fS.get rfl)) fun _ cI => ?_
       obtain ⟨kQ, b1, kR, kS⟩ := kP
       refine sqv cI rfl (r_indexAddr (cI.get rfl) (cI.get rfl) tU31 ti_38 kQ kR) fun _ fT => sqv fT rfl (r_fieldAddr (fT.get rfl) Try.underlying38 rfl ti_3 (by decide)) fun _ fU => ?_
       obtain ⟨bq, kT, kU⟩ := kS
       refine sqv fU rfl (r_load1 tU3 rfl (fU.get rfl) kT) fun _ fV => sqv fV rfl (r_geq (fV.get rfl) rfl) fun _ kV => sq_end ?_
       have bT := kV.kp [(0, .pointer (some b)), (4, pB j 0), (5, .int .i64 f), (8, pB d 0), (131, .bool (decide (0 ≤ bq)))] rfl
       refine then_normal ?_
       obtain ⟨br, fX, kX⟩ := kU
       refine wp_meet (fun a w => ∃ aq : Int, Ag 148 a [(0, .pointer (some b)), (4, pB j 0), (5, .int .i64 f), (8, pB d 0)] ∧ Box w j 93 [.bool false, .bool false, Sl.v Sl.nil, Sl.v Sl.nil, .int .i64 0, Sl.v Sl.nil] ∧ Box w d 93 [.bool false, .bool (decide (u ≠ x)), Sl.v z, Sl.v ab, .int .i64 aq, Sl.v Sl.nil] ∧ br aq w) ?_ ?_
       ·refine wp_cond_split (bT.get rfl) (fun hc => ?_) (fun hc => ?_)
        ·have kY := fX.1 (of_decide_eq_true hc)
         clear hc
         refine wp_region_lit ?_
         refine sqv bT rfl (r_move (bT.get rfl)) fun _ fY => sqv fY rfl (r_move (fY.get rfl)) fun _ fZ => sqv fZ rfl (r_nilCheck (fZ.get rfl)) fun _ f0 => sqv f0 rfl (r_fieldAddr (f0.get rfl) Try.underlying91 rfl ti_31 (by decide)) fun _ f1 => ?_
         obtain ⟨bJ, kZ, k0⟩ := kY
         refine sqv f1 rfl (r_load1 tU31 rfl (f1.get rfl) kZ) fun _ f2 => sqv f2 rfl (r_move (f2.get rfl)) fun _ cJ => ?_
         obtain ⟨k1, b2, k2, k3⟩ := k0
         refine sqv cJ rfl (r_indexAddr (cJ.get rfl) (cJ.get rfl) tU31 ti_38 k1 k2) fun _ f3 => sqv f3 rfl (r_fieldAddr (f3.get rfl) Try.underlying38 rfl ti_3 (by decide)) fun _ f4 => ?_
         obtain ⟨bK, k4, k5⟩ := k3
         refine sqv f4 rfl (r_load1 tU3 rfl (f4.get rfl) k4) fun _ cK => ?_
         refine sq (opk_call cK rfl (r_call (args := #[.pointer (some b), .int .i64 bK]) Try.func67 (by decide) rfl (map_arr (ml_cons (cK.get rfl) (ml_cons (cK.get rfl) ml_nil))) rfl) k5 fun mr ms b3 f5 _ f6 mt k6 => ?_)
         obtain ⟨bg, rfl, k7⟩ := k6
         have k8 := cA.kept f6 (.head _)
         have f7 := cB.kept f6 (.tail _ (.head _))
         refine sqv f5 rfl (r_fieldAddr (f5.get rfl) Try.underlying93 rfl ti_3 (by decide)) fun _ cL => ?_
         refine sq (opk_store cL f7 (r_store (vs := [.int .i64 bg]) (cL.get rfl) (cL.get rfl) rfl ti_3 f7 rfl (ones_all _ rfl)) fun mu bh f8 k9 la => ?_)
         have lb : Box bh d 93 [.bool false, .bool (decide (u ≠ x)), Sl.v z, Sl.v ab, .int .i64 bg, Sl.v Sl.nil] := k9
         have lc := k8.keep f8 (by simpa using bl)
         have ld : Chg [d] b3 bh := f8
         refine sq_end ?_
         have lf := la.kp [(0, .pointer (some b)), (4, pB j 0), (5, .int .i64 f), (8, pB d 0)] rfl
         have lg := k7 bh    ld
         have lh := lf.kp [(0, .pointer (some b)), (4, pB j 0), (5, .int .i64 f), (8, pB d 0)] rfl
         exact then_normal ⟨bg, lh, lc, lb, lg⟩
        ·have li := fX.2 (of_decide_eq_false hc)
         clear hc
         refine wp_skip ?_
         have lj := bT.kp [(0, .pointer (some b)), (4, pB j 0), (5, .int .i64 f), (8, pB d 0)] rfl
         exact then_normal ⟨(-1), lj, cA, cB, li⟩
       ·intro mv bL hm
        obtain ⟨aq, f9, lk, ll, lm⟩ := hm
        have ln := kX aq bL lm
        refine then_normal (wp_seq (wp_region_lit ?_))
        refine sqv f9 rfl (r_move (f9.get rfl)) fun _ ga => sqv ga rfl (r_move (ga.get rfl)) fun _ cM => ?_
        refine sq (opk_call cM rfl (r_call (args := #[.pointer (some b), .int .i64 f]) Try.func68 (by decide) rfl (map_arr (ml_cons (cM.get rfl) (ml_cons (cM.get rfl) ml_nil))) rfl) ln fun mx my b4 gb _ gc mz lo => ?_)
        obtain ⟨aH, rfl, lp⟩ := lo
        have lq := lk.kept gc (.head _)
        have gd := ll.kept gc (.tail _ (.head _))
        refine sqv gb rfl (r_fieldAddr (gb.get rfl) Try.underlying93 rfl ti_22 (by decide)) fun _ cN => ?_
        refine sq (opk_store cN gd (r_store (vs := [Sl.v aH]) (cN.get rfl) (cN.get rfl) rfl ti_22 gd rfl (ones_all _ rfl)) fun mA gf gg lr ls => ?_)
        have gh : Box gf d 93 [.bool false, .bool (decide (u ≠ x)), Sl.v z, Sl.v ab, .int .i64 aq, Sl.v aH] := lr
        have gi := lq.keep gg (by simpa using bl)
        have lu : Chg [d] b4 gf := gg
        refine sq_end ?_
        have gj := ls.kp [(4, pB j 0), (8, pB d 0)] rfl
        refine then_normal (wp_seq (wp_region_lit ?_))
        refine sqv gj rfl (r_loadN (cs := [.bool false, .bool (decide (u ≠ x)), Sl.v z, Sl.v ab, .int .i64 aq, Sl.v aH]) Try.underlying93 rfl ti_93 (gj.get rfl) (gh.part 0 _ rfl)) fun _ cO => ?_
        refine sq (opk_store cO gi (r_store (vs := [.bool false, .bool (decide (u ≠ x)), Sl.v z, Sl.v ab, .int .i64 aq, Sl.v aH]) (cO.get rfl) (cO.get rfl) rfl ti_93 gi rfl (ones_all _ rfl)) fun mB bs gk lv lx => ?_)
        have ly : Box bs j 93 [.bool false, .bool (decide (u ≠ x)), Sl.v z, Sl.v ab, .int .i64 aq, Sl.v aH] := lv
        have mC := gh.keep gk (by simpa using bl.symm)
        have lz := lu.storeOld gk
        refine sq_end ?_
        have gl := lx.kp [(4, pB j 0)] rfl
        refine then_normal ?_
        refine wp_ret ?_
        have lA := lp bs    lz
        exact res_all (vs := [.agg #[.bool false, .bool (decide (u ≠ x)), Sl.v z, Sl.v ab, .int .i64 aq, Sl.v aH]]) rfl gl ⟨res_of_cell gl rfl ly Try.underlying93 rfl ti_93, trivial⟩ lA
end Go.Proofs.Yteohbfaechfliaa
