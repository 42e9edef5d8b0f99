/-
  PRINTED BY PROGRAM: for each function its condition (vc), and that this suffices (ok).
-/
import Derived.Test.YteohbfaechfliaaQSlotsAllGT
namespace Go.Proofs.Yteohbfaechfliaa
open Go.RowKit
set_option linter.unusedVariables false
set_option maxHeartbeats 1000000
set_option maxRecDepth 10000
def walk_Flat.vc (al : Int) (am : Str) (an : Str) (ao : Sl) (ap : Sl) (R : Value → World → Prop) (w : World) : Prop :=
∀ (z : World) (o : Nat) (k : Nat), New w o z → New w k z → o ≠ k → Chg [] w z →
∀ (_ : Box z o 26 [.int .i64 al, .string (Bs am), .string (Bs an), Sl.v ao, Sl.v ap]),
∀ (_ : Box z k 79 [Sl.v Sl.nil]),
CallK Try.prog 62 #[.pointer (some (⟨o, 0, none⟩ : Addr)), .func (.func 63) #[] #[.pointer (some (⟨k, 0, none⟩ : Addr))]] z [] (fun v aF => v = .tuple #[] ∧
∃ (af : Sl), (aF.cell? (⟨k, 0, none⟩ : Addr) = some (Sl.v af)) ∧
(I64 ((af.n : Int) - 1)) ∧
∃ (aC : Int → World → Prop) (aG : Int → World → Nat),
aC ((af.n : Int) - 1) aF ∧
(∀ (d : Int) (aa : World), aC d aa →
((0 < d) →
∀ (r : World), Chg [] aa r →
∃ (aq : Sl), (r.cell? (⟨k, 0, none⟩ : Addr) = some (Sl.v aq)) ∧
∃ (ar : Sl), (r.cell? (⟨k, 0, none⟩ : Addr) = some (Sl.v ar)) ∧
∃ ah : Addr, (((0 : Int) ≤ d ∧ d < (ar.n : Int)) ∧ ar.a = some ah) ∧
∃ (g : Int), (r.cell? ((ah.add (d.toNat * 10)).add 0) = some (.int .i64 g)) ∧
∃ j : Addr, (((0 : Int) ≤ g ∧ g < (aq.n : Int)) ∧ aq.a = some j) ∧
∀ (ab : World), Chg [] r ab →
∃ (u : Int), (ab.cell? ((j.add (g.toNat * 10)).add 1) = some (.int .i64 u)) ∧
∃ (au : Sl), (ab.cell? (⟨k, 0, none⟩ : Addr) = some (Sl.v au)) ∧
∃ ai : Addr, (((0 : Int) ≤ d ∧ d < (au.n : Int)) ∧ au.a = some ai) ∧
∃ (x : Int), (ab.cell? ((ai.add (d.toNat * 10)).add 1) = some (.int .i64 x)) ∧
(I64 (u + x)) ∧
∀ (av : World), Chg [] ab av →
∃ (ax aH : Nat) (aL : TypeId) (aI : List Value), ((j.add (g.toNat * 10)).add 1) = ⟨ax, aH, none⟩ ∧ Box av ax aL aI ∧ aH + 1 ≤ aI.length ∧ (∀ b ∈ [], b ≠ ax) ∧
(∀ ay : World, Chg [ax] av ay → Box ay ax aL (putAt aI aH [.int .i64 (u + x)]) →
∀ (y : World), Chg [] ay y →
∃ (ad : Int), (y.cell? ((j.add (g.toNat * 10)).add 3) = some (.int .i64 ad)) ∧
∃ (az : Sl), (y.cell? (⟨k, 0, none⟩ : Addr) = some (Sl.v az)) ∧
∃ aj : Addr, (((0 : Int) ≤ d ∧ d < (az.n : Int)) ∧ az.a = some aj) ∧
∃ (p : Int), (y.cell? ((aj.add (d.toNat * 10)).add 3) = some (.int .i64 p)) ∧
(I64 (p + 1)) ∧
∀ (aA : World), Chg [] y aA →
∃ (aB aJ : Nat) (aM : TypeId) (aK : List Value), ((j.add (g.toNat * 10)).add 3) = ⟨aB, aJ, none⟩ ∧ Box aA aB aM aK ∧ aJ + 1 ≤ aK.length ∧ (∀ b ∈ [], b ≠ aB) ∧
(∀ ak : World, Chg [aB] aA ak → Box ak aB aM (putAt aK aJ [.int .i64 (max ad (p + 1))]) →
(I64 (d - 1)) ∧
aC (d - 1) ak ∧ aG (d - 1) ak < aG d aa))) ∧
((¬ (0 < d)) →
∃ (aD : Sl), (aa.cell? (⟨k, 0, none⟩ : Addr) = some (Sl.v aD)) ∧
R (Sl.v aD) aa)))
theorem walk_Flat.ok (al : Int) (am : Str) (an : Str) (ao : Sl) (ap : Sl) {R : Value → World → Prop} {w : World} (aR : walk_Flat.vc al am an ao ap R w) : Calls Try.prog 37 #[.agg #[.int .i64 al, .string (Bs am), .string (Bs an), Sl.v ao, Sl.v ap]] w (Ret R) := by
 refine enter [.agg #[.int .i64 al, .string (Bs am), .string (Bs an), Sl.v ao, Sl.v ap]] Try.func37 rfl Try.ntmps37 rfl ?_
 intro a0 aS
 unfold walk_Flat.vc at aR
 refine wp_seq (wp_region_lit ?_)
 refine sq (opk_new (fun B => .pointer (some ⟨B, 0, none⟩)) aS rfl (r_box (cs := [.int .i64 al, .string (Bs am), .string (Bs an), Sl.v ao, Sl.v ap]) (aS.get rfl) rfl) fun a4 w3 o bp bq aU br _ => ?_)
 have bs : New w o w3 := bq
 have aV : Chg [] w w3 := bp
 refine sqv br rfl (r_assign rfl) fun _ bt => sq_end ?_
 have bu := bt.kp [(1, pB o 0)] rfl
 refine then_normal (wp_seq (wp_region_lit ?_))
 refine sq (opk_new (fun B => .pointer (some ⟨B, 0, none⟩)) bu rfl (r_alloc (cs := [Sl.v Sl.nil]) ti_79 rfl) fun dr z k aN aX bv bx _ => ?_)
 have bz : o ≠ k := Nat.ne_of_lt (Nat.lt_of_lt_of_le aU.lt aX.ge)
 have bA := New.of aV aX
 have bB := aU.ext aN
 have bC := aV.more aN
 have bD := bs.up aN.size
 refine sq_end ?_
 have aY := bx.kp [(1, pB o 0), (3, pB k 0)] rfl
 refine then_normal (wp_seq (wp_region_lit ?_))
 refine sqv aY rfl (r_makeFunc (f := #[]) (c := #[pB k 0]) (map_arr ml_nil) (map_arr (ml_cons (aY.get rfl) ml_nil))) fun _ aO => ?_
 have bF := aR z o k bD bA bz bC
 have bG := bF bB
 have bH := bG bv
 refine sq (opk_call aO rfl (r_call (args := #[pB o 0, .func (.func 63) #[] #[pB k 0]]) Try.func62 (by decide) rfl (map_arr (ml_cons (aO.get rfl) (ml_cons (aO.get rfl) ml_nil))) rfl) bH fun ds dt aF bI _ du dv bJ => ?_)
 obtain ⟨rfl, bK⟩ := bJ
 refine sq_end ?_
 have aZ := bI.kp [(3, pB k 0)] rfl
 refine then_normal (wp_seq (wp_seq (wp_region_lit ?_)))
 obtain ⟨af, bL, bM⟩ := bK
 refine sqv aZ rfl (r_load1 tU79 rfl (aZ.get rfl) bL) fun _ hA36 => sqv hA36 rfl (r_len (hA36.get rfl) tU79) fun _ a1 => ?_
 obtain ⟨bN, bO⟩ := bM
 refine sqv a1 rfl (r_subI (a1.get rfl) rfl bN) fun _ a2 => sqv a2 rfl (r_assign (a2.get rfl)) fun _ bP => sq_end ?_
 have bQ := bP.kp [(3, pB k 0), (4, .int .i64 ((af.n : Int) - 1))] rfl
 refine then_normal (wp_block ?_)
 obtain ⟨aC, aG, bR, bS⟩ := bO
 refine wp_loop_st (σ := Int × World) (fun s a w => Ag 49 a [(3, pB k 0), (4, .int .i64 s.1)] ∧ w = s.2 ∧ aC s.1 s.2) (fun s => aG s.1 s.2) ((af.n : Int) - 1, aF) ⟨bQ.kp [(3, pB k 0), (4, .int .i64 ((af.n : Int) - 1))] rfl, rfl, bR⟩ ?_
 rintro ⟨d, aa⟩ dx w_ ⟨a3, hw_, bT⟩
 have hw_ : aa = w_ := hw_.symm
 subst hw_
 have ht214 := bS d _ bT
 refine wp_seq (wp_seq (wp_region_lit ?_))
 refine sqv a3 rfl (r_move (a3.get rfl)) fun _ a5 => sqv a5 rfl (r_gtr (a5.get rfl) rfl) fun _ bU => sq_end ?_
 have q := bU.kp [(3, pB k 0), (4, .int .i64 d), (12, .bool (decide (0 < d)))] rfl
 refine then_normal ?_
 refine wp_cond_split (q.get rfl) (fun hc => ?_) (fun hc => ?_)
 ·have bV := ht214.1 (of_decide_eq_true hc)
  clear hc
  refine wp_skip ?_
  refine then_normal (wp_seq (wp_block (wp_seq ?_)))
  refine draw' (by kernel_rfl) fun r bX => ?_
  have bY : Chg [] aa r := bX
  have bZ := bV r    bY
  obtain ⟨aq, b0, b1⟩ := bZ
  obtain ⟨ar, b2, b3⟩ := b1
  obtain ⟨ah, a6, b4⟩ := b3
  obtain ⟨g, b5, b6⟩ := b4
  obtain ⟨j, a7, b7⟩ := b6
  refine par (D := [[], [], [], [1, 2], [1, 2, 3], [1, 2, 3, 4], [0, 1, 2, 3, 4, 5], [0, 1, 2, 3, 4, 5, 6]]) (S := [0, 1, 2, 3, 4, 5, 6, 7]) (F := []) (V := VL [(0, fun v _ => v = Sl.v aq), (1, fun v _ => v = Sl.v ar), (2, fun v _ => v = .int .i64 d), (3, fun v _ => v = .pointer (some (ah.add (d.toNat * 10)))), (4, fun v _ => v = .pointer (some ((ah.add (d.toNat * 10)).add 0))), (5, fun v _ => v = .int .i64 g), (6, fun v _ => v = .pointer (some (j.add (g.toNat * 10)))), (7, fun v _ => v = .pointer (some (j.add (g.toNat * 10))))]) q (by kernel_rfl) ⟨fun _ _ _ _ h => h, fun _ _ _ _ h => h, fun _ _ _ _ h => h, fun _ _ _ _ h => h, fun _ _ _ _ h => h, fun _ _ _ _ h => h, fun _ _ _ _ h => h, fun _ _ _ _ h => h, trivial⟩ ⟨?_, ?_, ?_, ?_, ?_, ?_, ?_, ?_, trivial⟩ ?_
  ·intro a w hT
   have hAp := hT.ag q [(3, pB k 0)] ⟨rfl, trivial⟩ (by kernel_rfl)
   exact ovr hAp rfl (r_load1 tU79 rfl (hAp.get rfl) (Ext.cell hT.chg b0)) fun _ => Eq.refl _
  ·intro a w hT
   have hAp := hT.ag q [(3, pB k 0)] ⟨rfl, trivial⟩ (by kernel_rfl)
   exact ovr hAp rfl (r_load1 tU79 rfl (hAp.get rfl) (Ext.cell hT.chg b2)) fun _ => Eq.refl _
  ·intro a w hT
   have hAp := hT.ag q [(4, .int .i64 d)] ⟨rfl, trivial⟩ (by kernel_rfl)
   exact ovr hAp rfl (r_move (hAp.get rfl)) fun _ => Eq.refl _
  ·intro a w hT
   have hAp := hT.ag q [] trivial (by kernel_rfl)
   have hAp := hAp.add (t := 16) (v := Sl.v ar) (hT.vals 1 rfl 16 rfl)
   have hAp := hAp.add (t := 17) (v := .int .i64 d) (hT.vals 2 rfl 17 rfl)
   exact ovr hAp rfl (r_indexAddr (hAp.get rfl) (hAp.get rfl) tU79 ti_86 a6.1 a6.2) fun _ => Eq.refl _
  ·intro a w hT
   have hAp := hT.ag q [] trivial (by kernel_rfl)
   have hAp := hAp.add (t := 18) (v := .pointer (some (ah.add (d.toNat * 10)))) (hT.vals 3 rfl 18 rfl)
   exact ovr hAp rfl (r_fieldAddr (hAp.get rfl) Try.underlying86 rfl ti_3 (by decide)) fun _ => Eq.refl _
  ·intro a w hT
   have hAp := hT.ag q [] trivial (by kernel_rfl)
   have hAp := hAp.add (t := 19) (v := .pointer (some ((ah.add (d.toNat * 10)).add 0))) (hT.vals 4 rfl 19 rfl)
   exact ovr hAp rfl (r_load1 tU3 rfl (hAp.get rfl) (Ext.cell hT.chg b5)) fun _ => Eq.refl _
  ·intro a w hT
   have hAp := hT.ag q [] trivial (by kernel_rfl)
   have hAp := hAp.add (t := 15) (v := Sl.v aq) (hT.vals 0 rfl 15 rfl)
   have hAp := hAp.add (t := 20) (v := .int .i64 g) (hT.vals 5 rfl 20 rfl)
   exact ovr hAp rfl (r_indexAddr (hAp.get rfl) (hAp.get rfl) tU79 ti_86 a7.1 a7.2) fun _ => Eq.refl _
  ·intro a w hT
   have hAp := hT.ag q [] trivial (by kernel_rfl)
   have hAp := hAp.add (t := 21) (v := .pointer (some (j.add (g.toNat * 10)))) (hT.vals 6 rfl 21 rfl)
   exact ovr hAp rfl (r_assign (hAp.get rfl)) fun _ => Eq.refl _
  ·intro b8 b9 ca cb cc
   have cd := cb [(3, pB k 0), (4, .int .i64 d)] ⟨rfl, rfl, trivial⟩ (by kernel_rfl)
   have cf : b8.tmps.getD 5 undef = .pointer (some (j.add (g.toNat * 10))) := cc 7 rfl 5 rfl
   have cg := cd.add cf
   have ch : Chg [] r b9 := ca
   refine PR_end (by kernel_rfl) ?_
   have m := cg.kp [(3, pB k 0), (4, .int .i64 d), (5, .pointer (some (j.add (g.toNat * 10))))] rfl
   refine then_normal (wp_seq ?_)
   refine draw' (by kernel_rfl) fun ab ci => ?_
   have cj := ch.more ci
   have ck := b7 ab    cj
   obtain ⟨u, cl, cm⟩ := ck
   obtain ⟨au, cn, co⟩ := cm
   obtain ⟨ai, a8, cp⟩ := co
   obtain ⟨x, cq, cr⟩ := cp
   obtain ⟨ct, cu⟩ := cr
   refine par (D := [[], [0], [0, 1], [0, 1, 2], [], [], [4, 5], [4, 5, 6], [4, 5, 6, 7], [0, 1, 2, 3, 4, 5, 6, 7, 8], [0, 1, 2, 3, 4, 5, 6, 7, 8, 9], [0, 1, 2, 3, 4, 5, 6, 7, 8, 9, 10], [0, 1, 2, 3, 4, 5, 6, 7, 8, 9, 10, 11]]) (S := [0, 1, 2, 3, 4, 5, 6, 7, 8, 9, 10, 11]) (F := []) (V := VL [(0, fun v _ => v = .pointer (some (j.add (g.toNat * 10)))), (1, fun v _ => v = .pointer (some (j.add (g.toNat * 10)))), (2, fun v _ => v = .pointer (some ((j.add (g.toNat * 10)).add 1))), (3, fun v _ => v = .int .i64 u), (4, fun v _ => v = Sl.v au), (5, fun v _ => v = .int .i64 d), (6, fun v _ => v = .pointer (some (ai.add (d.toNat * 10)))), (7, fun v _ => v = .pointer (some ((ai.add (d.toNat * 10)).add 1))), (8, fun v _ => v = .int .i64 x), (9, fun v _ => v = .int .i64 (u + x)), (10, fun v _ => v = .pointer (some (j.add (g.toNat * 10)))), (11, fun v _ => v = .pointer (some ((j.add (g.toNat * 10)).add 1)))]) m (by kernel_rfl) ⟨fun _ _ _ _ h => h, fun _ _ _ _ h => h, fun _ _ _ _ h => h, fun _ _ _ _ h => h, fun _ _ _ _ h => h, fun _ _ _ _ h => h, fun _ _ _ _ h => h, fun _ _ _ _ h => h, fun _ _ _ _ h => h, fun _ _ _ _ h => h, fun _ _ _ _ h => h, fun _ _ _ _ h => h, trivial⟩ ⟨?_, ?_, ?_, ?_, ?_, ?_, ?_, ?_, ?_, ?_, ?_, ?_, trivial⟩ ?_
   ·intro a w hT
    have hAp := hT.ag m [(5, .pointer (some (j.add (g.toNat * 10))))] ⟨rfl, trivial⟩ (by kernel_rfl)
    exact ovr hAp rfl (r_move (hAp.get rfl)) fun _ => Eq.refl _
   ·intro a w hT
    have hAp := hT.ag m [] trivial (by kernel_rfl)
    have hAp := hAp.add (t := 22) (v := .pointer (some (j.add (g.toNat * 10)))) (hT.vals 0 rfl 22 rfl)
    exact ovr hAp rfl (r_nilCheck (hAp.get rfl)) fun _ => Eq.refl _
   ·intro a w hT
    have hAp := hT.ag m [] trivial (by kernel_rfl)
    have hAp := hAp.add (t := 23) (v := .pointer (some (j.add (g.toNat * 10)))) (hT.vals 1 rfl 23 rfl)
    exact ovr hAp rfl (r_fieldAddr (hAp.get rfl) Try.underlying86 rfl ti_3 (by decide)) fun _ => Eq.refl _
   ·intro a w hT
    have hAp := hT.ag m [] trivial (by kernel_rfl)
    have hAp := hAp.add (t := 24) (v := .pointer (some ((j.add (g.toNat * 10)).add 1))) (hT.vals 2 rfl 24 rfl)
    exact ovr hAp rfl (r_load1 tU3 rfl (hAp.get rfl) (Ext.cell hT.chg cl)) fun _ => Eq.refl _
   ·intro a w hT
    have hAp := hT.ag m [(3, pB k 0)] ⟨rfl, trivial⟩ (by kernel_rfl)
    exact ovr hAp rfl (r_load1 tU79 rfl (hAp.get rfl) (Ext.cell hT.chg cn)) fun _ => Eq.refl _
   ·intro a w hT
    have hAp := hT.ag m [(4, .int .i64 d)] ⟨rfl, trivial⟩ (by kernel_rfl)
    exact ovr hAp rfl (r_move (hAp.get rfl)) fun _ => Eq.refl _
   ·intro a w hT
    have hAp := hT.ag m [] trivial (by kernel_rfl)
    have hAp := hAp.add (t := 26) (v := Sl.v au) (hT.vals 4 rfl 26 rfl)
    have hAp := hAp.add (t := 27) (v := .int .i64 d) (hT.vals 5 rfl 27 rfl)
    exact ovr hAp rfl (r_indexAddr (hAp.get rfl) (hAp.get rfl) tU79 ti_86 a8.1 a8.2) fun _ => Eq.refl _
   ·intro a w hT
    have hAp := hT.ag m [] trivial (by kernel_rfl)
    have hAp := hAp.add (t := 28) (v := .pointer (some (ai.add (d.toNat * 10)))) (hT.vals 6 rfl 28 rfl)
    exact ovr hAp rfl (r_fieldAddr (hAp.get rfl) Try.underlying86 rfl ti_3 (by decide)) fun _ => Eq.refl _
   ·intro a w hT
    have hAp := hT.ag m [] trivial (by kernel_rfl)
    have hAp := hAp.add (t := 29) (v := .pointer (some ((ai.add (d.toNat * 10)).add 1))) (hT.vals 7 rfl 29 rfl)
    exact ovr hAp rfl (r_load1 tU3 rfl (hAp.get rfl) (Ext.cell hT.chg cq)) fun _ => Eq.refl _
   ·intro a w hT
    have hAp := hT.ag m [] trivial (by kernel_rfl)
    have hAp := hAp.add (t := 25) (v := .int .i64 u) (hT.vals 3 rfl 25 rfl)
    have hAp := hAp.add (t := 30) (v := .int .i64 x) (hT.vals 8 rfl 30 rfl)
    exact ovr hAp rfl (r_addI (hAp.get rfl) (hAp.get rfl) ct) fun _ => Eq.refl _
   ·intro a w hT
    have hAp := hT.ag m [] trivial (by kernel_rfl)
    have hAp := hAp.add (t := 22) (v := .pointer (some (j.add (g.toNat * 10)))) (hT.vals 0 rfl 22 rfl)
    exact ovr hAp rfl (r_nilCheck (hAp.get rfl)) fun _ => Eq.refl _
   ·intro a w hT
    have hAp := hT.ag m [] trivial (by kernel_rfl)
    have hAp := hAp.add (t := 32) (v := .pointer (some (j.add (g.toNat * 10)))) (hT.vals 10 rfl 32 rfl)
    exact ovr hAp rfl (r_fieldAddr (hAp.get rfl) Try.underlying86 rfl ti_3 (by decide)) fun _ => Eq.refl _
   ·intro a9 av cv cx ba
    have cy := cx [(3, pB k 0), (4, .int .i64 d), (5, .pointer (some (j.add (g.toNat * 10))))] ⟨rfl, rfl, rfl, trivial⟩ (by kernel_rfl)
    have cz : a9.tmps.getD 31 undef = .int .i64 (u + x) := ba 9 rfl 31 rfl
    have cA := cy.add cz
    have cB : a9.tmps.getD 33 undef = .pointer (some ((j.add (g.toNat * 10)).add 1)) := ba 11 rfl 33 rfl
    have aP := cA.add cB
    have cC : Chg [] ab av := cv
    have cD := cu av    cC
    obtain ⟨ax, aH, aL, aI, cF, bb, cG, dy, cH⟩ := cD
    refine one (D := [[], [0], [0, 1], [0, 1, 2], [], [], [4, 5], [4, 5, 6], [4, 5, 6, 7], [0, 1, 2, 3, 4, 5, 6, 7, 8], [0, 1, 2, 3, 4, 5, 6, 7, 8, 9], [0, 1, 2, 3, 4, 5, 6, 7, 8, 9, 10], [0, 1, 2, 3, 4, 5, 6, 7, 8, 9, 10, 11]]) (i := 12) rfl (by kernel_rfl) (opk_store aP bb (r_store (vs := [.int .i64 (u + x)]) (((aP.get rfl)).trans (congrArg (fun a => Value.pointer (some a)) cF)) (aP.get rfl) rfl ti_3 bb (Nat.ble_eq_true_of_le cG) (ones_all _ rfl)) fun dz ay cI cJ cK => ?_)
    have cL := cH ay cI cJ
    refine PR_end (by kernel_rfl) ?_
    have l := cK.kp [(3, pB k 0), (4, .int .i64 d), (5, .pointer (some (j.add (g.toNat * 10))))] rfl
    refine then_normal ?_
    refine draw' (by kernel_rfl) fun y cM => ?_
    have cN : Chg [] ay y := cM
    have cO := cL y    cN
    obtain ⟨ad, cP, cQ⟩ := cO
    obtain ⟨az, cR, cS⟩ := cQ
    obtain ⟨aj, bd, cT⟩ := cS
    obtain ⟨p, cU, cX⟩ := cT
    obtain ⟨cY, cZ⟩ := cX
    refine par (D := [[], [], [1], [1, 2], [1, 2, 3], [], [], [5, 6], [5, 6, 7], [5, 6, 7, 8], [5, 6, 7, 8, 9], [1, 2, 3, 4, 5, 6, 7, 8, 9, 10], [0, 1, 2, 3, 4, 5, 6, 7, 8, 9, 10, 11], [0, 1, 2, 3, 4, 5, 6, 7, 8, 9, 10, 11, 12], [0, 1, 2, 3, 4, 5, 6, 7, 8, 9, 10, 11, 12, 13]]) (S := [0, 1, 2, 3, 4, 5, 6, 7, 8, 9, 10, 11, 12, 13]) (F := []) (V := VL [(0, fun v _ => v = .pointer (some (j.add (g.toNat * 10)))), (1, fun v _ => v = .pointer (some (j.add (g.toNat * 10)))), (2, fun v _ => v = .pointer (some (j.add (g.toNat * 10)))), (3, fun v _ => v = .pointer (some ((j.add (g.toNat * 10)).add 3))), (4, fun v _ => v = .int .i64 ad), (5, fun v _ => v = Sl.v az), (6, fun v _ => v = .int .i64 d), (7, fun v _ => v = .pointer (some (aj.add (d.toNat * 10)))), (8, fun v _ => v = .pointer (some ((aj.add (d.toNat * 10)).add 3))), (9, fun v _ => v = .int .i64 p), (10, fun v _ => v = .int .i64 (p + 1)), (11, fun v _ => v = .int .i64 (max ad (p + 1))), (12, fun v _ => v = .pointer (some (j.add (g.toNat * 10)))), (13, fun v _ => v = .pointer (some ((j.add (g.toNat * 10)).add 3)))]) l (by kernel_rfl) ⟨fun _ _ _ _ h => h, fun _ _ _ _ h => h, fun _ _ _ _ h => h, fun _ _ _ _ h => h, fun _ _ _ _ h => h, fun _ _ _ _ h => h, fun _ _ _ _ h => h, fun _ _ _ _ h => h, fun _ _ _ _ h => h, fun _ _ _ _ h => h, fun _ _ _ _ h => h, fun _ _ _ _ h => h, fun _ _ _ _ h => h, fun _ _ _ _ h => h, trivial⟩ ⟨?_, ?_, ?_, ?_, ?_, ?_, ?_, ?_, ?_, ?_, ?_, ?_, ?_, ?_, trivial⟩ ?_
    ·intro a w hT
     have hAp := hT.ag l [(5, .pointer (some (j.add (g.toNat * 10))))] ⟨rfl, trivial⟩ (by kernel_rfl)
     exact ovr hAp rfl (r_move (hAp.get rfl)) fun _ => Eq.refl _
    ·intro a w hT
     have hAp := hT.ag l [(5, .pointer (some (j.add (g.toNat * 10))))] ⟨rfl, trivial⟩ (by kernel_rfl)
     exact ovr hAp rfl (r_move (hAp.get rfl)) fun _ => Eq.refl _
    ·intro a w hT
     have hAp := hT.ag l [] trivial (by kernel_rfl)
     have hAp := hAp.add (t := 35) (v := .pointer (some (j.add (g.toNat * 10)))) (hT.vals 1 rfl 35 rfl)
     exact ovr hAp rfl (r_nilCheck (hAp.get rfl)) fun _ => Eq.refl _
    ·intro a w hT
     have hAp := hT.ag l [] trivial (by kernel_rfl)
     have hAp := hAp.add (t := 36) (v := .pointer (some (j.add (g.toNat * 10)))) (hT.vals 2 rfl 36 rfl)
     exact ovr hAp rfl (r_fieldAddr (hAp.get rfl) Try.underlying86 rfl ti_3 (by decide)) fun _ => Eq.refl _
    ·intro a w hT
     have hAp := hT.ag l [] trivial (by kernel_rfl)
     have hAp := hAp.add (t := 37) (v := .pointer (some ((j.add (g.toNat * 10)).add 3))) (hT.vals 3 rfl 37 rfl)
     exact ovr hAp rfl (r_load1 tU3 rfl (hAp.get rfl) (Ext.cell hT.chg cP)) fun _ => Eq.refl _
    ·intro a w hT
     have hAp := hT.ag l [(3, pB k 0)] ⟨rfl, trivial⟩ (by kernel_rfl)
     exact ovr hAp rfl (r_load1 tU79 rfl (hAp.get rfl) (Ext.cell hT.chg cR)) fun _ => Eq.refl _
    ·intro a w hT
     have hAp := hT.ag l [(4, .int .i64 d)] ⟨rfl, trivial⟩ (by kernel_rfl)
     exact ovr hAp rfl (r_move (hAp.get rfl)) fun _ => Eq.refl _
    ·intro a w hT
     have hAp := hT.ag l [] trivial (by kernel_rfl)
     have hAp := hAp.add (t := 39) (v := Sl.v az) (hT.vals 5 rfl 39 rfl)
     have hAp := hAp.add (t := 40) (v := .int .i64 d) (hT.vals 6 rfl 40 rfl)
     exact ovr hAp rfl (r_indexAddr (hAp.get rfl) (hAp.get rfl) tU79 ti_86 bd.1 bd.2) fun _ => Eq.refl _
    ·intro a w hT
     have hAp := hT.ag l [] trivial (by kernel_rfl)
     have hAp := hAp.add (t := 41) (v := .pointer (some (aj.add (d.toNat * 10)))) (hT.vals 7 rfl 41 rfl)
     exact ovr hAp rfl (r_fieldAddr (hAp.get rfl) Try.underlying86 rfl ti_3 (by decide)) fun _ => Eq.refl _
    ·intro a w hT
     have hAp := hT.ag l [] trivial (by kernel_rfl)
     have hAp := hAp.add (t := 42) (v := .pointer (some ((aj.add (d.toNat * 10)).add 3))) (hT.vals 8 rfl 42 rfl)
     exact ovr hAp rfl (r_load1 tU3 rfl (hAp.get rfl) (Ext.cell hT.chg cU)) fun _ => Eq.refl _
    ·intro a w hT
     have hAp := hT.ag l [] trivial (by kernel_rfl)
     have hAp := hAp.add (t := 43) (v := .int .i64 p) (hT.vals 9 rfl 43 rfl)
     exact ovr hAp rfl (r_addI (hAp.get rfl) rfl cY) fun _ => Eq.refl _
    ·intro a w hT
     have hAp := hT.ag l [] trivial (by kernel_rfl)
     have hAp := hAp.add (t := 38) (v := .int .i64 ad) (hT.vals 4 rfl 38 rfl)
     have hAp := hAp.add (t := 44) (v := .int .i64 (p + 1)) (hT.vals 10 rfl 44 rfl)
     exact ovr hAp rfl (r_max (hAp.get rfl) (hAp.get rfl)) fun _ => Eq.refl _
    ·intro a w hT
     have hAp := hT.ag l [] trivial (by kernel_rfl)
     have hAp := hAp.add (t := 34) (v := .pointer (some (j.add (g.toNat * 10)))) (hT.vals 0 rfl 34 rfl)
     exact ovr hAp rfl (r_nilCheck (hAp.get rfl)) fun _ => Eq.refl _
    ·intro a w hT
     have hAp := hT.ag l [] trivial (by kernel_rfl)
     have hAp := hAp.add (t := 46) (v := .pointer (some (j.add (g.toNat * 10)))) (hT.vals 12 rfl 46 rfl)
     exact ovr hAp rfl (r_fieldAddr (hAp.get rfl) Try.underlying86 rfl ti_3 (by decide)) fun _ => Eq.refl _
    ·intro bf aA c0 c1 bg
     have c2 := c1 [(3, pB k 0), (4, .int .i64 d)] ⟨rfl, rfl, trivial⟩ (by kernel_rfl)
     have c3 : bf.tmps.getD 45 undef = .int .i64 (max ad (p + 1)) := bg 11 rfl 45 rfl
     have c4 := c2.add c3
     have c5 : bf.tmps.getD 47 undef = .pointer (some ((j.add (g.toNat * 10)).add 3)) := bg 13 rfl 47 rfl
     have aQ := c4.add c5
     have c6 : Chg [] y aA := c0
     have c7 := cZ aA    c6
     obtain ⟨aB, aJ, aM, aK, c8, bh, c9, dA, da⟩ := c7
     refine one (D := [[], [], [1], [1, 2], [1, 2, 3], [], [], [5, 6], [5, 6, 7], [5, 6, 7, 8], [5, 6, 7, 8, 9], [1, 2, 3, 4, 5, 6, 7, 8, 9, 10], [0, 1, 2, 3, 4, 5, 6, 7, 8, 9, 10, 11], [0, 1, 2, 3, 4, 5, 6, 7, 8, 9, 10, 11, 12], [0, 1, 2, 3, 4, 5, 6, 7, 8, 9, 10, 11, 12, 13]]) (i := 14) rfl (by kernel_rfl) (opk_store aQ bh (r_store (vs := [.int .i64 (max ad (p + 1))]) (((aQ.get rfl)).trans (congrArg (fun a => Value.pointer (some a)) c8)) (aQ.get rfl) rfl ti_3 bh (Nat.ble_eq_true_of_le c9) (ones_all _ rfl)) fun dB ak db dc dd => ?_)
     have df := da ak db dc
     refine PR_end (by kernel_rfl) ?_
     have bi := dd.kp [(3, pB k 0), (4, .int .i64 d)] rfl
     refine block_normal ?_
     refine then_normal (wp_region_lit ?_)
     refine sqv bi rfl (r_move (bi.get rfl)) fun _ bj => ?_
     obtain ⟨dg, bk⟩ := df
     refine sqv bj rfl (r_subI (bj.get rfl) rfl dg) fun _ bl => sqv bl rfl (r_assign (bl.get rfl)) fun _ dh => sq_end ?_
     have di := dh.kp [(3, pB k 0), (4, .int .i64 (d - 1))] rfl
     have dj := di.kp [(3, pB k 0), (4, .int .i64 (d - 1))] rfl
     exact then_normal ⟨(d - 1, ak), ⟨dj, rfl, bk.1⟩, bk.2⟩
 ·have dk := ht214.2 (of_decide_eq_false hc)
  clear hc
  refine wp_exit ?_
  refine then_exit ?_
  refine then_exit ?_
  refine block_hit ?_
  have bm := q.kp [(3, pB k 0)] rfl
  refine then_normal (wp_seq (wp_region_lit ?_))
  obtain ⟨aD, dl, dm⟩ := dk
  refine sqv bm rfl (r_load1 tU79 rfl (bm.get rfl) dl) fun _ bn => sqv bn rfl (r_assign (bn.get rfl)) fun _ dn => sq_end ?_
  have bo := dn.kp [(2, Sl.v aD)] rfl
  refine then_normal ?_
  refine wp_ret ?_
  exact res_all (vs := [Sl.v aD]) rfl bo ⟨res_of_tmp bo rfl, trivial⟩ dm
def walk_each.vc (y : Addr) (j : Value) (R : Value → World → Prop) (w : World) : Prop :=
∀ (z : World) (u : Nat), New w u z → Chg [] w z →
∀ (_ : Box z u 114 [.pointer (some y), .int .i64 (-1), .int .i64 0, .int .i64 0]),
∃ (an : Sl → Int → World → Prop) (ar : Sl → Int → World → Nat),
an (Sl.mk (some ⟨u, 0, none⟩) 1 1) 0 z ∧
(∀ (f : Sl) (d : Int) (x : World), an f d x →
((0 < (f.n : Int)) →
(I64 ((f.n : Int) - 1)) ∧
((0 : Int) ≤ (f.n : Int) - 1 ∧ (f.n : Int) - 1 < (f.n : Int)) ∧ ∃ aB : Addr, f.a = some aB ∧
∃ (q : Option Addr) (ad : Int) (k : Int) (af : Int), (Cells x (aB.add (((f.n : Int) - 1).toNat * 4)) [.pointer q, .int .i64 ad, .int .i64 k, .int .i64 af]) ∧
(I64 ((f.n : Int) - 1)) ∧
((0 : Int) ≤ (f.n : Int) - 1 ∧ (f.n : Int) - 1 ≤ (f.c : Int)) ∧
∃ (au : FuncId) (aC aD : Array Value), (j = .func (.func au) aC aD) ∧
∀ (al : World) (g : Nat), New x g al → Chg [] x al →
Body Try.prog au ∧
CallK Try.prog au (aC ++ #[.int .i64 d, .agg #[.pointer q, .int .i64 ad, .int .i64 k, .int .i64 af]] ++ aD) al [g] (fun v ao => ∃ (ap : Bool), v = .bool ap ∧
((ap = false) →
R (.tuple #[]) ao) ∧
((ap = true) →
∃ aF : Addr, (q = some aF) ∧
∃ (ah : Sl), (ao.cell? (aF.add 4) = some (Sl.v ah)) ∧
(I64 ((ah.n : Int) - 1)) ∧
∃ (aq : Sl → Int → World → Prop) (av : Sl → Int → World → Nat),
aq (Sl.cut f 4 0 ((f.n : Int) - 1).toNat f.c) ((ah.n : Int) - 1) ao ∧
(∀ (m : Sl) (b : Int) (aa : World), aq m b aa →
((0 ≤ b) →
∀ (ab : World), Chg [] aa ab →
∃ ai : Addr, (q = some ai) ∧
∃ (am : Sl), (ab.cell? (ai.add 4) = some (Sl.v am)) ∧
∃ p : Addr, (((0 : Int) ≤ b ∧ b < (am.n : Int)) ∧ am.a = some p) ∧
(I64 (k + 1)) ∧
∀ (aj : World) (o : Nat), Ext ab aj → ab.heap.size ≤ o → Box aj o 114 [.pointer (some (p.add (b.toNat * 5))), .int .i64 d, .int .i64 (k + 1), .int .i64 b] → 
∀ (_ : Box aj o 114 [.pointer (some (p.add (b.toNat * 5))), .int .i64 d, .int .i64 (k + 1), .int .i64 b]),
RunK Try.prog (Builtin.append_ #[133, 133] 133 #[Sl.v m, Sl.v (Sl.mk (some ⟨o, 0, none⟩) 1 1)]) aj [g] (fun v aG => ∃ (r : Sl), v = Sl.v r ∧
(I64 (b - 1)) ∧
∀ (ak : World), Chg [] aG ak →
aq r (b - 1) ak ∧ av r (b - 1) ak < av m b aa)) ∧
((¬ (0 ≤ b)) →
(I64 (d + 1)) ∧
an m (d + 1) aa ∧ ar m (d + 1) aa < ar f d x))))) ∧
((¬ (0 < (f.n : Int))) →
R (.tuple #[]) x))
theorem walk_each.ok (y : Addr) (j : Value) {R : Value → World → Prop} {w : World} (aM : walk_each.vc y j R w) : Calls Try.prog 62 #[.pointer (some y), j] w (Ret R) := by
 refine enter [.pointer (some y), j] Try.func62 rfl Try.ntmps62 rfl ?_
 intro a0 aN
 unfold walk_each.vc at aM
 refine wp_scope_straight ?_
 refine wp_seq (wp_region_lit ?_)
 refine sqv aN rfl (r_move (aN.get rfl)) fun _ aO => sqv aO rfl (r_build (vs := #[(0, .pointer (some y)), (1, .int .i64 (-1))]) (cells := #[.pointer (some y), .int .i64 (-1), .int .i64 0, .int .i64 0]) (map_arr2 (ml2_cons (aO.get rfl) (ml2_cons rfl (ml2_nil)))) ti_114 Try.underlying114 pl_114 (by kernel_rfl)) fun _ aP => ?_
 refine sq (opk_new (fun B => .slice (some ⟨B, 0, none⟩) 1 1) aP rfl (r_buildSlice (vs := #[(0, .agg #[.pointer (some y), .int .i64 (-1), .int .i64 0, .int .i64 0])]) (cs := [.pointer (some y), .int .i64 (-1), .int .i64 0, .int .i64 0]) (map_arr2 (ml2_cons (aP.get rfl) (ml2_nil))) tU133 ti_114 rfl rfl (by kernel_rfl)) fun a7 z u bK bL bM aQ _ => ?_)
 have bN : New w u z := bL
 have bO : Chg [] w z := bK
 refine sqv aQ rfl (r_assign (aQ.get rfl)) fun _ bP => sq_end ?_
 have bQ := bP.kp [(1, j), (4, Sl.v (Sl.mk (some ⟨u, 0, none⟩) 1 1))] rfl
 refine then_normal (wp_seq (wp_region_lit ?_))
 refine sqv bQ rfl (r_assign rfl) fun _ bR => sq_end ?_
 have bS := bR.kp [(1, j), (4, Sl.v (Sl.mk (some ⟨u, 0, none⟩) 1 1)), (5, .int .i64 0)] rfl
 refine then_normal (wp_seq ?_)
 refine wp_label ?_
 refine then_normal (wp_block ?_)
 have bT := aM z u bN  bO
 have bU := bT bM
 obtain ⟨an, ar, bV, bX⟩ := bU
 refine wp_loop_st (σ := Sl × Int × World) (fun s a w => Ag 59 a [(1, j), (4, Sl.v s.1), (5, .int .i64 s.2.1)] ∧ w = s.2.2 ∧ an s.1 s.2.1 s.2.2) (fun s => ar s.1 s.2.1 s.2.2) ((Sl.mk (some ⟨u, 0, none⟩) 1 1), 0, z) ⟨bS.kp [(1, j), (4, Sl.v (Sl.mk (some ⟨u, 0, none⟩) 1 1)), (5, .int .i64 0)] rfl, rfl, bV⟩ ?_
 rintro ⟨f, d, x⟩ dF w_ ⟨aR, hw_, bY⟩
 have hw_ : x = w_ := hw_.symm
 subst hw_
 have aS := bX f d _ bY
 refine wp_seq (wp_seq (wp_region_lit ?_))
 refine sqv aR rfl (r_move (aR.get rfl)) fun _ aT => sqv aT rfl (r_len (aT.get rfl) tU133) fun _ aU => sqv aU rfl (r_gtr (aU.get rfl) rfl) fun _ bZ => sq_end ?_
 have ax := bZ.kp [(1, j), (4, Sl.v f), (5, .int .i64 d), (13, .bool (decide (0 < (f.n : Int))))] rfl
 refine then_normal ?_
 refine wp_cond_split (ax.get rfl) (fun hc => ?_) (fun hc => ?_)
 ·have b0 := aS.1 (of_decide_eq_true hc)
  clear hc
  refine wp_skip ?_
  refine then_normal (wp_block (wp_seq (wp_region_lit ?_)))
  refine sqv ax rfl (r_move (ax.get rfl)) fun _ aV => sqv aV rfl (r_move (aV.get rfl)) fun _ aX => sqv aX rfl (r_len (aX.get rfl) tU133) fun _ aY => ?_
  obtain ⟨b1, b2⟩ := b0
  refine sqv aY rfl (r_subI (aY.get rfl) rfl b1) fun _ aH => ?_
  obtain ⟨b3, aB, b4, b5⟩ := b2
  refine sqv aH rfl (r_indexAddr (aH.get rfl) (aH.get rfl) tU133 ti_114 b3 b4) fun _ aZ => ?_
  obtain ⟨q, ad, k, af, b6, b7⟩ := b5
  refine sqv aZ rfl (r_loadN Try.underlying114 rfl ti_114 (aZ.get rfl) b6) fun _ b8 => ?_
  refine sq (opk_new (fun B => .pointer (some ⟨B, 0, none⟩)) b8 rfl (r_alloc (cs := [.pointer none, .int .i64 0, .int .i64 0, .int .i64 0]) ti_114 rfl) fun dG w327 g b9 ca a1 aI _ => ?_)
  have a2 : New x g w327 := ca
  have cb : Chg [] x w327 := b9
  refine sq (opk_store aI a1 (r_store (vs := [.pointer q, .int .i64 ad, .int .i64 k, .int .i64 af]) (aI.get rfl) (aI.get rfl) rfl ti_114 a1 rfl (ones_all _ rfl)) fun dH al a3 cc cd => ?_)
  have a4 : Box al g 114 [.pointer q, .int .i64 ad, .int .i64 k, .int .i64 af] := cc
  have cf := cb.storeNew a2 a3
  have cg := a2.up a3.size
  refine sq_end ?_
  have a5 := cd.kp [(1, j), (4, Sl.v f), (5, .int .i64 d), (6, pB g 0)] rfl
  refine then_normal (wp_seq (wp_region_lit ?_))
  refine sqv a5 rfl (r_move (a5.get rfl)) fun _ a6 => sqv a6 rfl (r_move (a6.get rfl)) fun _ hA343 => sqv hA343 rfl (r_len (hA343.get rfl) tU133) fun _ a8 => ?_
  obtain ⟨ch, ci⟩ := b7
  refine sqv a8 rfl (r_subI (a8.get rfl) rfl ch) fun _ aJ => ?_
  obtain ⟨cj, ck⟩ := ci
  refine sqv aJ rfl (r_sliceH (aJ.get rfl) (aJ.get rfl) tU133 ti_114 cj) fun _ a9 => sqv a9 rfl (r_assign (a9.get rfl)) fun _ cl => sq_end ?_
  have ba := cl.kp [(1, j), (4, Sl.v (Sl.cut f 4 0 ((f.n : Int) - 1).toNat f.c)), (5, .int .i64 d), (6, pB g 0)] rfl
  refine then_normal (wp_seq (wp_seq (wp_region_lit ?_)))
  refine sqv ba rfl (r_move (ba.get rfl)) fun _ bb => sqv bb rfl (r_move (bb.get rfl)) fun _ bd => sqv bd rfl (r_loadN (cs := [.pointer q, .int .i64 ad, .int .i64 k, .int .i64 af]) Try.underlying114 rfl ti_114 (bd.get rfl) (a4.part 0 _ rfl)) fun _ ay => ?_
  obtain ⟨au, aC, aD, cm, cn⟩ := ck
  have co := cn al g cg  cf
  obtain ⟨cp, cq⟩ := co
  refine sq (opk_call ay rfl (r_callO (args := #[.int .i64 d, .agg #[.pointer q, .int .i64 ad, .int .i64 k, .int .i64 af]]) cp (map_arr (ml_cons (ay.get rfl) (ml_cons (ay.get rfl) ml_nil))) (((ay.get rfl)).trans cm)) cq fun dI dJ ao bf _ cr dK ct => ?_)
  obtain ⟨ap, rfl, bg⟩ := ct
  have bh := a4.kept cr (.head _)
  refine sqv bf rfl (r_not (bf.get rfl)) fun _ cu => sq_end ?_
  have az := cu.kp [(1, j), (4, Sl.v (Sl.cut f 4 0 ((f.n : Int) - 1).toNat f.c)), (5, .int .i64 d), (6, pB g 0), (29, .bool (!ap))] rfl
  refine then_normal ?_
  refine wp_cond_split (az.get rfl) (fun hc => ?_) (fun hc => ?_)
  ·have cv := bg.1 (b_not_t hc)
   clear hc
   refine wp_exit ?_
   refine then_exit ?_
   refine block_miss rfl ?_
   refine then_exit ?_
   refine block_hit ?_
   have cx := az.kp [] rfl
   refine sco_normal ?_
   refine res_end ?_
   exact res_all (vs := []) rfl cx trivial cv
  ·have cy := bg.2 (b_not_f hc)
   clear hc
   refine wp_skip ?_
   refine then_normal (wp_seq (wp_seq (wp_region_lit ?_)))
   refine sqv az rfl (r_fieldAddr (az.get rfl) Try.underlying114 rfl ti_112 (by decide)) fun _ bi => sqv bi rfl (r_load1 tU112 rfl (bi.get rfl) (bh.cell 0 _ rfl)) fun _ bj => ?_
   obtain ⟨aF, cz, cA⟩ := cy
   refine sqv bj rfl (r_nilCheckP (((bj.get rfl)).trans (congrArg Value.pointer cz))) fun _ bk => sqv bk rfl (r_fieldAddr (bk.get rfl) Try.underlying26 rfl ti_24 (by decide)) fun _ bl => ?_
   obtain ⟨ah, cB, cC⟩ := cA
   refine sqv bl rfl (r_load1 tU24 rfl (bl.get rfl) cB) fun _ bm => sqv bm rfl (r_len (bm.get rfl) tU24) fun _ bn => ?_
   obtain ⟨cD, cF⟩ := cC
   refine sqv bn rfl (r_subI (bn.get rfl) rfl cD) fun _ bo => sqv bo rfl (r_assign (bo.get rfl)) fun _ cG => sq_end ?_
   have cH := cG.kp [(1, j), (4, Sl.v (Sl.cut f 4 0 ((f.n : Int) - 1).toNat f.c)), (5, .int .i64 d), (6, pB g 0), (7, .int .i64 ((ah.n : Int) - 1))] rfl
   refine then_normal (wp_block ?_)
   obtain ⟨aq, av, cI, cJ⟩ := cF
   refine wp_loop_st (σ := Sl × Int × World) (fun s a w => Ag 59 a [(1, j), (4, Sl.v s.1), (5, .int .i64 d), (6, pB g 0), (7, .int .i64 s.2.1)] ∧ Box w g 114 [.pointer q, .int .i64 ad, .int .i64 k, .int .i64 af] ∧ w = s.2.2 ∧ aq s.1 s.2.1 s.2.2) (fun s => av s.1 s.2.1 s.2.2) (Sl.cut f 4 0 ((f.n : Int) - 1).toNat f.c, (ah.n : Int) - 1, ao) ⟨cH.kp [(1, j), (4, Sl.v (Sl.cut f 4 0 ((f.n : Int) - 1).toNat f.c)), (5, .int .i64 d), (6, pB g 0), (7, .int .i64 ((ah.n : Int) - 1))] rfl, bh, rfl, cI⟩ ?_
   rintro ⟨m, b, aa⟩ dL w_ ⟨bp, cK, hw_, cL⟩
   have hw_ : aa = w_ := hw_.symm
   subst hw_
   have bq := cJ m b _ cL
   refine wp_seq (wp_seq (wp_region_lit ?_))
   refine sqv bp rfl (r_move (bp.get rfl)) fun _ br => sqv br rfl (r_geq (br.get rfl) rfl) fun _ cM => sq_end ?_
   have l := cM.kp [(1, j), (4, Sl.v m), (5, .int .i64 d), (6, pB g 0), (7, .int .i64 b), (38, .bool (decide (0 ≤ b)))] rfl
   refine then_normal ?_
   refine wp_cond_split (l.get rfl) (fun hc => ?_) (fun hc => ?_)
   ·have cN := bq.1 (of_decide_eq_true hc)
    clear hc
    refine wp_skip ?_
    refine then_normal (wp_seq (wp_block ?_))
    refine draw' (by kernel_rfl) fun ab bs => ?_
    have aA := cK.ext bs
    have cO : Chg [] aa ab := bs
    have cP := cN ab    cO
    obtain ⟨ai, cQ, cR⟩ := cP
    obtain ⟨am, cS, cT⟩ := cR
    obtain ⟨p, bt, cU⟩ := cT
    obtain ⟨cX, cY⟩ := cU
    refine par (D := [[], [], [1], [1, 2], [1, 2, 3], [1, 2, 3, 4], [], [1, 2, 3, 4, 5, 6], [], [], [9], [9, 10], [], [1, 2, 3, 4, 5, 6, 7, 8, 9, 10, 11, 12], [1, 2, 3, 4, 5, 6, 7, 8, 9, 10, 11, 12, 13], [0, 1, 2, 3, 4, 5, 6, 7, 8, 9, 10, 11, 12, 13, 14], [0, 1, 2, 3, 4, 5, 6, 7, 8, 9, 10, 11, 12, 13, 14, 15]]) (S := [0, 1, 2, 3, 4, 5, 6, 7, 8, 9, 10, 11, 12, 13, 14]) (F := []) (V := VL [(0, fun v _ => v = Sl.v m), (1, fun v _ => v = pB g 0), (2, fun v _ => v = .pointer q), (3, fun v _ => v = .pointer (some ai)), (4, fun v _ => v = .pointer (some (ai.add 4))), (5, fun v _ => v = Sl.v am), (6, fun v _ => v = .int .i64 b), (7, fun v _ => v = .pointer (some (p.add (b.toNat * 5)))), (8, fun v _ => v = .int .i64 d), (9, fun v _ => v = pB g 2), (10, fun v _ => v = .int .i64 k), (11, fun v _ => v = .int .i64 (k + 1)), (12, fun v _ => v = .int .i64 b), (13, fun v _ => v = .agg #[.pointer (some (p.add (b.toNat * 5))), .int .i64 d, .int .i64 (k + 1), .int .i64 b]), (14, fun v w' => ∃ o : Nat, ab.heap.size ≤ o ∧ Box w' o 114 [.pointer (some (p.add (b.toNat * 5))), .int .i64 d, .int .i64 (k + 1), .int .i64 b] ∧ v = Sl.v (Sl.mk (some ⟨o, 0, none⟩) 1 1))]) l (by kernel_rfl) ⟨fun _ _ _ _ h => h, fun _ _ _ _ h => h, fun _ _ _ _ h => h, fun _ _ _ _ h => h, fun _ _ _ _ h => h, fun _ _ _ _ h => h, fun _ _ _ _ h => h, fun _ _ _ _ h => h, fun _ _ _ _ h => h, fun _ _ _ _ h => h, fun _ _ _ _ h => h, fun _ _ _ _ h => h, fun _ _ _ _ h => h, fun _ _ _ _ h => h, fun _ _ _ hE ⟨o, h0_, h1_, e⟩ => ⟨o, h0_, (h1_.ext hE), e⟩, trivial⟩ ⟨?_, ?_, ?_, ?_, ?_, ?_, ?_, ?_, ?_, ?_, ?_, ?_, ?_, ?_, ?_, trivial⟩ ?_
    ·intro a w hT
     have hAp := hT.ag l [(4, Sl.v m)] ⟨rfl, trivial⟩ (by kernel_rfl)
     exact ovr hAp rfl (r_move (hAp.get rfl)) fun _ => Eq.refl _
    ·intro a w hT
     have hAp := hT.ag l [(6, pB g 0)] ⟨rfl, trivial⟩ (by kernel_rfl)
     exact ovr hAp rfl (r_fieldAddr (hAp.get rfl) Try.underlying114 rfl ti_112 (by decide)) fun _ => Eq.refl _
    ·intro a w hT
     have hAp := hT.ag l [] trivial (by kernel_rfl)
     have hAp := hAp.add (t := 42) (v := pB g 0) (hT.vals 1 rfl 42 rfl)
     exact ovr hAp rfl (r_load1 tU112 rfl (hAp.get rfl) ((aA.ext hT.chg).cell 0 _ rfl)) fun _ => Eq.refl _
    ·intro a w hT
     have hAp := hT.ag l [] trivial (by kernel_rfl)
     have hAp := hAp.add (t := 43) (v := .pointer q) (hT.vals 2 rfl 43 rfl)
     exact ovr hAp rfl (r_nilCheckP (((hAp.get rfl)).trans (congrArg Value.pointer cQ))) fun _ => Eq.refl _
    ·intro a w hT
     have hAp := hT.ag l [] trivial (by kernel_rfl)
     have hAp := hAp.add (t := 44) (v := .pointer (some ai)) (hT.vals 3 rfl 44 rfl)
     exact ovr hAp rfl (r_fieldAddr (hAp.get rfl) Try.underlying26 rfl ti_24 (by decide)) fun _ => Eq.refl _
    ·intro a w hT
     have hAp := hT.ag l [] trivial (by kernel_rfl)
     have hAp := hAp.add (t := 45) (v := .pointer (some (ai.add 4))) (hT.vals 4 rfl 45 rfl)
     exact ovr hAp rfl (r_load1 tU24 rfl (hAp.get rfl) (Ext.cell hT.chg cS)) fun _ => Eq.refl _
    ·intro a w hT
     have hAp := hT.ag l [(7, .int .i64 b)] ⟨rfl, trivial⟩ (by kernel_rfl)
     exact ovr hAp rfl (r_move (hAp.get rfl)) fun _ => Eq.refl _
    ·intro a w hT
     have hAp := hT.ag l [] trivial (by kernel_rfl)
     have hAp := hAp.add (t := 46) (v := Sl.v am) (hT.vals 5 rfl 46 rfl)
     have hAp := hAp.add (t := 47) (v := .int .i64 b) (hT.vals 6 rfl 47 rfl)
     exact ovr hAp rfl (r_indexAddr (hAp.get rfl) (hAp.get rfl) tU24 ti_26 bt.1 bt.2) fun _ => Eq.refl _
    ·intro a w hT
     have hAp := hT.ag l [(5, .int .i64 d)] ⟨rfl, trivial⟩ (by kernel_rfl)
     exact ovr hAp rfl (r_move (hAp.get rfl)) fun _ => Eq.refl _
    ·intro a w hT
     have hAp := hT.ag l [(6, pB g 0)] ⟨rfl, trivial⟩ (by kernel_rfl)
     exact ovr hAp rfl (r_fieldAddr (hAp.get rfl) Try.underlying114 rfl ti_3 (by decide)) fun _ => Eq.refl _
    ·intro a w hT
     have hAp := hT.ag l [] trivial (by kernel_rfl)
     have hAp := hAp.add (t := 50) (v := pB g 2) (hT.vals 9 rfl 50 rfl)
     exact ovr hAp rfl (r_load1 tU3 rfl (hAp.get rfl) ((aA.ext hT.chg).cell 2 _ rfl)) fun _ => Eq.refl _
    ·intro a w hT
     have hAp := hT.ag l [] trivial (by kernel_rfl)
     have hAp := hAp.add (t := 51) (v := .int .i64 k) (hT.vals 10 rfl 51 rfl)
     exact ovr hAp rfl (r_addI (hAp.get rfl) rfl cX) fun _ => Eq.refl _
    ·intro a w hT
     have hAp := hT.ag l [(7, .int .i64 b)] ⟨rfl, trivial⟩ (by kernel_rfl)
     exact ovr hAp rfl (r_move (hAp.get rfl)) fun _ => Eq.refl _
    ·intro a w hT
     have hAp := hT.ag l [] trivial (by kernel_rfl)
     have hAp := hAp.add (t := 48) (v := .pointer (some (p.add (b.toNat * 5)))) (hT.vals 7 rfl 48 rfl)
     have hAp := hAp.add (t := 49) (v := .int .i64 d) (hT.vals 8 rfl 49 rfl)
     have hAp := hAp.add (t := 52) (v := .int .i64 (k + 1)) (hT.vals 11 rfl 52 rfl)
     have hAp := hAp.add (t := 53) (v := .int .i64 b) (hT.vals 12 rfl 53 rfl)
     exact ovr hAp rfl (r_build (vs := #[(0, .pointer (some (p.add (b.toNat * 5)))), (1, .int .i64 d), (2, .int .i64 (k + 1)), (3, .int .i64 b)]) (cells := #[.pointer (some (p.add (b.toNat * 5))), .int .i64 d, .int .i64 (k + 1), .int .i64 b]) (map_arr2 (ml2_cons (hAp.get rfl) (ml2_cons (hAp.get rfl) (ml2_cons (hAp.get rfl) (ml2_cons (hAp.get rfl) (ml2_nil)))))) ti_114 Try.underlying114 pl_114 (by kernel_rfl)) fun _ => Eq.refl _
    ·intro a w hT
     have hAp := hT.ag l [] trivial (by kernel_rfl)
     have hAp := hAp.add (t := 54) (v := .agg #[.pointer (some (p.add (b.toNat * 5))), .int .i64 d, .int .i64 (k + 1), .int .i64 b]) (hT.vals 13 rfl 54 rfl)
     exact opk_new (fun B => .slice (some ⟨B, 0, none⟩) 1 1) hAp rfl (r_buildSlice (vs := #[(0, .agg #[.pointer (some (p.add (b.toNat * 5))), .int .i64 d, .int .i64 (k + 1), .int .i64 b])]) (cs := [.pointer (some (p.add (b.toNat * 5))), .int .i64 d, .int .i64 (k + 1), .int .i64 b]) (map_arr2 (ml2_cons (hAp.get rfl) (ml2_nil))) tU133 ti_114 rfl rfl (by kernel_rfl)) fun _ dM o cZ c0 c1 _ e => ⟨_, e, cZ, fun _ => ⟨o, Nat.le_trans hT.chg.size c0.ge, c1, rfl⟩⟩
    ·intro c2 aj aK c3 bu
     have c4 := c3 [(1, j), (4, Sl.v m), (5, .int .i64 d), (6, pB g 0), (7, .int .i64 b)] ⟨rfl, rfl, rfl, rfl, rfl, trivial⟩ (by kernel_rfl)
     have c5 : c2.tmps.getD 41 undef = Sl.v m := bu 0 rfl 41 rfl
     have c6 := c4.add c5
     obtain ⟨o, bv, bx, c7⟩ := bu 14 rfl 55 rfl
     have aL := c6.add c7
     have c8 := aA.ext aK
     have dN : Chg [] ab aj := aK
     have c9 := cY aj o aK bv bx
     have dO : g ≠ o := Nat.ne_of_lt (Nat.lt_of_lt_of_le aA.lt bv)
     have da := c9 bx
     refine one (D := [[], [], [1], [1, 2], [1, 2, 3], [1, 2, 3, 4], [], [1, 2, 3, 4, 5, 6], [], [], [9], [9, 10], [], [1, 2, 3, 4, 5, 6, 7, 8, 9, 10, 11, 12], [1, 2, 3, 4, 5, 6, 7, 8, 9, 10, 11, 12, 13], [0, 1, 2, 3, 4, 5, 6, 7, 8, 9, 10, 11, 12, 13, 14], [0, 1, 2, 3, 4, 5, 6, 7, 8, 9, 10, 11, 12, 13, 14, 15]]) (i := 15) rfl (by kernel_rfl) (opk_run aL rfl (fun _ _ hr => r_append (aL.get rfl) (aL.get rfl) hr) da fun dP dQ aG bz _ db dR dc => ?_)
     obtain ⟨r, rfl, dd⟩ := dc
     have df := c8.kept db (.head _)
     refine par (D := [[], [], [1], [1, 2], [1, 2, 3], [1, 2, 3, 4], [], [1, 2, 3, 4, 5, 6], [], [], [9], [9, 10], [], [1, 2, 3, 4, 5, 6, 7, 8, 9, 10, 11, 12], [1, 2, 3, 4, 5, 6, 7, 8, 9, 10, 11, 12, 13], [0, 1, 2, 3, 4, 5, 6, 7, 8, 9, 10, 11, 12, 13, 14], [0, 1, 2, 3, 4, 5, 6, 7, 8, 9, 10, 11, 12, 13, 14, 15]]) (S := [16]) (F := []) (V := VL [(16, fun v _ => v = Sl.v r)]) bz (by kernel_rfl) ⟨fun _ _ _ _ h => h, trivial⟩ ⟨?_, trivial⟩ ?_
     ·intro a w hT
      have hAp := hT.ag bz [(56, Sl.v r)] ⟨rfl, trivial⟩ (by kernel_rfl)
      exact ovr hAp rfl (r_assign (hAp.get rfl)) fun _ => Eq.refl _
     ·intro dg ak bA dh di
      have dj := dh [(1, j), (5, .int .i64 d), (6, pB g 0), (7, .int .i64 b)] ⟨rfl, rfl, rfl, rfl, trivial⟩ (by kernel_rfl)
      have dk : dg.tmps.getD 4 undef = Sl.v r := di 16 rfl 4 rfl
      have dl := dj.add dk
      have dm := df.ext bA
      have dn : Chg [] aG ak := bA
      refine PR_end (by kernel_rfl) ?_
      have bB := dl.kp [(1, j), (4, Sl.v r), (5, .int .i64 d), (6, pB g 0), (7, .int .i64 b)] rfl
      refine block_normal ?_
      refine then_normal (wp_region_lit ?_)
      refine sqv bB rfl (r_move (bB.get rfl)) fun _ bC => ?_
      obtain ⟨dp, dq⟩ := dd
      refine sqv bC rfl (r_subI (bC.get rfl) rfl dp) fun _ bD => sqv bD rfl (r_assign (bD.get rfl)) fun _ dr => sq_end ?_
      have ds := dr.kp [(1, j), (4, Sl.v r), (5, .int .i64 d), (6, pB g 0), (7, .int .i64 (b - 1))] rfl
      have bF := dq ak    dn
      have dt := ds.kp [(1, j), (4, Sl.v r), (5, .int .i64 d), (6, pB g 0), (7, .int .i64 (b - 1))] rfl
      exact then_normal ⟨(r, b - 1, ak), ⟨dt, dm, rfl, bF.1⟩, bF.2⟩
   ·have du := bq.2 (of_decide_eq_false hc)
    clear hc
    refine wp_exit ?_
    refine then_exit ?_
    refine then_exit ?_
    refine block_hit ?_
    have bG := l.kp [(1, j), (4, Sl.v m), (5, .int .i64 d)] rfl
    refine then_normal (wp_region_lit ?_)
    refine sqv bG rfl (r_move (bG.get rfl)) fun _ bH => ?_
    obtain ⟨dv, bI⟩ := du
    refine sqv bH rfl (r_addI (bH.get rfl) rfl dv) fun _ bJ => sqv bJ rfl (r_assign (bJ.get rfl)) fun _ dx => sq_end ?_
    have dy := dx.kp [(1, j), (4, Sl.v m), (5, .int .i64 (d + 1))] rfl
    refine block_normal ?_
    have dz := dy.kp [(1, j), (4, Sl.v m), (5, .int .i64 (d + 1))] rfl
    exact then_normal ⟨(m, d + 1, aa), ⟨dz, rfl, bI.1⟩, bI.2⟩
 ·have dA := aS.2 (of_decide_eq_false hc)
  clear hc
  refine wp_exit ?_
  refine then_exit ?_
  refine then_exit ?_
  refine block_hit ?_
  have dB := ax.kp [] rfl
  refine sco_normal ?_
  refine res_end ?_
  exact res_all (vs := []) rfl dB trivial dA
def walk_Flat_1.vc (__1 : Int) (s : Option Addr) (j : Int) (k : Int) (l : Int) (m : Addr) (R : Value → World → Prop) (w : World) : Prop :=
∃ ag : Addr, (s = some ag) ∧
∀ (i : World) (d : Nat), New w d i → Chg [] w i →
∃ (f : Int) (g : Str) (h : Str) (r : Sl) (aa : Sl), (Cells i ag [.int .i64 f, .string (Bs g), .string (Bs h), Sl.v r, Sl.v aa]) ∧
∀ (t : World) (c : Nat), New i c t → Chg [] i t →
CallK Try.prog 64 #[Sl.v r] t [d, c] (fun v ah => ∃ (n : Sl), v = Sl.v n ∧
∀ (o : World), Chg [c] ah o →
∃ (ai : Sl), (o.cell? m = some (Sl.v ai)) ∧
∀ (p : World) (q : Nat), New o q p → Chg [] o p →
∀ (_ : Box p q 86 [.int .i64 j, .int .i64 1, .int .i64 k, .int .i64 1, .int .i64 l, .int .i64 f, .string (Bs g), .string (Bs h), Sl.v n, Sl.v Sl.nil]),
RunK Try.prog (Builtin.append_ #[79, 79] 79 #[Sl.v ai, Sl.v (Sl.mk (some ⟨q, 0, none⟩) 1 1)]) p [d, c] (fun v aj => ∃ (ab : Sl), v = Sl.v ab ∧
∃ (u ad : Nat) (ak : TypeId) (af : List Value), m = ⟨u, ad, none⟩ ∧ Box aj u ak af ∧ ad + 1 ≤ af.length ∧ (∀ b ∈ [d, c], b ≠ u) ∧
(∀ x : World, Chg [u] aj x → Box x u ak (putAt af ad [Sl.v ab]) →
R (.bool true) x)))
theorem walk_Flat_1.ok (__1 : Int) (s : Option Addr) (j : Int) (k : Int) (l : Int) (m : Addr) {R : Value → World → Prop} {w : World} (aA : walk_Flat_1.vc __1 s j k l m R w) : Calls Try.prog 63 #[.int .i64 __1, .agg #[.pointer s, .int .i64 j, .int .i64 k, .int .i64 l], .pointer (some m)] w (Ret R) := by
 refine enter [.int .i64 __1, .agg #[.pointer s, .int .i64 j, .int .i64 k, .int .i64 l], .pointer (some m)] Try.func63 rfl Try.ntmps63 rfl ?_
 intro a0 aB
 unfold walk_Flat_1.vc at aA
 refine wp_seq (wp_region_lit ?_)
 refine sq (opk_new (fun B => .pointer (some ⟨B, 0, none⟩)) aB rfl (r_box (cs := [.pointer s, .int .i64 j, .int .i64 k, .int .i64 l]) (aB.get rfl) rfl) fun a6 i d bd bf al bg _ => ?_)
 have bh : New w d i := bf
 have bi : Chg [] w i := bd
 refine sqv bg rfl (r_assign rfl) fun _ bj => sq_end ?_
 have aC := bj.kp [(2, .pointer (some m)), (4, pB d 0)] rfl
 refine then_normal (wp_seq (wp_region_lit ?_))
 refine sqv aC rfl (r_fieldAddr (aC.get rfl) Try.underlying114 rfl ti_112 (by decide)) fun _ aD => sqv aD rfl (r_load1 tU112 rfl (aD.get rfl) (al.cell 0 _ rfl)) fun _ aF => ?_
 obtain ⟨ag, bk, bl⟩ := aA
 refine sqv aF rfl (r_nilCheckP (((aF.get rfl)).trans (congrArg Value.pointer bk))) fun _ aG => ?_
 have bm := bl i d bh  bi
 obtain ⟨f, g, h, r, aa, bn, bo⟩ := bm
 refine sqv aG rfl (r_loadN Try.underlying26 rfl ti_26 (aG.get rfl) bn) fun _ bp => ?_
 refine sq (opk_new (fun B => .pointer (some ⟨B, 0, none⟩)) bp rfl (r_alloc (cs := [.int .i64 0, .string (Bs []), .string (Bs []), Sl.v Sl.nil, Sl.v Sl.nil]) ti_26 rfl) fun cb aH c aI aJ aK am _ => ?_)
 have an : d ≠ c := Nat.ne_of_lt (Nat.lt_of_lt_of_le al.lt aJ.ge)
 have aL : New i c aH := aJ
 have bq := al.ext aI
 have br : Chg [] i aH := aI
 refine sq (opk_store am aK (r_store (vs := [.int .i64 f, .string (Bs g), .string (Bs h), Sl.v r, Sl.v aa]) (am.get rfl) (am.get rfl) rfl ti_26 aK rfl (ones_all _ rfl)) fun cc bs ao bt bu => ?_)
 have aM : Box bs c 26 [.int .i64 f, .string (Bs g), .string (Bs h), Sl.v r, Sl.v aa] := bt
 have bv := bq.keep ao (by simpa using an)
 have bx := br.storeNew aL ao
 have aN := aL.up ao.size
 refine sq_end ?_
 have aO := bu.kp [(2, .pointer (some m)), (4, pB d 0), (6, pB c 0)] rfl
 refine then_normal (wp_seq (wp_region_lit ?_))
 refine sqv aO rfl (r_fieldAddr (aO.get rfl) Try.underlying26 rfl ti_24 (by decide)) fun _ aP => ?_
 refine sq (opk_store aP aM (r_store (vs := [Sl.v Sl.nil]) (aP.get rfl) rfl rfl ti_24 aM rfl (ones_all _ rfl)) fun cd t ap bz bA => ?_)
 have aQ : Box t c 26 [.int .i64 f, .string (Bs g), .string (Bs h), Sl.v r, Sl.v Sl.nil] := bz
 have bB := bv.keep ap (by simpa using an)
 have bC := bx.storeNew aN ap
 have bD := aN.up ap.size
 refine sq_end ?_
 have aR := bA.kp [(2, .pointer (some m)), (4, pB d 0), (6, pB c 0)] rfl
 refine then_normal (wp_seq (wp_region_lit ?_))
 refine sqv aR rfl (r_fieldAddr (aR.get rfl) Try.underlying26 rfl ti_23 (by decide)) fun _ aS => sqv aS rfl (r_load1 tU23 rfl (aS.get rfl) (aQ.cell 3 _ rfl)) fun _ aT => ?_
 have bF := bo t c bD  bC
 refine sq (opk_call aT rfl (r_call (args := #[Sl.v r]) Try.func64 (by decide) rfl (map_arr (ml_cons (aT.get rfl) ml_nil)) rfl) bF fun cf cg ah aU _ aV ch bG => ?_)
 obtain ⟨n, rfl, bH⟩ := bG
 have bI := bB.kept aV (.head _)
 have aX := aQ.kept aV (.tail _ (.head _))
 refine sqv aU rfl (r_fieldAddr (aU.get rfl) Try.underlying26 rfl ti_23 (by decide)) fun _ aq => ?_
 refine sq (opk_store aq aX (r_store (vs := [Sl.v n]) (aq.get rfl) (aq.get rfl) rfl ti_23 aX rfl (ones_all _ rfl)) fun ci o aY bJ bK => ?_)
 have ar : Box o c 26 [.int .i64 f, .string (Bs g), .string (Bs h), Sl.v n, Sl.v Sl.nil] := bJ
 have y := bI.keep aY (by simpa using an)
 have bL : Chg [c] ah o := aY
 refine sq_end ?_
 have aZ := bK.kp [(2, .pointer (some m)), (4, pB d 0), (6, pB c 0)] rfl
 refine then_normal (wp_seq (wp_region_lit ?_))
 have bM := bH o    bL
 obtain ⟨ai, bN, bO⟩ := bM
 refine sqv aZ rfl (r_load1 tU79 rfl (aZ.get rfl) bN) fun _ hA76 => sqv hA76 rfl (r_fieldAddr (hA76.get rfl) Try.underlying114 rfl ti_3 (by decide)) fun _ a1 => sqv a1 rfl (r_load1 tU3 rfl (a1.get rfl) (y.cell 1 _ rfl)) fun _ a2 => sqv a2 rfl (r_fieldAddr (a2.get rfl) Try.underlying114 rfl ti_3 (by decide)) fun _ a3 => sqv a3 rfl (r_load1 tU3 rfl (a3.get rfl) (y.cell 2 _ rfl)) fun _ a4 => sqv a4 rfl (r_fieldAddr (a4.get rfl) Try.underlying114 rfl ti_3 (by decide)) fun _ a5 => sqv a5 rfl (r_load1 tU3 rfl (a5.get rfl) (y.cell 3 _ rfl)) fun _ hA86 => sqv hA86 rfl (r_loadN (cs := [.int .i64 f, .string (Bs g), .string (Bs h), Sl.v n, Sl.v Sl.nil]) Try.underlying26 rfl ti_26 (hA86.get rfl) (ar.part 0 _ rfl)) fun _ z => ?_
 refine sqv z rfl (r_build (vs := #[(0, .int .i64 j), (1, .int .i64 1), (2, .int .i64 k), (3, .int .i64 1), (4, .int .i64 l), (5, .agg #[.int .i64 f, .string (Bs g), .string (Bs h), Sl.v n, Sl.v Sl.nil])]) (cells := #[.int .i64 j, .int .i64 1, .int .i64 k, .int .i64 1, .int .i64 l, .int .i64 f, .string (Bs g), .string (Bs h), Sl.v n, Sl.v Sl.nil]) (map_arr2 (ml2_cons (z.get rfl) (ml2_cons rfl (ml2_cons (z.get rfl) (ml2_cons rfl (ml2_cons (z.get rfl) (ml2_cons (z.get rfl) (ml2_nil)))))))) ti_86 Try.underlying86 pl_86 (by kernel_rfl)) fun _ a7 => ?_
 refine sq (opk_new (fun B => .slice (some ⟨B, 0, none⟩) 1 1) a7 rfl (r_buildSlice (vs := #[(0, .agg #[.int .i64 j, .int .i64 1, .int .i64 k, .int .i64 1, .int .i64 l, .int .i64 f, .string (Bs g), .string (Bs h), Sl.v n, Sl.v Sl.nil])]) (cs := [.int .i64 j, .int .i64 1, .int .i64 k, .int .i64 1, .int .i64 l, .int .i64 f, .string (Bs g), .string (Bs h), Sl.v n, Sl.v Sl.nil]) (map_arr2 (ml2_cons (a7.get rfl) (ml2_nil))) tU79 ti_86 rfl rfl (by kernel_rfl)) fun cj p q au av bP ax _ => ?_)
 have ck : d ≠ q := Nat.ne_of_lt (Nat.lt_of_lt_of_le y.lt av.ge)
 have cl : c ≠ q := Nat.ne_of_lt (Nat.lt_of_lt_of_le ar.lt av.ge)
 have bQ : New o q p := av
 have bR := y.ext au
 have bS := ar.ext au
 have bT : Chg [] o p := au
 have bU := bO p q bQ  bT
 have bV := bU bP
 refine sq (opk_run ax rfl (fun _ _ hr => r_append (ax.get rfl) (ax.get rfl) hr) bV fun cm cn aj ay _ a8 co bX => ?_)
 obtain ⟨ab, rfl, bY⟩ := bX
 have bZ := bR.kept a8 (.head _)
 have b0 := bS.kept a8 (.tail _ (.head _))
 obtain ⟨u, ad, ak, af, b1, a9, b2, ba, b3⟩ := bY
 refine sq (opk_store ay a9 (r_store (vs := [Sl.v ab]) (((ay.get rfl)).trans (congrArg (fun a => Value.pointer (some a)) b1)) (ay.get rfl) rfl ti_79 a9 (Nat.ble_eq_true_of_le b2) (ones_all _ rfl)) fun cp x az b4 b5 => ?_)
 have cq := bZ.keep az (by have := ba d (by simp); simpa using this)
 have cr := b0.keep az (by have := ba c (by simp); simpa using this)
 have b6 := b3 x az b4
 refine sq_end ?_
 have b7 := b5.kp [] rfl
 refine then_normal (wp_seq (wp_region_lit ?_))
 refine sqv b7 rfl (r_assign rfl) fun _ b8 => sq_end ?_
 have bb := b8.kp [(5, .bool true)] rfl
 refine then_normal ?_
 refine wp_ret ?_
 exact res_all (vs := [.bool true]) rfl bb ⟨res_of_tmp bb rfl, trivial⟩ b6
end Go.Proofs.Yteohbfaechfliaa
