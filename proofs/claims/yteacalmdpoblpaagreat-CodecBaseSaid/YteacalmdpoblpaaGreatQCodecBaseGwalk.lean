/-
  PRINTED BY PROGRAM: for each function its condition (vc), and that this suffices (ok).
-/
import Derived.Test.YteacalmdpoblpaaGreatQCodecBaseGT
namespace Go.Proofs.YteacalmdpoblpaaGreat
open Go.RowKit
set_option linter.unusedVariables false
set_option maxHeartbeats 1000000
set_option maxRecDepth 10000
def walk_Flat.vc (ak : Int) (al : Str) (am : Str) (an : Sl) (ao : Sl) (R : Value → World → Prop) (w : World) : Prop :=
∀ (y : World) (o : Nat) (k : Nat), New w o y → New w k y → o ≠ k → Chg [] w y →
∀ (_ : Box y o 39 [.int .i64 ak, .string (Bs al), .string (Bs am), Sl.v an, Sl.v ao]),
∀ (_ : Box y k 158 [Sl.v Sl.nil]),
CallK Tryz.prog 153 #[.pointer (some (⟨o, 0, none⟩ : Addr)), .func (.func 154) #[] #[.pointer (some (⟨k, 0, none⟩ : Addr))]] y [] (fun v aD => v = .tuple #[] ∧
∃ (ad : Sl), (aD.cell? (⟨k, 0, none⟩ : Addr) = some (Sl.v ad)) ∧
(I64 ((ad.n : Int) - 1)) ∧
∃ (aB : Int → World → Prop) (aF : Int → World → Nat),
aB ((ad.n : Int) - 1) aD ∧
(∀ (d : Int) (z : World), aB d z →
((0 < d) →
∀ (r : World), Chg [] z r →
∃ (ap : Sl), (r.cell? (⟨k, 0, none⟩ : Addr) = some (Sl.v ap)) ∧
∃ (aq : Sl), (r.cell? (⟨k, 0, none⟩ : Addr) = some (Sl.v aq)) ∧
∃ af : Addr, (((0 : Int) ≤ d ∧ d < (aq.n : Int)) ∧ aq.a = some af) ∧
∃ (g : Int), (r.cell? ((af.add (d.toNat * 10)).add 0) = some (.int .i64 g)) ∧
∃ j : Addr, (((0 : Int) ≤ g ∧ g < (ap.n : Int)) ∧ ap.a = some j) ∧
∀ (aa : World), Chg [] r aa →
∃ (t : Int), (aa.cell? ((j.add (g.toNat * 10)).add 1) = some (.int .i64 t)) ∧
∃ (ar : Sl), (aa.cell? (⟨k, 0, none⟩ : Addr) = some (Sl.v ar)) ∧
∃ ah : Addr, (((0 : Int) ≤ d ∧ d < (ar.n : Int)) ∧ ar.a = some ah) ∧
∃ (u : Int), (aa.cell? ((ah.add (d.toNat * 10)).add 1) = some (.int .i64 u)) ∧
(I64 (t + u)) ∧
∀ (au : World), Chg [] aa au →
∃ (av aG : Nat) (aK : TypeId) (aH : List Value), ((j.add (g.toNat * 10)).add 1) = ⟨av, aG, none⟩ ∧ Box au av aK aH ∧ aG + 1 ≤ aH.length ∧ (∀ b ∈ [], b ≠ av) ∧
(∀ ax : World, Chg [av] au ax → Box ax av aK (putAt aH aG [.int .i64 (t + u)]) →
∀ (x : World), Chg [] ax x →
∃ (ab : Int), (x.cell? ((j.add (g.toNat * 10)).add 3) = some (.int .i64 ab)) ∧
∃ (ay : Sl), (x.cell? (⟨k, 0, none⟩ : Addr) = some (Sl.v ay)) ∧
∃ ai : Addr, (((0 : Int) ≤ d ∧ d < (ay.n : Int)) ∧ ay.a = some ai) ∧
∃ (p : Int), (x.cell? ((ai.add (d.toNat * 10)).add 3) = some (.int .i64 p)) ∧
(I64 (p + 1)) ∧
∀ (az : World), Chg [] x az →
∃ (aA aI : Nat) (aL : TypeId) (aJ : List Value), ((j.add (g.toNat * 10)).add 3) = ⟨aA, aI, none⟩ ∧ Box az aA aL aJ ∧ aI + 1 ≤ aJ.length ∧ (∀ b ∈ [], b ≠ aA) ∧
(∀ aj : World, Chg [aA] az aj → Box aj aA aL (putAt aJ aI [.int .i64 (max ab (p + 1))]) →
(I64 (d - 1)) ∧
aB (d - 1) aj ∧ aF (d - 1) aj < aF d z))) ∧
((¬ (0 < d)) →
∃ (aC : Sl), (z.cell? (⟨k, 0, none⟩ : Addr) = some (Sl.v aC)) ∧
R (Sl.v aC) z)))
theorem walk_Flat.ok (ak : Int) (al : Str) (am : Str) (an : Sl) (ao : Sl) {R : Value → World → Prop} {w : World} (aQ : walk_Flat.vc ak al am an ao R w) : Calls Tryz.prog 113 #[.agg #[.int .i64 ak, .string (Bs al), .string (Bs am), Sl.v an, Sl.v ao]] w (Ret R) := by
 refine enter [.agg #[.int .i64 ak, .string (Bs al), .string (Bs am), Sl.v an, Sl.v ao]] Tryz.func113 rfl Tryz.ntmps113 rfl ?_
 intro a0 aR
 unfold walk_Flat.vc at aQ
 refine wp_seq (wp_region_lit ?_)
 refine sq (opk_new (fun B => .pointer (some ⟨B, 0, none⟩)) aR rfl (r_box (cs := [.int .i64 ak, .string (Bs al), .string (Bs am), Sl.v an, Sl.v ao]) (aR.get rfl) rfl) fun a4 w3 o bo bp aT bq _ => ?_)
 have br : New w o w3 := bp
 have aU : Chg [] w w3 := bo
 refine sqv bq rfl (r_assign rfl) fun _ bs => sq_end ?_
 have bt := bs.kp [(1, .pointer (some (⟨o, 0, none⟩ : Addr)))] rfl
 refine then_normal (wp_seq (wp_region_lit ?_))
 refine sq (opk_new (fun B => .pointer (some ⟨B, 0, none⟩)) bt rfl (r_alloc (cs := [Sl.v Sl.nil]) ti_158 rfl) fun dX y k aM aV bu bv _ => ?_)
 have bx : o ≠ k := Nat.ne_of_lt (Nat.lt_of_lt_of_le aT.lt aV.ge)
 have bz := New.of aU aV
 have bA := aT.ext aM
 have bB := aU.more aM
 have bC := br.up aM.size
 refine sq_end ?_
 have aX := bv.kp [(1, .pointer (some (⟨o, 0, none⟩ : Addr))), (3, .pointer (some (⟨k, 0, none⟩ : Addr)))] rfl
 refine then_normal (wp_seq (wp_region_lit ?_))
 refine sqv aX rfl (r_makeFunc (f := #[]) (c := #[.pointer (some (⟨k, 0, none⟩ : Addr))]) (map_arr ml_nil) (map_arr (ml_cons (aX.get rfl) ml_nil))) fun _ aN => ?_
 have bD := aQ y o k bC bz bx bB
 have bF := bD bA
 have bG := bF bu
 refine sq (opk_call aN rfl (r_call (args := #[.pointer (some (⟨o, 0, none⟩ : Addr)), .func (.func 154) #[] #[.pointer (some (⟨k, 0, none⟩ : Addr))]]) Tryz.func153 (by decide) rfl (map_arr (ml_cons (aN.get rfl) (ml_cons (aN.get rfl) ml_nil))) rfl) bG fun dY dZ aD bH _ d0 d1 bI => ?_)
 obtain ⟨rfl, bJ⟩ := bI
 refine sq_end ?_
 have aY := bH.kp [(3, .pointer (some (⟨k, 0, none⟩ : Addr)))] rfl
 refine then_normal (wp_seq (wp_seq (wp_region_lit ?_)))
 obtain ⟨ad, bK, bL⟩ := bJ
 refine sqv aY rfl (r_load1 tU158 rfl (aY.get rfl) bK) fun _ aZ => sqv aZ rfl (r_len (aZ.get rfl) tU158) fun _ hA40 => ?_
 obtain ⟨bM, bN⟩ := bL
 refine sqv hA40 rfl (r_subI (hA40.get rfl) rfl bM) fun _ a1 => sqv a1 rfl (r_assign (a1.get rfl)) fun _ bO => sq_end ?_
 have bP := bO.kp [(3, .pointer (some (⟨k, 0, none⟩ : Addr))), (4, .int .i64 ((ad.n : Int) - 1))] rfl
 refine then_normal (wp_block ?_)
 obtain ⟨aB, aF, bQ, bR⟩ := bN
 refine wp_loop_st (σ := Int × World) (fun s a w => Ag 49 a [(3, .pointer (some (⟨k, 0, none⟩ : Addr))), (4, .int .i64 s.1)] ∧ w = s.2 ∧ aB s.1 s.2) (fun s => aF s.1 s.2) ((ad.n : Int) - 1, aD) ⟨bP.kp [(3, .pointer (some (⟨k, 0, none⟩ : Addr))), (4, .int .i64 ((ad.n : Int) - 1))] rfl, rfl, bQ⟩ ?_
 rintro ⟨d, z⟩ d2 w_ ⟨a2, hw_, bS⟩
 have hw_ : z = w_ := hw_.symm
 subst hw_
 have a3 := bR d _ bS
 refine wp_seq (wp_seq (wp_region_lit ?_))
 refine sqv a2 rfl (r_move (a2.get rfl)) fun _ hA216 => sqv hA216 rfl (r_gtr (hA216.get rfl) rfl) fun _ bT => sq_end ?_
 have q := bT.kp [(3, .pointer (some (⟨k, 0, none⟩ : Addr))), (4, .int .i64 d), (12, .bool (decide (0 < d)))] rfl
 refine then_normal ?_
 refine wp_cond_split (q.get rfl) (fun hc => ?_) (fun hc => ?_)
 ·have bU := a3.1 (of_decide_eq_true hc)
  clear hc
  refine wp_skip ?_
  refine then_normal (wp_seq (wp_block (wp_seq ?_)))
  refine draw' (by kernel_rfl) fun r bV => ?_
  have bX : Chg [] z r := bV
  have bY := bU r    bX
  obtain ⟨ap, bZ, b0⟩ := bY
  obtain ⟨aq, b1, b2⟩ := b0
  obtain ⟨af, a5, b3⟩ := b2
  obtain ⟨g, b4, b5⟩ := b3
  obtain ⟨j, a6, b6⟩ := b5
  refine par (D := [[], [], [], [1, 2], [1, 2, 3], [1, 2, 3, 4], [0, 1, 2, 3, 4, 5], [0, 1, 2, 3, 4, 5, 6]]) (S := [0, 1, 2, 3, 4, 5, 6, 7]) (F := []) (V := VL [(0, fun v _ => v = Sl.v ap), (1, fun v _ => v = Sl.v aq), (2, fun v _ => v = .int .i64 d), (3, fun v _ => v = .pointer (some (af.add (d.toNat * 10)))), (4, fun v _ => v = .pointer (some ((af.add (d.toNat * 10)).add 0))), (5, fun v _ => v = .int .i64 g), (6, fun v _ => v = .pointer (some (j.add (g.toNat * 10)))), (7, fun v _ => v = .pointer (some (j.add (g.toNat * 10))))]) q (by kernel_rfl) ⟨fun _ _ _ _ h => h, fun _ _ _ _ h => h, fun _ _ _ _ h => h, fun _ _ _ _ h => h, fun _ _ _ _ h => h, fun _ _ _ _ h => h, fun _ _ _ _ h => h, fun _ _ _ _ h => h, trivial⟩ ⟨?_, ?_, ?_, ?_, ?_, ?_, ?_, ?_, trivial⟩ ?_
  ·intro a w hT
   have hAp := hT.ag q [(3, .pointer (some (⟨k, 0, none⟩ : Addr)))] ⟨rfl, trivial⟩ (by kernel_rfl)
   exact ovr hAp rfl (r_load1 tU158 rfl (hAp.get rfl) (Ext.cell hT.chg bZ)) fun _ => Eq.refl _
  ·intro a w hT
   have hAp := hT.ag q [(3, .pointer (some (⟨k, 0, none⟩ : Addr)))] ⟨rfl, trivial⟩ (by kernel_rfl)
   exact ovr hAp rfl (r_load1 tU158 rfl (hAp.get rfl) (Ext.cell hT.chg b1)) fun _ => Eq.refl _
  ·intro a w hT
   have hAp := hT.ag q [(4, .int .i64 d)] ⟨rfl, trivial⟩ (by kernel_rfl)
   exact ovr hAp rfl (r_move (hAp.get rfl)) fun _ => Eq.refl _
  ·intro a w hT
   have hAp := hT.ag q [] trivial (by kernel_rfl)
   have b7 : a.tmps.getD 16 undef = Sl.v aq := hT.vals 1 rfl 16 rfl
   have hAp := hAp.add b7
   have b8 : a.tmps.getD 17 undef = .int .i64 d := hT.vals 2 rfl 17 rfl
   have hAp := hAp.add b8
   exact ovr hAp rfl (r_indexAddr (hAp.get rfl) (hAp.get rfl) tU158 ti_161 a5.1 a5.2) fun _ => Eq.refl _
  ·intro a w hT
   have hAp := hT.ag q [] trivial (by kernel_rfl)
   have b9 : a.tmps.getD 18 undef = .pointer (some (af.add (d.toNat * 10))) := hT.vals 3 rfl 18 rfl
   have hAp := hAp.add b9
   exact ovr hAp rfl (r_fieldAddr (hAp.get rfl) Tryz.underlying161 rfl ti_3 (by decide)) fun _ => Eq.refl _
  ·intro a w hT
   have hAp := hT.ag q [] trivial (by kernel_rfl)
   have ca : a.tmps.getD 19 undef = .pointer (some ((af.add (d.toNat * 10)).add 0)) := hT.vals 4 rfl 19 rfl
   have hAp := hAp.add ca
   exact ovr hAp rfl (r_load1 tU3 rfl (hAp.get rfl) (Ext.cell hT.chg b4)) fun _ => Eq.refl _
  ·intro a w hT
   have hAp := hT.ag q [] trivial (by kernel_rfl)
   have cb : a.tmps.getD 15 undef = Sl.v ap := hT.vals 0 rfl 15 rfl
   have hAp := hAp.add cb
   have cc : a.tmps.getD 20 undef = .int .i64 g := hT.vals 5 rfl 20 rfl
   have hAp := hAp.add cc
   exact ovr hAp rfl (r_indexAddr (hAp.get rfl) (hAp.get rfl) tU158 ti_161 a6.1 a6.2) fun _ => Eq.refl _
  ·intro a w hT
   have hAp := hT.ag q [] trivial (by kernel_rfl)
   have cd : a.tmps.getD 21 undef = .pointer (some (j.add (g.toNat * 10))) := hT.vals 6 rfl 21 rfl
   have hAp := hAp.add cd
   exact ovr hAp rfl (r_assign (hAp.get rfl)) fun _ => Eq.refl _
  ·intro cf cg ch ci cj
   have ck := ci [(3, .pointer (some (⟨k, 0, none⟩ : Addr))), (4, .int .i64 d)] ⟨rfl, rfl, trivial⟩ (by kernel_rfl)
   have cl : cf.tmps.getD 5 undef = .pointer (some (j.add (g.toNat * 10))) := cj 7 rfl 5 rfl
   have cm := ck.add cl
   have cn : Chg [] r cg := ch
   refine PR_end (by kernel_rfl) ?_
   have m := cm.kp [(3, .pointer (some (⟨k, 0, none⟩ : Addr))), (4, .int .i64 d), (5, .pointer (some (j.add (g.toNat * 10))))] rfl
   refine then_normal (wp_seq ?_)
   refine draw' (by kernel_rfl) fun aa co => ?_
   have cp := cn.more co
   have cq := b6 aa    cp
   obtain ⟨t, cr, ct⟩ := cq
   obtain ⟨ar, cu, cv⟩ := ct
   obtain ⟨ah, a7, cx⟩ := cv
   obtain ⟨u, cy, cz⟩ := cx
   obtain ⟨cA, cB⟩ := cz
   refine par (D := [[], [0], [0, 1], [0, 1, 2], [], [], [4, 5], [4, 5, 6], [4, 5, 6, 7], [0, 1, 2, 3, 4, 5, 6, 7, 8], [0, 1, 2, 3, 4, 5, 6, 7, 8, 9], [0, 1, 2, 3, 4, 5, 6, 7, 8, 9, 10], [0, 1, 2, 3, 4, 5, 6, 7, 8, 9, 10, 11]]) (S := [0, 1, 2, 3, 4, 5, 6, 7, 8, 9, 10, 11]) (F := []) (V := VL [(0, fun v _ => v = .pointer (some (j.add (g.toNat * 10)))), (1, fun v _ => v = .pointer (some (j.add (g.toNat * 10)))), (2, fun v _ => v = .pointer (some ((j.add (g.toNat * 10)).add 1))), (3, fun v _ => v = .int .i64 t), (4, fun v _ => v = Sl.v ar), (5, fun v _ => v = .int .i64 d), (6, fun v _ => v = .pointer (some (ah.add (d.toNat * 10)))), (7, fun v _ => v = .pointer (some ((ah.add (d.toNat * 10)).add 1))), (8, fun v _ => v = .int .i64 u), (9, fun v _ => v = .int .i64 (t + u)), (10, fun v _ => v = .pointer (some (j.add (g.toNat * 10)))), (11, fun v _ => v = .pointer (some ((j.add (g.toNat * 10)).add 1)))]) m (by kernel_rfl) ⟨fun _ _ _ _ h => h, fun _ _ _ _ h => h, fun _ _ _ _ h => h, fun _ _ _ _ h => h, fun _ _ _ _ h => h, fun _ _ _ _ h => h, fun _ _ _ _ h => h, fun _ _ _ _ h => h, fun _ _ _ _ h => h, fun _ _ _ _ h => h, fun _ _ _ _ h => h, fun _ _ _ _ h => h, trivial⟩ ⟨?_, ?_, ?_, ?_, ?_, ?_, ?_, ?_, ?_, ?_, ?_, ?_, trivial⟩ ?_
   ·intro a w hT
    have hAp := hT.ag m [(5, .pointer (some (j.add (g.toNat * 10))))] ⟨rfl, trivial⟩ (by kernel_rfl)
    exact ovr hAp rfl (r_move (hAp.get rfl)) fun _ => Eq.refl _
   ·intro a w hT
    have hAp := hT.ag m [] trivial (by kernel_rfl)
    have cC : a.tmps.getD 22 undef = .pointer (some (j.add (g.toNat * 10))) := hT.vals 0 rfl 22 rfl
    have hAp := hAp.add cC
    exact ovr hAp rfl (r_nilCheck (hAp.get rfl)) fun _ => Eq.refl _
   ·intro a w hT
    have hAp := hT.ag m [] trivial (by kernel_rfl)
    have cD : a.tmps.getD 23 undef = .pointer (some (j.add (g.toNat * 10))) := hT.vals 1 rfl 23 rfl
    have hAp := hAp.add cD
    exact ovr hAp rfl (r_fieldAddr (hAp.get rfl) Tryz.underlying161 rfl ti_3 (by decide)) fun _ => Eq.refl _
   ·intro a w hT
    have hAp := hT.ag m [] trivial (by kernel_rfl)
    have cF : a.tmps.getD 24 undef = .pointer (some ((j.add (g.toNat * 10)).add 1)) := hT.vals 2 rfl 24 rfl
    have hAp := hAp.add cF
    exact ovr hAp rfl (r_load1 tU3 rfl (hAp.get rfl) (Ext.cell hT.chg cr)) fun _ => Eq.refl _
   ·intro a w hT
    have hAp := hT.ag m [(3, .pointer (some (⟨k, 0, none⟩ : Addr)))] ⟨rfl, trivial⟩ (by kernel_rfl)
    exact ovr hAp rfl (r_load1 tU158 rfl (hAp.get rfl) (Ext.cell hT.chg cu)) fun _ => Eq.refl _
   ·intro a w hT
    have hAp := hT.ag m [(4, .int .i64 d)] ⟨rfl, trivial⟩ (by kernel_rfl)
    exact ovr hAp rfl (r_move (hAp.get rfl)) fun _ => Eq.refl _
   ·intro a w hT
    have hAp := hT.ag m [] trivial (by kernel_rfl)
    have cG : a.tmps.getD 26 undef = Sl.v ar := hT.vals 4 rfl 26 rfl
    have hAp := hAp.add cG
    have cH : a.tmps.getD 27 undef = .int .i64 d := hT.vals 5 rfl 27 rfl
    have hAp := hAp.add cH
    exact ovr hAp rfl (r_indexAddr (hAp.get rfl) (hAp.get rfl) tU158 ti_161 a7.1 a7.2) fun _ => Eq.refl _
   ·intro a w hT
    have hAp := hT.ag m [] trivial (by kernel_rfl)
    have cI : a.tmps.getD 28 undef = .pointer (some (ah.add (d.toNat * 10))) := hT.vals 6 rfl 28 rfl
    have hAp := hAp.add cI
    exact ovr hAp rfl (r_fieldAddr (hAp.get rfl) Tryz.underlying161 rfl ti_3 (by decide)) fun _ => Eq.refl _
   ·intro a w hT
    have hAp := hT.ag m [] trivial (by kernel_rfl)
    have cJ : a.tmps.getD 29 undef = .pointer (some ((ah.add (d.toNat * 10)).add 1)) := hT.vals 7 rfl 29 rfl
    have hAp := hAp.add cJ
    exact ovr hAp rfl (r_load1 tU3 rfl (hAp.get rfl) (Ext.cell hT.chg cy)) fun _ => Eq.refl _
   ·intro a w hT
    have hAp := hT.ag m [] trivial (by kernel_rfl)
    have cK : a.tmps.getD 25 undef = .int .i64 t := hT.vals 3 rfl 25 rfl
    have hAp := hAp.add cK
    have cL : a.tmps.getD 30 undef = .int .i64 u := hT.vals 8 rfl 30 rfl
    have hAp := hAp.add cL
    exact ovr hAp rfl (r_addI (hAp.get rfl) (hAp.get rfl) cA) fun _ => Eq.refl _
   ·intro a w hT
    have hAp := hT.ag m [] trivial (by kernel_rfl)
    have cM : a.tmps.getD 22 undef = .pointer (some (j.add (g.toNat * 10))) := hT.vals 0 rfl 22 rfl
    have hAp := hAp.add cM
    exact ovr hAp rfl (r_nilCheck (hAp.get rfl)) fun _ => Eq.refl _
   ·intro a w hT
    have hAp := hT.ag m [] trivial (by kernel_rfl)
    have cN : a.tmps.getD 32 undef = .pointer (some (j.add (g.toNat * 10))) := hT.vals 10 rfl 32 rfl
    have hAp := hAp.add cN
    exact ovr hAp rfl (r_fieldAddr (hAp.get rfl) Tryz.underlying161 rfl ti_3 (by decide)) fun _ => Eq.refl _
   ·intro a8 au cO cP a9
    have cQ := cP [(3, .pointer (some (⟨k, 0, none⟩ : Addr))), (4, .int .i64 d), (5, .pointer (some (j.add (g.toNat * 10))))] ⟨rfl, rfl, rfl, trivial⟩ (by kernel_rfl)
    have cR : a8.tmps.getD 31 undef = .int .i64 (t + u) := a9 9 rfl 31 rfl
    have cS := cQ.add cR
    have cT : a8.tmps.getD 33 undef = .pointer (some ((j.add (g.toNat * 10)).add 1)) := a9 11 rfl 33 rfl
    have aO := cS.add cT
    have cU : Chg [] aa au := cO
    have cX := cB au    cU
    obtain ⟨av, aG, aK, aH, cY, ba, cZ, d3, c0⟩ := cX
    refine one (D := [[], [0], [0, 1], [0, 1, 2], [], [], [4, 5], [4, 5, 6], [4, 5, 6, 7], [0, 1, 2, 3, 4, 5, 6, 7, 8], [0, 1, 2, 3, 4, 5, 6, 7, 8, 9], [0, 1, 2, 3, 4, 5, 6, 7, 8, 9, 10], [0, 1, 2, 3, 4, 5, 6, 7, 8, 9, 10, 11]]) (i := 12) rfl (by kernel_rfl) (opk_store aO ba (r_store (vs := [.int .i64 (t + u)]) (((aO.get rfl)).trans (congrArg (fun a => Value.pointer (some a)) cY)) (aO.get rfl) rfl ti_3 ba (Nat.ble_eq_true_of_le cZ) (ones_all _ rfl)) fun d4 ax c1 c2 c3 => ?_)
    have c4 := c0 ax c1 c2
    refine PR_end (by kernel_rfl) ?_
    have l := c3.kp [(3, .pointer (some (⟨k, 0, none⟩ : Addr))), (4, .int .i64 d), (5, .pointer (some (j.add (g.toNat * 10))))] rfl
    refine then_normal ?_
    refine draw' (by kernel_rfl) fun x c5 => ?_
    have c6 : Chg [] ax x := c5
    have c7 := c4 x    c6
    obtain ⟨ab, c8, c9⟩ := c7
    obtain ⟨ay, da, db⟩ := c9
    obtain ⟨ai, bb, dc⟩ := db
    obtain ⟨p, dd, df⟩ := dc
    obtain ⟨dg, dh⟩ := df
    refine par (D := [[], [], [1], [1, 2], [1, 2, 3], [], [], [5, 6], [5, 6, 7], [5, 6, 7, 8], [5, 6, 7, 8, 9], [1, 2, 3, 4, 5, 6, 7, 8, 9, 10], [0, 1, 2, 3, 4, 5, 6, 7, 8, 9, 10, 11], [0, 1, 2, 3, 4, 5, 6, 7, 8, 9, 10, 11, 12], [0, 1, 2, 3, 4, 5, 6, 7, 8, 9, 10, 11, 12, 13]]) (S := [0, 1, 2, 3, 4, 5, 6, 7, 8, 9, 10, 11, 12, 13]) (F := []) (V := VL [(0, fun v _ => v = .pointer (some (j.add (g.toNat * 10)))), (1, fun v _ => v = .pointer (some (j.add (g.toNat * 10)))), (2, fun v _ => v = .pointer (some (j.add (g.toNat * 10)))), (3, fun v _ => v = .pointer (some ((j.add (g.toNat * 10)).add 3))), (4, fun v _ => v = .int .i64 ab), (5, fun v _ => v = Sl.v ay), (6, fun v _ => v = .int .i64 d), (7, fun v _ => v = .pointer (some (ai.add (d.toNat * 10)))), (8, fun v _ => v = .pointer (some ((ai.add (d.toNat * 10)).add 3))), (9, fun v _ => v = .int .i64 p), (10, fun v _ => v = .int .i64 (p + 1)), (11, fun v _ => v = .int .i64 (max ab (p + 1))), (12, fun v _ => v = .pointer (some (j.add (g.toNat * 10)))), (13, fun v _ => v = .pointer (some ((j.add (g.toNat * 10)).add 3)))]) l (by kernel_rfl) ⟨fun _ _ _ _ h => h, fun _ _ _ _ h => h, fun _ _ _ _ h => h, fun _ _ _ _ h => h, fun _ _ _ _ h => h, fun _ _ _ _ h => h, fun _ _ _ _ h => h, fun _ _ _ _ h => h, fun _ _ _ _ h => h, fun _ _ _ _ h => h, fun _ _ _ _ h => h, fun _ _ _ _ h => h, fun _ _ _ _ h => h, fun _ _ _ _ h => h, trivial⟩ ⟨?_, ?_, ?_, ?_, ?_, ?_, ?_, ?_, ?_, ?_, ?_, ?_, ?_, ?_, trivial⟩ ?_
    ·intro a w hT
     have hAp := hT.ag l [(5, .pointer (some (j.add (g.toNat * 10))))] ⟨rfl, trivial⟩ (by kernel_rfl)
     exact ovr hAp rfl (r_move (hAp.get rfl)) fun _ => Eq.refl _
    ·intro a w hT
     have hAp := hT.ag l [(5, .pointer (some (j.add (g.toNat * 10))))] ⟨rfl, trivial⟩ (by kernel_rfl)
     exact ovr hAp rfl (r_move (hAp.get rfl)) fun _ => Eq.refl _
    ·intro a w hT
     have hAp := hT.ag l [] trivial (by kernel_rfl)
     have di : a.tmps.getD 35 undef = .pointer (some (j.add (g.toNat * 10))) := hT.vals 1 rfl 35 rfl
     have hAp := hAp.add di
     exact ovr hAp rfl (r_nilCheck (hAp.get rfl)) fun _ => Eq.refl _
    ·intro a w hT
     have hAp := hT.ag l [] trivial (by kernel_rfl)
     have dj : a.tmps.getD 36 undef = .pointer (some (j.add (g.toNat * 10))) := hT.vals 2 rfl 36 rfl
     have hAp := hAp.add dj
     exact ovr hAp rfl (r_fieldAddr (hAp.get rfl) Tryz.underlying161 rfl ti_3 (by decide)) fun _ => Eq.refl _
    ·intro a w hT
     have hAp := hT.ag l [] trivial (by kernel_rfl)
     have dk : a.tmps.getD 37 undef = .pointer (some ((j.add (g.toNat * 10)).add 3)) := hT.vals 3 rfl 37 rfl
     have hAp := hAp.add dk
     exact ovr hAp rfl (r_load1 tU3 rfl (hAp.get rfl) (Ext.cell hT.chg c8)) fun _ => Eq.refl _
    ·intro a w hT
     have hAp := hT.ag l [(3, .pointer (some (⟨k, 0, none⟩ : Addr)))] ⟨rfl, trivial⟩ (by kernel_rfl)
     exact ovr hAp rfl (r_load1 tU158 rfl (hAp.get rfl) (Ext.cell hT.chg da)) fun _ => Eq.refl _
    ·intro a w hT
     have hAp := hT.ag l [(4, .int .i64 d)] ⟨rfl, trivial⟩ (by kernel_rfl)
     exact ovr hAp rfl (r_move (hAp.get rfl)) fun _ => Eq.refl _
    ·intro a w hT
     have hAp := hT.ag l [] trivial (by kernel_rfl)
     have dl : a.tmps.getD 39 undef = Sl.v ay := hT.vals 5 rfl 39 rfl
     have hAp := hAp.add dl
     have dm : a.tmps.getD 40 undef = .int .i64 d := hT.vals 6 rfl 40 rfl
     have hAp := hAp.add dm
     exact ovr hAp rfl (r_indexAddr (hAp.get rfl) (hAp.get rfl) tU158 ti_161 bb.1 bb.2) fun _ => Eq.refl _
    ·intro a w hT
     have hAp := hT.ag l [] trivial (by kernel_rfl)
     have dn : a.tmps.getD 41 undef = .pointer (some (ai.add (d.toNat * 10))) := hT.vals 7 rfl 41 rfl
     have hAp := hAp.add dn
     exact ovr hAp rfl (r_fieldAddr (hAp.get rfl) Tryz.underlying161 rfl ti_3 (by decide)) fun _ => Eq.refl _
    ·intro a w hT
     have hAp := hT.ag l [] trivial (by kernel_rfl)
     have dp : a.tmps.getD 42 undef = .pointer (some ((ai.add (d.toNat * 10)).add 3)) := hT.vals 8 rfl 42 rfl
     have hAp := hAp.add dp
     exact ovr hAp rfl (r_load1 tU3 rfl (hAp.get rfl) (Ext.cell hT.chg dd)) fun _ => Eq.refl _
    ·intro a w hT
     have hAp := hT.ag l [] trivial (by kernel_rfl)
     have dq : a.tmps.getD 43 undef = .int .i64 p := hT.vals 9 rfl 43 rfl
     have hAp := hAp.add dq
     exact ovr hAp rfl (r_addI (hAp.get rfl) rfl dg) fun _ => Eq.refl _
    ·intro a w hT
     have hAp := hT.ag l [] trivial (by kernel_rfl)
     have dr : a.tmps.getD 38 undef = .int .i64 ab := hT.vals 4 rfl 38 rfl
     have hAp := hAp.add dr
     have ds : a.tmps.getD 44 undef = .int .i64 (p + 1) := hT.vals 10 rfl 44 rfl
     have hAp := hAp.add ds
     exact ovr hAp rfl (r_max (hAp.get rfl) (hAp.get rfl)) fun _ => Eq.refl _
    ·intro a w hT
     have hAp := hT.ag l [] trivial (by kernel_rfl)
     have dt : a.tmps.getD 34 undef = .pointer (some (j.add (g.toNat * 10))) := hT.vals 0 rfl 34 rfl
     have hAp := hAp.add dt
     exact ovr hAp rfl (r_nilCheck (hAp.get rfl)) fun _ => Eq.refl _
    ·intro a w hT
     have hAp := hT.ag l [] trivial (by kernel_rfl)
     have du : a.tmps.getD 46 undef = .pointer (some (j.add (g.toNat * 10))) := hT.vals 12 rfl 46 rfl
     have hAp := hAp.add du
     exact ovr hAp rfl (r_fieldAddr (hAp.get rfl) Tryz.underlying161 rfl ti_3 (by decide)) fun _ => Eq.refl _
    ·intro bd az dv dx bf
     have dy := dx [(3, .pointer (some (⟨k, 0, none⟩ : Addr))), (4, .int .i64 d)] ⟨rfl, rfl, trivial⟩ (by kernel_rfl)
     have dz : bd.tmps.getD 45 undef = .int .i64 (max ab (p + 1)) := bf 11 rfl 45 rfl
     have dA := dy.add dz
     have dB : bd.tmps.getD 47 undef = .pointer (some ((j.add (g.toNat * 10)).add 3)) := bf 13 rfl 47 rfl
     have aP := dA.add dB
     have dC : Chg [] x az := dv
     have dD := dh az    dC
     obtain ⟨aA, aI, aL, aJ, dF, bg, dG, d5, dH⟩ := dD
     refine one (D := [[], [], [1], [1, 2], [1, 2, 3], [], [], [5, 6], [5, 6, 7], [5, 6, 7, 8], [5, 6, 7, 8, 9], [1, 2, 3, 4, 5, 6, 7, 8, 9, 10], [0, 1, 2, 3, 4, 5, 6, 7, 8, 9, 10, 11], [0, 1, 2, 3, 4, 5, 6, 7, 8, 9, 10, 11, 12], [0, 1, 2, 3, 4, 5, 6, 7, 8, 9, 10, 11, 12, 13]]) (i := 14) rfl (by kernel_rfl) (opk_store aP bg (r_store (vs := [.int .i64 (max ab (p + 1))]) (((aP.get rfl)).trans (congrArg (fun a => Value.pointer (some a)) dF)) (aP.get rfl) rfl ti_3 bg (Nat.ble_eq_true_of_le dG) (ones_all _ rfl)) fun d6 aj dI dJ dK => ?_)
     have dL := dH aj dI dJ
     refine PR_end (by kernel_rfl) ?_
     have bh := dK.kp [(3, .pointer (some (⟨k, 0, none⟩ : Addr))), (4, .int .i64 d)] rfl
     refine block_normal ?_
     refine then_normal (wp_region_lit ?_)
     refine sqv bh rfl (r_move (bh.get rfl)) fun _ bi => ?_
     obtain ⟨dM, bj⟩ := dL
     refine sqv bi rfl (r_subI (bi.get rfl) rfl dM) fun _ bk => sqv bk rfl (r_assign (bk.get rfl)) fun _ dN => sq_end ?_
     have dO := dN.kp [(3, .pointer (some (⟨k, 0, none⟩ : Addr))), (4, .int .i64 (d - 1))] rfl
     have dP := dO.kp [(3, .pointer (some (⟨k, 0, none⟩ : Addr))), (4, .int .i64 (d - 1))] rfl
     exact then_normal ⟨(d - 1, aj), ⟨dP, rfl, bj.1⟩, bj.2⟩
 ·have dQ := a3.2 (of_decide_eq_false hc)
  clear hc
  refine wp_exit ?_
  refine then_exit ?_
  refine then_exit ?_
  refine block_hit ?_
  have bl := q.kp [(3, .pointer (some (⟨k, 0, none⟩ : Addr)))] rfl
  refine then_normal (wp_seq (wp_region_lit ?_))
  obtain ⟨aC, dR, dS⟩ := dQ
  refine sqv bl rfl (r_load1 tU158 rfl (bl.get rfl) dR) fun _ bm => sqv bm rfl (r_assign (bm.get rfl)) fun _ dT => sq_end ?_
  have bn := dT.kp [(2, Sl.v aC)] rfl
  refine then_normal ?_
  refine wp_ret ?_
  exact res_all (vs := [Sl.v aC]) rfl bn ⟨res_of_tmp bn rfl, trivial⟩ dS
def walk_each.vc (x : Addr) (j : Value) (R : Value → World → Prop) (w : World) : Prop :=
∀ (y : World) (t : Nat), New w t y → Chg [] w y →
∀ (_ : Box y t 207 [.pointer (some x), .int .i64 (-1), .int .i64 0, .int .i64 0]),
∃ (am : Sl → Int → World → Prop) (aq : Sl → Int → World → Nat),
am (Sl.mk (some ⟨t, 0, none⟩) 1 1) 0 y ∧
(∀ (f : Sl) (d : Int) (u : World), am f d u →
((0 < (f.n : Int)) →
(I64 ((f.n : Int) - 1)) ∧
((0 : Int) ≤ (f.n : Int) - 1 ∧ (f.n : Int) - 1 < (f.n : Int)) ∧ ∃ aA : Addr, f.a = some aA ∧
∃ (q : Option Addr) (ab : Int) (k : Int) (ad : Int), (Cells u (aA.add (((f.n : Int) - 1).toNat * 4)) [.pointer q, .int .i64 ab, .int .i64 k, .int .i64 ad]) ∧
(I64 ((f.n : Int) - 1)) ∧
((0 : Int) ≤ (f.n : Int) - 1 ∧ (f.n : Int) - 1 ≤ (f.c : Int)) ∧
∃ (ar : FuncId) (aB aC : Array Value), (j = .func (.func ar) aB aC) ∧
∀ (ak : World) (g : Nat), New u g ak → Chg [] u ak →
Body Tryz.prog ar ∧
CallK Tryz.prog ar (aB ++ #[.int .i64 d, .agg #[.pointer q, .int .i64 ab, .int .i64 k, .int .i64 ad]] ++ aC) ak [g] (fun v an => ∃ (ao : Bool), v = .bool ao ∧
((ao = false) →
R (.tuple #[]) an) ∧
((ao = true) →
∃ aD : Addr, (q = some aD) ∧
∃ (af : Sl), (an.cell? (aD.add 4) = some (Sl.v af)) ∧
(I64 ((af.n : Int) - 1)) ∧
∃ (ap : Sl → Int → World → Prop) (au : Sl → Int → World → Nat),
ap (Sl.cut f 4 0 ((f.n : Int) - 1).toNat f.c) ((af.n : Int) - 1) an ∧
(∀ (m : Sl) (b : Int) (z : World), ap m b z →
((0 ≤ b) →
∀ (aa : World), Chg [] z aa →
∃ ah : Addr, (q = some ah) ∧
∃ (al : Sl), (aa.cell? (ah.add 4) = some (Sl.v al)) ∧
∃ p : Addr, (((0 : Int) ≤ b ∧ b < (al.n : Int)) ∧ al.a = some p) ∧
(I64 (k + 1)) ∧
∀ (ai : World) (o : Nat), Ext aa ai → aa.heap.size ≤ o → Box ai o 207 [.pointer (some (p.add (b.toNat * 5))), .int .i64 d, .int .i64 (k + 1), .int .i64 b] → 
∀ (_ : Box ai o 207 [.pointer (some (p.add (b.toNat * 5))), .int .i64 d, .int .i64 (k + 1), .int .i64 b]),
RunK Tryz.prog (Builtin.append_ #[228, 228] 228 #[Sl.v m, Sl.v (Sl.mk (some ⟨o, 0, none⟩) 1 1)]) ai [g] (fun v aF => ∃ (r : Sl), v = Sl.v r ∧
(I64 (b - 1)) ∧
∀ (aj : World), Chg [] aF aj →
ap r (b - 1) aj ∧ au r (b - 1) aj < au m b z)) ∧
((¬ (0 ≤ b)) →
(I64 (d + 1)) ∧
am m (d + 1) z ∧ aq m (d + 1) z < aq f d u))))) ∧
((¬ (0 < (f.n : Int))) →
R (.tuple #[]) u))
theorem walk_each.ok (x : Addr) (j : Value) {R : Value → World → Prop} {w : World} (aL : walk_each.vc x j R w) : Calls Tryz.prog 153 #[.pointer (some x), j] w (Ret R) := by
 refine enter [.pointer (some x), j] Tryz.func153 rfl Tryz.ntmps153 rfl ?_
 intro a0 aM
 unfold walk_each.vc at aL
 refine wp_scope_straight ?_
 refine wp_seq (wp_region_lit ?_)
 refine sqv aM rfl (r_move (aM.get rfl)) fun _ aN => sqv aN rfl (r_build (vs := #[(0, .pointer (some x)), (1, .int .i64 (-1))]) (cells := #[.pointer (some x), .int .i64 (-1), .int .i64 0, .int .i64 0]) (map_arr2 (ml2_cons (aN.get rfl) (ml2_cons rfl (ml2_nil)))) ti_207 Tryz.underlying207 pl_207 (by kernel_rfl)) fun _ aO => ?_
 refine sq (opk_new (fun B => .slice (some ⟨B, 0, none⟩) 1 1) aO rfl (r_buildSlice (vs := #[(0, .agg #[.pointer (some x), .int .i64 (-1), .int .i64 0, .int .i64 0])]) (cs := [.pointer (some x), .int .i64 (-1), .int .i64 0, .int .i64 0]) (map_arr2 (ml2_cons (aO.get rfl) (ml2_nil))) tU228 ti_207 rfl rfl (by kernel_rfl)) fun a7 y t bJ bK bL aP _ => ?_)
 have bM : New w t y := bK
 have bN : Chg [] w y := bJ
 refine sqv aP rfl (r_assign (aP.get rfl)) fun _ bO => sq_end ?_
 have bP := bO.kp [(1, j), (4, Sl.v (Sl.mk (some ⟨t, 0, none⟩) 1 1))] rfl
 refine then_normal (wp_seq (wp_region_lit ?_))
 refine sqv bP rfl (r_assign rfl) fun _ bQ => sq_end ?_
 have bR := bQ.kp [(1, j), (4, Sl.v (Sl.mk (some ⟨t, 0, none⟩) 1 1)), (5, .int .i64 0)] rfl
 refine then_normal (wp_seq ?_)
 refine wp_label ?_
 refine then_normal (wp_block ?_)
 have bS := aL y t bM  bN
 have bT := bS bL
 obtain ⟨am, aq, bU, bV⟩ := bT
 refine wp_loop_st (σ := Sl × Int × World) (fun s a w => Ag 59 a [(1, j), (4, Sl.v s.1), (5, .int .i64 s.2.1)] ∧ w = s.2.2 ∧ am s.1 s.2.1 s.2.2) (fun s => aq s.1 s.2.1 s.2.2) ((Sl.mk (some ⟨t, 0, none⟩) 1 1), 0, y) ⟨bR.kp [(1, j), (4, Sl.v (Sl.mk (some ⟨t, 0, none⟩) 1 1)), (5, .int .i64 0)] rfl, rfl, bU⟩ ?_
 rintro ⟨f, d, u⟩ dR w_ ⟨aQ, hw_, bX⟩
 have hw_ : u = w_ := hw_.symm
 subst hw_
 have aR := bV f d _ bX
 refine wp_seq (wp_seq (wp_region_lit ?_))
 refine sqv aQ rfl (r_move (aQ.get rfl)) fun _ aS => sqv aS rfl (r_len (aS.get rfl) tU228) fun _ aT => sqv aT rfl (r_gtr (aT.get rfl) rfl) fun _ bY => sq_end ?_
 have av := bY.kp [(1, j), (4, Sl.v f), (5, .int .i64 d), (13, .bool (decide (0 < (f.n : Int))))] rfl
 refine then_normal ?_
 refine wp_cond_split (av.get rfl) (fun hc => ?_) (fun hc => ?_)
 ·have bZ := aR.1 (of_decide_eq_true hc)
  clear hc
  refine wp_skip ?_
  refine then_normal (wp_block (wp_seq (wp_region_lit ?_)))
  refine sqv av rfl (r_move (av.get rfl)) fun _ aU => sqv aU rfl (r_move (aU.get rfl)) fun _ aV => sqv aV rfl (r_len (aV.get rfl) tU228) fun _ aX => ?_
  obtain ⟨b0, b1⟩ := bZ
  refine sqv aX rfl (r_subI (aX.get rfl) rfl b0) fun _ aG => ?_
  obtain ⟨b2, aA, b3, b4⟩ := b1
  refine sqv aG rfl (r_indexAddr (aG.get rfl) (aG.get rfl) tU228 ti_207 b2 b3) fun _ aY => ?_
  obtain ⟨q, ab, k, ad, b5, b6⟩ := b4
  refine sqv aY rfl (r_loadN Tryz.underlying207 rfl ti_207 (aY.get rfl) b5) fun _ b7 => ?_
  refine sq (opk_new (fun B => .pointer (some ⟨B, 0, none⟩)) b7 rfl (r_alloc (cs := [.pointer none, .int .i64 0, .int .i64 0, .int .i64 0]) ti_207 rfl) fun dS aZ g b8 b9 hB331 aH _ => ?_)
  have a1 : New u g aZ := b9
  have ca : Chg [] u aZ := b8
  refine sq (opk_store aH hB331 (r_store (vs := [.pointer q, .int .i64 ab, .int .i64 k, .int .i64 ad]) (aH.get rfl) (aH.get rfl) rfl ti_207 hB331 rfl (ones_all _ rfl)) fun dT ak a2 cb cc => ?_)
  have a3 : Box ak g 207 [.pointer q, .int .i64 ab, .int .i64 k, .int .i64 ad] := cb
  have cd := ca.storeNew a1 a2
  have cf := a1.up a2.size
  refine sq_end ?_
  have a4 := cc.kp [(1, j), (4, Sl.v f), (5, .int .i64 d), (6, .pointer (some (⟨g, 0, none⟩ : Addr)))] rfl
  refine then_normal (wp_seq (wp_region_lit ?_))
  refine sqv a4 rfl (r_move (a4.get rfl)) fun _ a5 => sqv a5 rfl (r_move (a5.get rfl)) fun _ a6 => sqv a6 rfl (r_len (a6.get rfl) tU228) fun _ hA344 => ?_
  obtain ⟨cg, ch⟩ := b6
  refine sqv hA344 rfl (r_subI (hA344.get rfl) rfl cg) fun _ aI => ?_
  obtain ⟨ci, cj⟩ := ch
  refine sqv aI rfl (r_sliceH (aI.get rfl) (aI.get rfl) tU228 ti_207 ci) fun _ a8 => sqv a8 rfl (r_assign (a8.get rfl)) fun _ ck => sq_end ?_
  have a9 := ck.kp [(1, j), (4, Sl.v (Sl.cut f 4 0 ((f.n : Int) - 1).toNat f.c)), (5, .int .i64 d), (6, .pointer (some (⟨g, 0, none⟩ : Addr)))] rfl
  refine then_normal (wp_seq (wp_seq (wp_region_lit ?_)))
  refine sqv a9 rfl (r_move (a9.get rfl)) fun _ ba => sqv ba rfl (r_move (ba.get rfl)) fun _ bb => sqv bb rfl (r_loadN (cs := [.pointer q, .int .i64 ab, .int .i64 k, .int .i64 ad]) Tryz.underlying207 rfl ti_207 (bb.get rfl) (a3.part 0 _ rfl)) fun _ ax => ?_
  obtain ⟨ar, aB, aC, cl, cm⟩ := cj
  have cn := cm ak g cf  cd
  obtain ⟨co, cp⟩ := cn
  refine sq (opk_call ax rfl (r_callO (args := #[.int .i64 d, .agg #[.pointer q, .int .i64 ab, .int .i64 k, .int .i64 ad]]) co (map_arr (ml_cons (ax.get rfl) (ml_cons (ax.get rfl) ml_nil))) (((ax.get rfl)).trans cl)) cp fun dU dV an bd _ cq dX cr => ?_)
  obtain ⟨ao, rfl, bf⟩ := cr
  have bg := a3.kept cq (.head _)
  refine sqv bd rfl (r_not (bd.get rfl)) fun _ ct => sq_end ?_
  have ay := ct.kp [(1, j), (4, Sl.v (Sl.cut f 4 0 ((f.n : Int) - 1).toNat f.c)), (5, .int .i64 d), (6, .pointer (some (⟨g, 0, none⟩ : Addr))), (29, .bool (!ao))] rfl
  refine then_normal ?_
  refine wp_cond_split (ay.get rfl) (fun hc => ?_) (fun hc => ?_)
  ·have cu := bf.1 (b_not_t hc)
   clear hc
   refine wp_exit ?_
   refine then_exit ?_
   refine block_miss rfl ?_
   refine then_exit ?_
   refine block_hit ?_
   have cv := ay.kp [] rfl
   refine sco_normal ?_
   refine res_end ?_
   exact res_all (vs := []) rfl cv trivial cu
  ·have cx := bf.2 (b_not_f hc)
   clear hc
   refine wp_skip ?_
   refine then_normal (wp_seq (wp_seq (wp_region_lit ?_)))
   refine sqv ay rfl (r_fieldAddr (ay.get rfl) Tryz.underlying207 rfl ti_205 (by decide)) fun _ bh => sqv bh rfl (r_load1 tU205 rfl (bh.get rfl) (bg.cell 0 _ rfl)) fun _ bi => ?_
   obtain ⟨aD, cy, cz⟩ := cx
   refine sqv bi rfl (r_nilCheckP (((bi.get rfl)).trans (congrArg Value.pointer cy))) fun _ bj => sqv bj rfl (r_fieldAddr (bj.get rfl) Tryz.underlying39 rfl ti_37 (by decide)) fun _ bk => ?_
   obtain ⟨af, cA, cB⟩ := cz
   refine sqv bk rfl (r_load1 tU37 rfl (bk.get rfl) cA) fun _ bl => sqv bl rfl (r_len (bl.get rfl) tU37) fun _ bm => ?_
   obtain ⟨cC, cD⟩ := cB
   refine sqv bm rfl (r_subI (bm.get rfl) rfl cC) fun _ bn => sqv bn rfl (r_assign (bn.get rfl)) fun _ cF => sq_end ?_
   have cG := cF.kp [(1, j), (4, Sl.v (Sl.cut f 4 0 ((f.n : Int) - 1).toNat f.c)), (5, .int .i64 d), (6, .pointer (some (⟨g, 0, none⟩ : Addr))), (7, .int .i64 ((af.n : Int) - 1))] rfl
   refine then_normal (wp_block ?_)
   obtain ⟨ap, au, cH, cI⟩ := cD
   refine wp_loop_st (σ := Sl × Int × World) (fun s a w => Ag 59 a [(1, j), (4, Sl.v s.1), (5, .int .i64 d), (6, .pointer (some (⟨g, 0, none⟩ : Addr))), (7, .int .i64 s.2.1)] ∧ Box w g 207 [.pointer q, .int .i64 ab, .int .i64 k, .int .i64 ad] ∧ w = s.2.2 ∧ ap s.1 s.2.1 s.2.2) (fun s => au s.1 s.2.1 s.2.2) (Sl.cut f 4 0 ((f.n : Int) - 1).toNat f.c, (af.n : Int) - 1, an) ⟨cG.kp [(1, j), (4, Sl.v (Sl.cut f 4 0 ((f.n : Int) - 1).toNat f.c)), (5, .int .i64 d), (6, .pointer (some (⟨g, 0, none⟩ : Addr))), (7, .int .i64 ((af.n : Int) - 1))] rfl, bg, rfl, cH⟩ ?_
   rintro ⟨m, b, z⟩ dY w_ ⟨bo, cJ, hw_, cK⟩
   have hw_ : z = w_ := hw_.symm
   subst hw_
   have bp := cI m b _ cK
   refine wp_seq (wp_seq (wp_region_lit ?_))
   refine sqv bo rfl (r_move (bo.get rfl)) fun _ bq => sqv bq rfl (r_geq (bq.get rfl) rfl) fun _ cL => sq_end ?_
   have l := cL.kp [(1, j), (4, Sl.v m), (5, .int .i64 d), (6, .pointer (some (⟨g, 0, none⟩ : Addr))), (7, .int .i64 b), (38, .bool (decide (0 ≤ b)))] rfl
   refine then_normal ?_
   refine wp_cond_split (l.get rfl) (fun hc => ?_) (fun hc => ?_)
   ·have cM := bp.1 (of_decide_eq_true hc)
    clear hc
    refine wp_skip ?_
    refine then_normal (wp_seq (wp_block ?_))
    refine draw' (by kernel_rfl) fun aa br => ?_
    have az := cJ.ext br
    have cN : Chg [] z aa := br
    have cO := cM aa    cN
    obtain ⟨ah, cP, cQ⟩ := cO
    obtain ⟨al, cR, cS⟩ := cQ
    obtain ⟨p, bs, cT⟩ := cS
    obtain ⟨cU, cX⟩ := cT
    refine par (D := [[], [], [1], [1, 2], [1, 2, 3], [1, 2, 3, 4], [], [1, 2, 3, 4, 5, 6], [], [], [9], [9, 10], [], [1, 2, 3, 4, 5, 6, 7, 8, 9, 10, 11, 12], [1, 2, 3, 4, 5, 6, 7, 8, 9, 10, 11, 12, 13], [0, 1, 2, 3, 4, 5, 6, 7, 8, 9, 10, 11, 12, 13, 14], [0, 1, 2, 3, 4, 5, 6, 7, 8, 9, 10, 11, 12, 13, 14, 15]]) (S := [0, 1, 2, 3, 4, 5, 6, 7, 8, 9, 10, 11, 12, 13, 14]) (F := []) (V := VL [(0, fun v _ => v = Sl.v m), (1, fun v _ => v = .pointer (some (⟨g, 0, none⟩ : Addr))), (2, fun v _ => v = .pointer q), (3, fun v _ => v = .pointer (some ah)), (4, fun v _ => v = .pointer (some (ah.add 4))), (5, fun v _ => v = Sl.v al), (6, fun v _ => v = .int .i64 b), (7, fun v _ => v = .pointer (some (p.add (b.toNat * 5)))), (8, fun v _ => v = .int .i64 d), (9, fun v _ => v = .pointer (some (⟨g, 2, none⟩ : Addr))), (10, fun v _ => v = .int .i64 k), (11, fun v _ => v = .int .i64 (k + 1)), (12, fun v _ => v = .int .i64 b), (13, fun v _ => v = .agg #[.pointer (some (p.add (b.toNat * 5))), .int .i64 d, .int .i64 (k + 1), .int .i64 b]), (14, fun v w' => ∃ o : Nat, aa.heap.size ≤ o ∧ Box w' o 207 [.pointer (some (p.add (b.toNat * 5))), .int .i64 d, .int .i64 (k + 1), .int .i64 b] ∧ v = Sl.v (Sl.mk (some ⟨o, 0, none⟩) 1 1))]) l (by kernel_rfl) ⟨fun _ _ _ _ h => h, fun _ _ _ _ h => h, fun _ _ _ _ h => h, fun _ _ _ _ h => h, fun _ _ _ _ h => h, fun _ _ _ _ h => h, fun _ _ _ _ h => h, fun _ _ _ _ h => h, fun _ _ _ _ h => h, fun _ _ _ _ h => h, fun _ _ _ _ h => h, fun _ _ _ _ h => h, fun _ _ _ _ h => h, fun _ _ _ _ h => h, fun _ _ _ hE ⟨o, h0_, h1_, e⟩ => ⟨o, h0_, (h1_.ext hE), e⟩, trivial⟩ ⟨?_, ?_, ?_, ?_, ?_, ?_, ?_, ?_, ?_, ?_, ?_, ?_, ?_, ?_, ?_, trivial⟩ ?_
    ·intro a w hT
     have hAp := hT.ag l [(4, Sl.v m)] ⟨rfl, trivial⟩ (by kernel_rfl)
     exact ovr hAp rfl (r_move (hAp.get rfl)) fun _ => Eq.refl _
    ·intro a w hT
     have hAp := hT.ag l [(6, .pointer (some (⟨g, 0, none⟩ : Addr)))] ⟨rfl, trivial⟩ (by kernel_rfl)
     exact ovr hAp rfl (r_fieldAddr (hAp.get rfl) Tryz.underlying207 rfl ti_205 (by decide)) fun _ => Eq.refl _
    ·intro a w hT
     have hAp := hT.ag l [] trivial (by kernel_rfl)
     have cY : a.tmps.getD 42 undef = .pointer (some (⟨g, 0, none⟩ : Addr)) := hT.vals 1 rfl 42 rfl
     have hAp := hAp.add cY
     exact ovr hAp rfl (r_load1 tU205 rfl (hAp.get rfl) ((az.ext hT.chg).cell 0 _ rfl)) fun _ => Eq.refl _
    ·intro a w hT
     have hAp := hT.ag l [] trivial (by kernel_rfl)
     have cZ : a.tmps.getD 43 undef = .pointer q := hT.vals 2 rfl 43 rfl
     have hAp := hAp.add cZ
     exact ovr hAp rfl (r_nilCheckP (((hAp.get rfl)).trans (congrArg Value.pointer cP))) fun _ => Eq.refl _
    ·intro a w hT
     have hAp := hT.ag l [] trivial (by kernel_rfl)
     have c0 : a.tmps.getD 44 undef = .pointer (some ah) := hT.vals 3 rfl 44 rfl
     have hAp := hAp.add c0
     exact ovr hAp rfl (r_fieldAddr (hAp.get rfl) Tryz.underlying39 rfl ti_37 (by decide)) fun _ => Eq.refl _
    ·intro a w hT
     have hAp := hT.ag l [] trivial (by kernel_rfl)
     have c1 : a.tmps.getD 45 undef = .pointer (some (ah.add 4)) := hT.vals 4 rfl 45 rfl
     have hAp := hAp.add c1
     exact ovr hAp rfl (r_load1 tU37 rfl (hAp.get rfl) (Ext.cell hT.chg cR)) fun _ => Eq.refl _
    ·intro a w hT
     have hAp := hT.ag l [(7, .int .i64 b)] ⟨rfl, trivial⟩ (by kernel_rfl)
     exact ovr hAp rfl (r_move (hAp.get rfl)) fun _ => Eq.refl _
    ·intro a w hT
     have hAp := hT.ag l [] trivial (by kernel_rfl)
     have c2 : a.tmps.getD 46 undef = Sl.v al := hT.vals 5 rfl 46 rfl
     have hAp := hAp.add c2
     have c3 : a.tmps.getD 47 undef = .int .i64 b := hT.vals 6 rfl 47 rfl
     have hAp := hAp.add c3
     exact ovr hAp rfl (r_indexAddr (hAp.get rfl) (hAp.get rfl) tU37 ti_39 bs.1 bs.2) fun _ => Eq.refl _
    ·intro a w hT
     have hAp := hT.ag l [(5, .int .i64 d)] ⟨rfl, trivial⟩ (by kernel_rfl)
     exact ovr hAp rfl (r_move (hAp.get rfl)) fun _ => Eq.refl _
    ·intro a w hT
     have hAp := hT.ag l [(6, .pointer (some (⟨g, 0, none⟩ : Addr)))] ⟨rfl, trivial⟩ (by kernel_rfl)
     exact ovr hAp rfl (r_fieldAddr (hAp.get rfl) Tryz.underlying207 rfl ti_3 (by decide)) fun _ => Eq.refl _
    ·intro a w hT
     have hAp := hT.ag l [] trivial (by kernel_rfl)
     have c4 : a.tmps.getD 50 undef = .pointer (some (⟨g, 2, none⟩ : Addr)) := hT.vals 9 rfl 50 rfl
     have hAp := hAp.add c4
     exact ovr hAp rfl (r_load1 tU3 rfl (hAp.get rfl) ((az.ext hT.chg).cell 2 _ rfl)) fun _ => Eq.refl _
    ·intro a w hT
     have hAp := hT.ag l [] trivial (by kernel_rfl)
     have c5 : a.tmps.getD 51 undef = .int .i64 k := hT.vals 10 rfl 51 rfl
     have hAp := hAp.add c5
     exact ovr hAp rfl (r_addI (hAp.get rfl) rfl cU) fun _ => Eq.refl _
    ·intro a w hT
     have hAp := hT.ag l [(7, .int .i64 b)] ⟨rfl, trivial⟩ (by kernel_rfl)
     exact ovr hAp rfl (r_move (hAp.get rfl)) fun _ => Eq.refl _
    ·intro a w hT
     have hAp := hT.ag l [] trivial (by kernel_rfl)
     have c6 : a.tmps.getD 48 undef = .pointer (some (p.add (b.toNat * 5))) := hT.vals 7 rfl 48 rfl
     have hAp := hAp.add c6
     have c7 : a.tmps.getD 49 undef = .int .i64 d := hT.vals 8 rfl 49 rfl
     have hAp := hAp.add c7
     have c8 : a.tmps.getD 52 undef = .int .i64 (k + 1) := hT.vals 11 rfl 52 rfl
     have hAp := hAp.add c8
     have c9 : a.tmps.getD 53 undef = .int .i64 b := hT.vals 12 rfl 53 rfl
     have hAp := hAp.add c9
     exact ovr hAp rfl (r_build (vs := #[(0, .pointer (some (p.add (b.toNat * 5)))), (1, .int .i64 d), (2, .int .i64 (k + 1)), (3, .int .i64 b)]) (cells := #[.pointer (some (p.add (b.toNat * 5))), .int .i64 d, .int .i64 (k + 1), .int .i64 b]) (map_arr2 (ml2_cons (hAp.get rfl) (ml2_cons (hAp.get rfl) (ml2_cons (hAp.get rfl) (ml2_cons (hAp.get rfl) (ml2_nil)))))) ti_207 Tryz.underlying207 pl_207 (by kernel_rfl)) fun _ => Eq.refl _
    ·intro a w hT
     have hAp := hT.ag l [] trivial (by kernel_rfl)
     have da : a.tmps.getD 54 undef = .agg #[.pointer (some (p.add (b.toNat * 5))), .int .i64 d, .int .i64 (k + 1), .int .i64 b] := hT.vals 13 rfl 54 rfl
     have hAp := hAp.add da
     exact opk_new (fun B => .slice (some ⟨B, 0, none⟩) 1 1) hAp rfl (r_buildSlice (vs := #[(0, .agg #[.pointer (some (p.add (b.toNat * 5))), .int .i64 d, .int .i64 (k + 1), .int .i64 b])]) (cs := [.pointer (some (p.add (b.toNat * 5))), .int .i64 d, .int .i64 (k + 1), .int .i64 b]) (map_arr2 (ml2_cons (hAp.get rfl) (ml2_nil))) tU228 ti_207 rfl rfl (by kernel_rfl)) fun _ dZ o db dc dd _ e => ⟨_, e, db, fun _ => ⟨o, Nat.le_trans hT.chg.size dc.ge, dd, rfl⟩⟩
    ·intro df ai aJ dg bt
     have dh := dg [(1, j), (4, Sl.v m), (5, .int .i64 d), (6, .pointer (some (⟨g, 0, none⟩ : Addr))), (7, .int .i64 b)] ⟨rfl, rfl, rfl, rfl, rfl, trivial⟩ (by kernel_rfl)
     have di : df.tmps.getD 41 undef = Sl.v m := bt 0 rfl 41 rfl
     have dj := dh.add di
     obtain ⟨o, bu, bv, dk⟩ := bt 14 rfl 55 rfl
     have aK := dj.add dk
     have dl := az.ext aJ
     have d0 : Chg [] aa ai := aJ
     have dm := cX ai o aJ bu bv
     have d1 : g ≠ o := Nat.ne_of_lt (Nat.lt_of_lt_of_le az.lt bu)
     have dn := dm bv
     refine one (D := [[], [], [1], [1, 2], [1, 2, 3], [1, 2, 3, 4], [], [1, 2, 3, 4, 5, 6], [], [], [9], [9, 10], [], [1, 2, 3, 4, 5, 6, 7, 8, 9, 10, 11, 12], [1, 2, 3, 4, 5, 6, 7, 8, 9, 10, 11, 12, 13], [0, 1, 2, 3, 4, 5, 6, 7, 8, 9, 10, 11, 12, 13, 14], [0, 1, 2, 3, 4, 5, 6, 7, 8, 9, 10, 11, 12, 13, 14, 15]]) (i := 15) rfl (by kernel_rfl) (opk_run aK rfl (fun _ _ hr => r_append (aK.get rfl) (aK.get rfl) hr) dn fun d2 d3 aF bx _ dp d4 dq => ?_)
     obtain ⟨r, rfl, dr⟩ := dq
     have ds := dl.kept dp (.head _)
     refine par (D := [[], [], [1], [1, 2], [1, 2, 3], [1, 2, 3, 4], [], [1, 2, 3, 4, 5, 6], [], [], [9], [9, 10], [], [1, 2, 3, 4, 5, 6, 7, 8, 9, 10, 11, 12], [1, 2, 3, 4, 5, 6, 7, 8, 9, 10, 11, 12, 13], [0, 1, 2, 3, 4, 5, 6, 7, 8, 9, 10, 11, 12, 13, 14], [0, 1, 2, 3, 4, 5, 6, 7, 8, 9, 10, 11, 12, 13, 14, 15]]) (S := [16]) (F := []) (V := VL [(16, fun v _ => v = Sl.v r)]) bx (by kernel_rfl) ⟨fun _ _ _ _ h => h, trivial⟩ ⟨?_, trivial⟩ ?_
     ·intro a w hT
      have hAp := hT.ag bx [(56, Sl.v r)] ⟨rfl, trivial⟩ (by kernel_rfl)
      exact ovr hAp rfl (r_assign (hAp.get rfl)) fun _ => Eq.refl _
     ·intro dt aj bz du dv
      have dx := du [(1, j), (5, .int .i64 d), (6, .pointer (some (⟨g, 0, none⟩ : Addr))), (7, .int .i64 b)] ⟨rfl, rfl, rfl, rfl, trivial⟩ (by kernel_rfl)
      have dy : dt.tmps.getD 4 undef = Sl.v r := dv 16 rfl 4 rfl
      have dz := dx.add dy
      have dA := ds.ext bz
      have dB : Chg [] aF aj := bz
      refine PR_end (by kernel_rfl) ?_
      have bA := dz.kp [(1, j), (4, Sl.v r), (5, .int .i64 d), (6, .pointer (some (⟨g, 0, none⟩ : Addr))), (7, .int .i64 b)] rfl
      refine block_normal ?_
      refine then_normal (wp_region_lit ?_)
      refine sqv bA rfl (r_move (bA.get rfl)) fun _ bB => ?_
      obtain ⟨dC, dD⟩ := dr
      refine sqv bB rfl (r_subI (bB.get rfl) rfl dC) fun _ bC => sqv bC rfl (r_assign (bC.get rfl)) fun _ dF => sq_end ?_
      have dG := dF.kp [(1, j), (4, Sl.v r), (5, .int .i64 d), (6, .pointer (some (⟨g, 0, none⟩ : Addr))), (7, .int .i64 (b - 1))] rfl
      have bD := dD aj    dB
      have dH := dG.kp [(1, j), (4, Sl.v r), (5, .int .i64 d), (6, .pointer (some (⟨g, 0, none⟩ : Addr))), (7, .int .i64 (b - 1))] rfl
      exact then_normal ⟨(r, b - 1, aj), ⟨dH, dA, rfl, bD.1⟩, bD.2⟩
   ·have dI := bp.2 (of_decide_eq_false hc)
    clear hc
    refine wp_exit ?_
    refine then_exit ?_
    refine then_exit ?_
    refine block_hit ?_
    have bF := l.kp [(1, j), (4, Sl.v m), (5, .int .i64 d)] rfl
    refine then_normal (wp_region_lit ?_)
    refine sqv bF rfl (r_move (bF.get rfl)) fun _ bG => ?_
    obtain ⟨dJ, bH⟩ := dI
    refine sqv bG rfl (r_addI (bG.get rfl) rfl dJ) fun _ bI => sqv bI rfl (r_assign (bI.get rfl)) fun _ dK => sq_end ?_
    have dL := dK.kp [(1, j), (4, Sl.v m), (5, .int .i64 (d + 1))] rfl
    refine block_normal ?_
    have dM := dL.kp [(1, j), (4, Sl.v m), (5, .int .i64 (d + 1))] rfl
    exact then_normal ⟨(m, d + 1, z), ⟨dM, rfl, bH.1⟩, bH.2⟩
 ·have dN := aR.2 (of_decide_eq_false hc)
  clear hc
  refine wp_exit ?_
  refine then_exit ?_
  refine then_exit ?_
  refine block_hit ?_
  have dO := av.kp [] rfl
  refine sco_normal ?_
  refine res_end ?_
  exact res_all (vs := []) rfl dO trivial dN
def walk_Flat_1.vc (__1 : Int) (s : Option Addr) (j : Int) (k : Int) (l : Int) (m : Addr) (R : Value → World → Prop) (w : World) : Prop :=
∃ ag : Addr, (s = some ag) ∧
∀ (i : World) (d : Nat), New w d i → Chg [] w i →
∃ (f : Int) (g : Str) (h : Str) (r : Sl) (aa : Sl), (Cells i ag [.int .i64 f, .string (Bs g), .string (Bs h), Sl.v r, Sl.v aa]) ∧
∀ (t : World) (c : Nat), New i c t → Chg [] i t →
CallK Tryz.prog 155 #[Sl.v r] t [d, c] (fun v ah => ∃ (n : Sl), v = Sl.v n ∧
∀ (o : World), Chg [c] ah o →
∃ (ai : Sl), (o.cell? m = some (Sl.v ai)) ∧
∀ (p : World) (q : Nat), New o q p → Chg [] o p →
∀ (_ : Box p q 161 [.int .i64 j, .int .i64 1, .int .i64 k, .int .i64 1, .int .i64 l, .int .i64 f, .string (Bs g), .string (Bs h), Sl.v n, Sl.v Sl.nil]),
RunK Tryz.prog (Builtin.append_ #[158, 158] 158 #[Sl.v ai, Sl.v (Sl.mk (some ⟨q, 0, none⟩) 1 1)]) p [d, c] (fun v aj => ∃ (ab : Sl), v = Sl.v ab ∧
∃ (u ad : Nat) (ak : TypeId) (af : List Value), m = ⟨u, ad, none⟩ ∧ Box aj u ak af ∧ ad + 1 ≤ af.length ∧ (∀ b ∈ [d, c], b ≠ u) ∧
(∀ x : World, Chg [u] aj x → Box x u ak (putAt af ad [Sl.v ab]) →
R (.bool true) x)))
theorem walk_Flat_1.ok (__1 : Int) (s : Option Addr) (j : Int) (k : Int) (l : Int) (m : Addr) {R : Value → World → Prop} {w : World} (aA : walk_Flat_1.vc __1 s j k l m R w) : Calls Tryz.prog 154 #[.int .i64 __1, .agg #[.pointer s, .int .i64 j, .int .i64 k, .int .i64 l], .pointer (some m)] w (Ret R) := by
 refine enter [.int .i64 __1, .agg #[.pointer s, .int .i64 j, .int .i64 k, .int .i64 l], .pointer (some m)] Tryz.func154 rfl Tryz.ntmps154 rfl ?_
 intro a0 aB
 unfold walk_Flat_1.vc at aA
 refine wp_seq (wp_region_lit ?_)
 refine sq (opk_new (fun B => .pointer (some ⟨B, 0, none⟩)) aB rfl (r_box (cs := [.pointer s, .int .i64 j, .int .i64 k, .int .i64 l]) (aB.get rfl) rfl) fun a6 i d bd bf al bg _ => ?_)
 have bh : New w d i := bf
 have bi : Chg [] w i := bd
 refine sqv bg rfl (r_assign rfl) fun _ bj => sq_end ?_
 have aC := bj.kp [(2, .pointer (some m)), (4, .pointer (some (⟨d, 0, none⟩ : Addr)))] rfl
 refine then_normal (wp_seq (wp_region_lit ?_))
 refine sqv aC rfl (r_fieldAddr (aC.get rfl) Tryz.underlying207 rfl ti_205 (by decide)) fun _ aD => sqv aD rfl (r_load1 tU205 rfl (aD.get rfl) (al.cell 0 _ rfl)) fun _ aF => ?_
 obtain ⟨ag, bk, bl⟩ := aA
 refine sqv aF rfl (r_nilCheckP (((aF.get rfl)).trans (congrArg Value.pointer bk))) fun _ aG => ?_
 have bm := bl i d bh  bi
 obtain ⟨f, g, h, r, aa, bn, bo⟩ := bm
 refine sqv aG rfl (r_loadN Tryz.underlying39 rfl ti_39 (aG.get rfl) bn) fun _ bp => ?_
 refine sq (opk_new (fun B => .pointer (some ⟨B, 0, none⟩)) bp rfl (r_alloc (cs := [.int .i64 0, .string (Bs []), .string (Bs []), Sl.v Sl.nil, Sl.v Sl.nil]) ti_39 rfl) fun cb aH c aI aJ aK am _ => ?_)
 have an : d ≠ c := Nat.ne_of_lt (Nat.lt_of_lt_of_le al.lt aJ.ge)
 have aL : New i c aH := aJ
 have bq := al.ext aI
 have br : Chg [] i aH := aI
 refine sq (opk_store am aK (r_store (vs := [.int .i64 f, .string (Bs g), .string (Bs h), Sl.v r, Sl.v aa]) (am.get rfl) (am.get rfl) rfl ti_39 aK rfl (ones_all _ rfl)) fun cc bs ao bt bu => ?_)
 have aM : Box bs c 39 [.int .i64 f, .string (Bs g), .string (Bs h), Sl.v r, Sl.v aa] := bt
 have bv := bq.keep ao (by simpa using an)
 have bx := br.storeNew aL ao
 have aN := aL.up ao.size
 refine sq_end ?_
 have aO := bu.kp [(2, .pointer (some m)), (4, .pointer (some (⟨d, 0, none⟩ : Addr))), (6, .pointer (some (⟨c, 0, none⟩ : Addr)))] rfl
 refine then_normal (wp_seq (wp_region_lit ?_))
 refine sqv aO rfl (r_fieldAddr (aO.get rfl) Tryz.underlying39 rfl ti_37 (by decide)) fun _ aP => ?_
 refine sq (opk_store aP aM (r_store (vs := [Sl.v Sl.nil]) (aP.get rfl) rfl rfl ti_37 aM rfl (ones_all _ rfl)) fun cd t ap bz bA => ?_)
 have aQ : Box t c 39 [.int .i64 f, .string (Bs g), .string (Bs h), Sl.v r, Sl.v Sl.nil] := bz
 have bB := bv.keep ap (by simpa using an)
 have bC := bx.storeNew aN ap
 have bD := aN.up ap.size
 refine sq_end ?_
 have aR := bA.kp [(2, .pointer (some m)), (4, .pointer (some (⟨d, 0, none⟩ : Addr))), (6, .pointer (some (⟨c, 0, none⟩ : Addr)))] rfl
 refine then_normal (wp_seq (wp_region_lit ?_))
 refine sqv aR rfl (r_fieldAddr (aR.get rfl) Tryz.underlying39 rfl ti_36 (by decide)) fun _ aS => sqv aS rfl (r_load1 tU36 rfl (aS.get rfl) (aQ.cell 3 _ rfl)) fun _ aT => ?_
 have bF := bo t c bD  bC
 refine sq (opk_call aT rfl (r_call (args := #[Sl.v r]) Tryz.func155 (by decide) rfl (map_arr (ml_cons (aT.get rfl) ml_nil)) rfl) bF fun cf cg ah aU _ aV ch bG => ?_)
 obtain ⟨n, rfl, bH⟩ := bG
 have bI := bB.kept aV (.head _)
 have aX := aQ.kept aV (.tail _ (.head _))
 refine sqv aU rfl (r_fieldAddr (aU.get rfl) Tryz.underlying39 rfl ti_36 (by decide)) fun _ aq => ?_
 refine sq (opk_store aq aX (r_store (vs := [Sl.v n]) (aq.get rfl) (aq.get rfl) rfl ti_36 aX rfl (ones_all _ rfl)) fun ci o aY bJ bK => ?_)
 have ar : Box o c 39 [.int .i64 f, .string (Bs g), .string (Bs h), Sl.v n, Sl.v Sl.nil] := bJ
 have y := bI.keep aY (by simpa using an)
 have bL : Chg [c] ah o := aY
 refine sq_end ?_
 have aZ := bK.kp [(2, .pointer (some m)), (4, .pointer (some (⟨d, 0, none⟩ : Addr))), (6, .pointer (some (⟨c, 0, none⟩ : Addr)))] rfl
 refine then_normal (wp_seq (wp_region_lit ?_))
 have bM := bH o    bL
 obtain ⟨ai, bN, bO⟩ := bM
 refine sqv aZ rfl (r_load1 tU158 rfl (aZ.get rfl) bN) fun _ hA76 => sqv hA76 rfl (r_fieldAddr (hA76.get rfl) Tryz.underlying207 rfl ti_3 (by decide)) fun _ a1 => sqv a1 rfl (r_load1 tU3 rfl (a1.get rfl) (y.cell 1 _ rfl)) fun _ a2 => sqv a2 rfl (r_fieldAddr (a2.get rfl) Tryz.underlying207 rfl ti_3 (by decide)) fun _ a3 => sqv a3 rfl (r_load1 tU3 rfl (a3.get rfl) (y.cell 2 _ rfl)) fun _ a4 => sqv a4 rfl (r_fieldAddr (a4.get rfl) Tryz.underlying207 rfl ti_3 (by decide)) fun _ a5 => sqv a5 rfl (r_load1 tU3 rfl (a5.get rfl) (y.cell 3 _ rfl)) fun _ hA86 => sqv hA86 rfl (r_loadN (cs := [.int .i64 f, .string (Bs g), .string (Bs h), Sl.v n, Sl.v Sl.nil]) Tryz.underlying39 rfl ti_39 (hA86.get rfl) (ar.part 0 _ rfl)) fun _ z => ?_
 refine sqv z rfl (r_build (vs := #[(0, .int .i64 j), (1, .int .i64 1), (2, .int .i64 k), (3, .int .i64 1), (4, .int .i64 l), (5, .agg #[.int .i64 f, .string (Bs g), .string (Bs h), Sl.v n, Sl.v Sl.nil])]) (cells := #[.int .i64 j, .int .i64 1, .int .i64 k, .int .i64 1, .int .i64 l, .int .i64 f, .string (Bs g), .string (Bs h), Sl.v n, Sl.v Sl.nil]) (map_arr2 (ml2_cons (z.get rfl) (ml2_cons rfl (ml2_cons (z.get rfl) (ml2_cons rfl (ml2_cons (z.get rfl) (ml2_cons (z.get rfl) (ml2_nil)))))))) ti_161 Tryz.underlying161 pl_161 (by kernel_rfl)) fun _ a7 => ?_
 refine sq (opk_new (fun B => .slice (some ⟨B, 0, none⟩) 1 1) a7 rfl (r_buildSlice (vs := #[(0, .agg #[.int .i64 j, .int .i64 1, .int .i64 k, .int .i64 1, .int .i64 l, .int .i64 f, .string (Bs g), .string (Bs h), Sl.v n, Sl.v Sl.nil])]) (cs := [.int .i64 j, .int .i64 1, .int .i64 k, .int .i64 1, .int .i64 l, .int .i64 f, .string (Bs g), .string (Bs h), Sl.v n, Sl.v Sl.nil]) (map_arr2 (ml2_cons (a7.get rfl) (ml2_nil))) tU158 ti_161 rfl rfl (by kernel_rfl)) fun cj p q au av bP ax _ => ?_)
 have ck : d ≠ q := Nat.ne_of_lt (Nat.lt_of_lt_of_le y.lt av.ge)
 have cl : c ≠ q := Nat.ne_of_lt (Nat.lt_of_lt_of_le ar.lt av.ge)
 have bQ : New o q p := av
 have bR := y.ext au
 have bS := ar.ext au
 have bT : Chg [] o p := au
 have bU := bO p q bQ  bT
 have bV := bU bP
 refine sq (opk_run ax rfl (fun _ _ hr => r_append (ax.get rfl) (ax.get rfl) hr) bV fun cm cn aj ay _ a8 co bX => ?_)
 obtain ⟨ab, rfl, bY⟩ := bX
 have bZ := bR.kept a8 (.head _)
 have b0 := bS.kept a8 (.tail _ (.head _))
 obtain ⟨u, ad, ak, af, b1, a9, b2, ba, b3⟩ := bY
 refine sq (opk_store ay a9 (r_store (vs := [Sl.v ab]) (((ay.get rfl)).trans (congrArg (fun a => Value.pointer (some a)) b1)) (ay.get rfl) rfl ti_158 a9 (Nat.ble_eq_true_of_le b2) (ones_all _ rfl)) fun cp x az b4 b5 => ?_)
 have cq := bZ.keep az (by have := ba d (by simp); simpa using this)
 have cr := b0.keep az (by have := ba c (by simp); simpa using this)
 have b6 := b3 x az b4
 refine sq_end ?_
 have b7 := b5.kp [] rfl
 refine then_normal (wp_seq (wp_region_lit ?_))
 refine sqv b7 rfl (r_assign rfl) fun _ b8 => sq_end ?_
 have bb := b8.kp [(5, .bool true)] rfl
 refine then_normal ?_
 refine wp_ret ?_
 exact res_all (vs := [.bool true]) rfl bb ⟨res_of_tmp bb rfl, trivial⟩ b6
end Go.Proofs.YteacalmdpoblpaaGreat
