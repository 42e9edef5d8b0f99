/-
  PRINTED BY PROGRAM: for each function its condition (vc), and that this suffices (ok).
-/
import Derived.Test.YteohbfaechfliaaQSlotsAttrsGT
namespace Go.Proofs.Yteohbfaechfliaa
open Go.RowKit
set_option linter.unusedVariables false
set_option maxHeartbeats 1000000
set_option maxRecDepth 10000
def ref20_Whole.vc (aD : Int) (aG : Str) (aH : Str) (aI : Sl) (aJ : Sl) (aK : Int) (aL : Str) (aM : Str) (aN : Sl) (aO : Sl) (R : Value → World → Prop) (w : World) : Prop :=
∀ (w6 : World) (aq : Nat) (ar : Nat), New w aq w6 → New w ar w6 → aq ≠ ar → Chg [] w w6 →
CallK Try.prog 75 #[.agg #[.int .i64 aD, .string (Bs aG), .string (Bs aH), Sl.v aI, Sl.v aJ], .agg #[.int .i64 aK, .string (Bs aL), .string (Bs aM), Sl.v aN, Sl.v aO]] w6 [aq, ar] (fun v w9 => ∃ (k : Option Addr), v = .pointer k ∧
∀ (s : World), Chg [] w9 s →
∃ x : Addr, (k = some x) ∧
∃ (m : Sl), (s.cell? (x.add 2) = some (Sl.v m)) ∧
∃ u : Addr, (k = some u) ∧
∃ (l : Sl), (s.cell? (u.add 3) = some (Sl.v l)) ∧
∀ (y : World) (f : Nat) (g : Nat), Ext s y → s.heap.size ≤ f → Box y f 129 [.int .i64 0, .int .i64 0] → s.heap.size ≤ g → Box y g 129 [.int .i64 0, .int .i64 0] → 
∀ (aP : World), Chg [g, f] y aP →
CallK Try.prog 76 #[.pointer k, Sl.v Sl.nil, .agg #[.int .i64 0, .int .i64 (m.n : Int)], .agg #[.int .i64 0, .int .i64 (l.n : Int)]] aP [f, g] (fun v bz => ∃ (j : Sl), v = Sl.v j ∧
∃ (a3 : Int → World → Prop) (bA : Int → World → Nat),
a3 1 bz ∧
(∀ (p : Int) (au : World), a3 p au →
((p < (j.n : Int)) →
∃ (a4 : Int → World → Prop) (bB : Int → World → Nat),
a4 p au ∧
(∀ (d : Int) (aQ : World), a4 d aQ →
∀ (af : World), Chg [] aQ af →
∃ a5 : Addr, (((0 < d)) → ((0 : Int) ≤ d ∧ d < (j.n : Int)) ∧ j.a = some a5) ∧
∃ (av : Int), (((0 < d)) → af.cell? ((a5.add (d.toNat * 2)).add 0) = some (.int .i64 av)) ∧
(((0 < d)) → I64 (d - 1)) ∧
∃ a6 : Addr, (((0 < d)) → ((0 : Int) ≤ d - 1 ∧ d - 1 < (j.n : Int)) ∧ j.a = some a6) ∧
∃ (ax : Int), (((0 < d)) → af.cell? ((a6.add ((d - 1).toNat * 2)).add 0) = some (.int .i64 ax)) ∧
(((0 < d) ∧ (av < ax)) →
∀ (ab : World), Chg [] af ab →
(I64 (d - 1)) ∧
(I64 (d - 1)) ∧
∃ ay : Addr, (((0 : Int) ≤ d - 1 ∧ d - 1 < (j.n : Int)) ∧ j.a = some ay) ∧
∃ (ah : Int) (ai : Int), (Cells ab (ay.add ((d - 1).toNat * 2)) [.int .i64 ah, .int .i64 ai]) ∧
∃ az : Addr, (((0 : Int) ≤ d ∧ d < (j.n : Int)) ∧ j.a = some az) ∧
∃ (z : Int) (aa : Int), (Cells ab (az.add (d.toNat * 2)) [.int .i64 z, .int .i64 aa]) ∧
∃ aA : Addr, (((0 : Int) ≤ d ∧ d < (j.n : Int)) ∧ j.a = some aA) ∧
∃ (aj aR : Nat) (a7 : TypeId) (aS : List Value), (aA.add (d.toNat * 2)) = ⟨aj, aR, none⟩ ∧ Box ab aj a7 aS ∧ aR + 2 ≤ aS.length ∧ (∀ b ∈ [f, g], b ≠ aj) ∧
(∀ ak : World, Chg [aj] ab ak → Box ak aj a7 (putAt aS aR [.int .i64 ah, .int .i64 ai]) →
∀ (al : World), Chg [] ak al →
∃ aB : Addr, (((0 : Int) ≤ d - 1 ∧ d - 1 < (j.n : Int)) ∧ j.a = some aB) ∧
∀ (am : World), Chg [] al am →
∃ (an aU : Nat) (a8 : TypeId) (aV : List Value), (aB.add ((d - 1).toNat * 2)) = ⟨an, aU, none⟩ ∧ Box am an a8 aV ∧ aU + 2 ≤ aV.length ∧ (∀ b ∈ [f, g], b ≠ an) ∧
(∀ ao : World, Chg [an] am ao → Box ao an a8 (putAt aV aU [.int .i64 z, .int .i64 aa]) →
(I64 (d - 1)) ∧
a4 (d - 1) ao ∧ bB (d - 1) ao < bB d aQ))) ∧
(((¬ (0 < d)) ∨ (¬ (av < ax))) →
(I64 (p + 1)) ∧
∀ (aX : World), Chg [] af aX →
a3 (p + 1) aX ∧ bA (p + 1) aX < bA p au))) ∧
((¬ (p < (j.n : Int))) →
CallK Try.prog 77 #[.pointer k, .agg #[.int .i64 0, .int .i64 (m.n : Int)], .agg #[.int .i64 0, .int .i64 (l.n : Int)]] au [f, g] (fun v bC => ∃ (a9 : Int), v = .int .i64 a9 ∧
R (.tuple #[.int .i64 a9, Sl.v j]) bC)))))
theorem ref20_Whole.ok (aD : Int) (aG : Str) (aH : Str) (aI : Sl) (aJ : Sl) (aK : Int) (aL : Str) (aM : Str) (aN : Sl) (aO : Sl) {R : Value → World → Prop} {w : World} (b6 : ref20_Whole.vc aD aG aH aI aJ aK aL aM aN aO R w) : Calls Try.prog 57 #[.agg #[.int .i64 aD, .string (Bs aG), .string (Bs aH), Sl.v aI, Sl.v aJ], .agg #[.int .i64 aK, .string (Bs aL), .string (Bs aM), Sl.v aN, Sl.v aO]] w (Ret R) := by
 refine go _ Try.func57 Try.ntmps57 b6 ?_
 refine gS <| gR <| nb fun w4 aq => ?_
 refine nb fun w6 ar => ?_
 refine gN ?_
 refine gN <| ge <| tn <| gS <| gR ?_
 refine gBN 1 5 Try.underlying26 ti_26 ?_
 refine gBN 0 5 Try.underlying26 ti_26 <| gT2 ?_
 refine gC [1, 0] Try.func75 fun _ w9 => gE fun k => gQ ?_
 refine gN <| ge <| tn <| gS ?_
 intro d2 bD b7
 have q := bD.ag
 have d3 : aq ≠ ar := bD.ne 1 0
 refine draw' (by kernel_rfl) fun s b8 => ?_
 have b9 : Chg [] w9 s := b8
 have ca := b7 s    b9
 obtain ⟨x, bF, cb⟩ := ca
 obtain ⟨m, ba, cc⟩ := cb
 obtain ⟨u, bb, cd⟩ := cc
 obtain ⟨l, bd, cf⟩ := cd
 refine startF (D := [[], [0], [0, 1], [0, 1, 2], [0, 1, 2, 3], [0, 1, 2, 3, 4], [], [6], [6, 7], [6, 7, 8], [6, 7, 8, 9], [6, 7, 8, 9, 10], [], [], [0, 1, 2, 3, 4, 5, 12, 13], [0, 1, 2, 3, 4, 5, 6, 7, 8, 9, 10, 11, 12, 13, 14]]) (Fs := [0, 1, 2, 3, 4, 5, 6, 7, 8, 9, 10, 11]) (Ef := [(0, fun v _ => v = .pointer k), (1, fun v _ => v = .pointer (some x)), (2, fun v _ => v = .pointer (some (x.add 2))), (3, fun v _ => v = Sl.v m), (4, fun v _ => v = .int .i64 (m.n : Int)), (5, fun v _ => v = .agg #[.int .i64 0, .int .i64 (m.n : Int)]), (6, fun v _ => v = .pointer k), (7, fun v _ => v = .pointer (some u)), (8, fun v _ => v = .pointer (some (u.add 3))), (9, fun v _ => v = Sl.v l), (10, fun v _ => v = .int .i64 (l.n : Int)), (11, fun v _ => v = .agg #[.int .i64 0, .int .i64 (l.n : Int)])]) (by kernel_rfl) ?_
 refine parFN (D := [[], [0], [0, 1], [0, 1, 2], [0, 1, 2, 3], [0, 1, 2, 3, 4], [], [6], [6, 7], [6, 7, 8], [6, 7, 8, 9], [6, 7, 8, 9, 10], [], [], [0, 1, 2, 3, 4, 5, 12, 13], [0, 1, 2, 3, 4, 5, 6, 7, 8, 9, 10, 11, 12, 13, 14]]) (S := [12, 13]) (F := []) (KE := [12, 13]) (N := [12, 13]) (E := [(12, fun v w' => ∃ f : Nat, s.heap.size ≤ f ∧ Box w' f 129 [.int .i64 0, .int .i64 0] ∧ v = pB f 0), (13, fun v w' => ∃ g : Nat, s.heap.size ≤ g ∧ Box w' g 129 [.int .i64 0, .int .i64 0] ∧ v = pB g 0)]) q rfl (by kernel_rfl) (blkF ⟨fun _ _ h => by obtain ⟨f, _, hB, rfl⟩ := h; exact hB.lt, fun _ _ h => by obtain ⟨g, _, hB, rfl⟩ := h; exact hB.lt, trivial⟩) ⟨fun _ _ _ hE ⟨f, h0_, h1_, e⟩ => ⟨f, h0_, (h1_.ext hE), e⟩, fun _ _ _ hE ⟨g, h0_, h1_, e⟩ => ⟨g, h0_, (h1_.ext hE), e⟩, fun _ _ _ _ h => h, fun _ _ _ _ h => h, fun _ _ _ _ h => h, fun _ _ _ _ h => h, fun _ _ _ _ h => h, fun _ _ _ _ h => h, fun _ _ _ _ h => h, fun _ _ _ _ h => h, fun _ _ _ _ h => h, fun _ _ _ _ h => h, fun _ _ _ _ h => h, fun _ _ _ _ h => h, trivial⟩ ⟨?_, ?_, ?_, ?_, ?_, ?_, ?_, ?_, ?_, ?_, ?_, ?_, ?_, ?_, trivial⟩ ?_
 ·intro a w hT
  have hAp := hT.ag q [] trivial (by kernel_rfl)
  exact opk_new (fun B => .pointer (some ⟨B, 0, none⟩)) hAp rfl (r_alloc (cs := [.int .i64 0, .int .i64 0]) ti_129 rfl) fun _ d4 f cg bG ch _ e => ⟨_, e, cg, fun _ => ⟨f, Nat.le_trans hT.chg.size bG.ge, ch, rfl⟩, fun _ => bG.ge⟩
 ·intro a w hT
  have hAp := hT.ag q [] trivial (by kernel_rfl)
  exact opk_new (fun B => .pointer (some ⟨B, 0, none⟩)) hAp rfl (r_alloc (cs := [.int .i64 0, .int .i64 0]) ti_129 rfl) fun _ d5 g ci bH cj _ e => ⟨_, e, ci, fun _ => ⟨g, Nat.le_trans hT.chg.size bH.ge, cj, rfl⟩, fun _ => bH.ge⟩
 ·intro a w hT
  refine overN_of rfl ?_
  have hAp := hT.ag q [(6, .pointer k)] ⟨rfl, trivial⟩ (by kernel_rfl)
  exact ovr hAp rfl (r_move (hAp.get rfl)) fun _ => Eq.refl _
 ·intro a w hT
  refine overN_of rfl ?_
  have hAp := hT.ag q [] trivial (by kernel_rfl)
  have hAp := hAp.add (t := 15) (v := .pointer k) (hT.vals 0 rfl 15 rfl)
  exact ovr hAp rfl (r_nilCheckP (((hAp.get rfl)).trans (congrArg Value.pointer bF))) fun _ => Eq.refl _
 ·intro a w hT
  refine overN_of rfl ?_
  have hAp := hT.ag q [] trivial (by kernel_rfl)
  have hAp := hAp.add (t := 16) (v := .pointer (some x)) (hT.vals 1 rfl 16 rfl)
  exact ovr hAp rfl (r_fieldAddr (hAp.get rfl) Try.underlying127 rfl ti_22 (by decide)) fun _ => Eq.refl _
 ·intro a w hT
  refine overN_of rfl ?_
  have hAp := hT.ag q [] trivial (by kernel_rfl)
  have hAp := hAp.add (t := 17) (v := .pointer (some (x.add 2))) (hT.vals 2 rfl 17 rfl)
  exact ovr hAp rfl (r_load1 tU22 rfl (hAp.get rfl) (Ext.cell hT.chg ba)) fun _ => Eq.refl _
 ·intro a w hT
  refine overN_of rfl ?_
  have hAp := hT.ag q [] trivial (by kernel_rfl)
  have hAp := hAp.add (t := 18) (v := Sl.v m) (hT.vals 3 rfl 18 rfl)
  exact ovr hAp rfl (r_len (hAp.get rfl) tU22) fun _ => Eq.refl _
 ·intro a w hT
  refine overN_of rfl ?_
  have hAp := hT.ag q [] trivial (by kernel_rfl)
  have hAp := hAp.add (t := 19) (v := .int .i64 (m.n : Int)) (hT.vals 4 rfl 19 rfl)
  exact ovr hAp rfl (r_build (vs := #[(0, .int .i64 0), (1, .int .i64 (m.n : Int))]) (cells := #[.int .i64 0, .int .i64 (m.n : Int)]) (map_arr2 (ml2_cons rfl (ml2_cons (hAp.get rfl) (ml2_nil)))) ti_129 Try.underlying129 pl_129 (by kernel_rfl)) fun _ => Eq.refl _
 ·intro a w hT
  refine overN_of rfl ?_
  have hAp := hT.ag q [(6, .pointer k)] ⟨rfl, trivial⟩ (by kernel_rfl)
  exact ovr hAp rfl (r_move (hAp.get rfl)) fun _ => Eq.refl _
 ·intro a w hT
  refine overN_of rfl ?_
  have hAp := hT.ag q [] trivial (by kernel_rfl)
  have hAp := hAp.add (t := 21) (v := .pointer k) (hT.vals 6 rfl 21 rfl)
  exact ovr hAp rfl (r_nilCheckP (((hAp.get rfl)).trans (congrArg Value.pointer bb))) fun _ => Eq.refl _
 ·intro a w hT
  refine overN_of rfl ?_
  have hAp := hT.ag q [] trivial (by kernel_rfl)
  have hAp := hAp.add (t := 22) (v := .pointer (some u)) (hT.vals 7 rfl 22 rfl)
  exact ovr hAp rfl (r_fieldAddr (hAp.get rfl) Try.underlying127 rfl ti_22 (by decide)) fun _ => Eq.refl _
 ·intro a w hT
  refine overN_of rfl ?_
  have hAp := hT.ag q [] trivial (by kernel_rfl)
  have hAp := hAp.add (t := 23) (v := .pointer (some (u.add 3))) (hT.vals 8 rfl 23 rfl)
  exact ovr hAp rfl (r_load1 tU22 rfl (hAp.get rfl) (Ext.cell hT.chg bd)) fun _ => Eq.refl _
 ·intro a w hT
  refine overN_of rfl ?_
  have hAp := hT.ag q [] trivial (by kernel_rfl)
  have hAp := hAp.add (t := 24) (v := Sl.v l) (hT.vals 9 rfl 24 rfl)
  exact ovr hAp rfl (r_len (hAp.get rfl) tU22) fun _ => Eq.refl _
 ·intro a w hT
  refine overN_of rfl ?_
  have hAp := hT.ag q [] trivial (by kernel_rfl)
  have hAp := hAp.add (t := 25) (v := .int .i64 (l.n : Int)) (hT.vals 10 rfl 25 rfl)
  exact ovr hAp rfl (r_build (vs := #[(0, .int .i64 0), (1, .int .i64 (l.n : Int))]) (cells := #[.int .i64 0, .int .i64 (l.n : Int)]) (map_arr2 (ml2_cons rfl (ml2_cons (hAp.get rfl) (ml2_nil)))) ti_129 Try.underlying129 pl_129 (by kernel_rfl)) fun _ => Eq.refl _
 ·intro d6 y aY ck bI cl
  have cm := ck [(6, .pointer k)] ⟨rfl, trivial⟩ (by kernel_rfl)
  obtain ⟨f, bf, bg, bJ⟩ := bI 12 rfl 7 rfl
  have cn := cm.add bJ
  obtain ⟨g, co, bK, bL⟩ := bI 13 rfl 8 rfl
  have r := cn.add bL
  have bi : f ≠ g := by have h := cl 12 13 rfl 7 8 rfl rfl; rw [bJ, bL] at h; exact h
  have d7 : Chg [] s y := aY
  have bM := Ext.cell aY ba
  have bN := Ext.cell aY bd
  have cp := cf y f g aY bf bg co bK
  refine oneF (c := 14) r rfl (by kernel_rfl) (constF ⟨fun _ _ _ h => h, fun _ _ _ h => h, fun _ _ _ h => h, fun _ _ _ h => h, fun _ _ _ h => h, fun _ _ _ h => h, fun _ _ _ h => h, fun _ _ _ h => h, fun _ _ _ h => h, fun _ _ _ h => h, fun _ _ _ h => h, fun _ _ _ h => h, trivial⟩) ⟨?_, ?_, ?_, ?_, ?_, ?_, ?_, ?_, ?_, ?_, ?_, ?_, trivial⟩ ?_
  ·intro a hT
   have hAp := hT.ag r [(6, .pointer k)] ⟨rfl, trivial⟩ (by kernel_rfl)
   exact opk_val hAp rfl (r_move (hAp.get rfl)) fun _ _ e => ⟨_, e, rfl, fun _ => Eq.refl _⟩
  ·intro a hT
   have hAp := hT.ag r [] trivial (by kernel_rfl)
   have hAp := hAp.add (t := 15) (v := .pointer k) (hT.vals 0 rfl 15 rfl)
   exact opk_val hAp rfl (r_nilCheckP (((hAp.get rfl)).trans (congrArg Value.pointer bF))) fun _ _ e => ⟨_, e, rfl, fun _ => Eq.refl _⟩
  ·intro a hT
   have hAp := hT.ag r [] trivial (by kernel_rfl)
   have hAp := hAp.add (t := 16) (v := .pointer (some x)) (hT.vals 1 rfl 16 rfl)
   exact opk_val hAp rfl (r_fieldAddr (hAp.get rfl) Try.underlying127 rfl ti_22 (by decide)) fun _ _ e => ⟨_, e, rfl, fun _ => Eq.refl _⟩
  ·intro a hT
   have hAp := hT.ag r [] trivial (by kernel_rfl)
   have hAp := hAp.add (t := 17) (v := .pointer (some (x.add 2))) (hT.vals 2 rfl 17 rfl)
   exact opk_val hAp rfl (r_load1 tU22 rfl (hAp.get rfl) (Ext.cell hT.chg bM)) fun _ _ e => ⟨_, e, rfl, fun _ => Eq.refl _⟩
  ·intro a hT
   have hAp := hT.ag r [] trivial (by kernel_rfl)
   have hAp := hAp.add (t := 18) (v := Sl.v m) (hT.vals 3 rfl 18 rfl)
   exact opk_val hAp rfl (r_len (hAp.get rfl) tU22) fun _ _ e => ⟨_, e, rfl, fun _ => Eq.refl _⟩
  ·intro a hT
   have hAp := hT.ag r [] trivial (by kernel_rfl)
   have hAp := hAp.add (t := 19) (v := .int .i64 (m.n : Int)) (hT.vals 4 rfl 19 rfl)
   exact opk_val hAp rfl (r_build (vs := #[(0, .int .i64 0), (1, .int .i64 (m.n : Int))]) (cells := #[.int .i64 0, .int .i64 (m.n : Int)]) (map_arr2 (ml2_cons rfl (ml2_cons (hAp.get rfl) (ml2_nil)))) ti_129 Try.underlying129 pl_129 (by kernel_rfl)) fun _ _ e => ⟨_, e, rfl, fun _ => Eq.refl _⟩
  ·intro a hT
   have hAp := hT.ag r [(6, .pointer k)] ⟨rfl, trivial⟩ (by kernel_rfl)
   exact opk_val hAp rfl (r_move (hAp.get rfl)) fun _ _ e => ⟨_, e, rfl, fun _ => Eq.refl _⟩
  ·intro a hT
   have hAp := hT.ag r [] trivial (by kernel_rfl)
   have hAp := hAp.add (t := 21) (v := .pointer k) (hT.vals 6 rfl 21 rfl)
   exact opk_val hAp rfl (r_nilCheckP (((hAp.get rfl)).trans (congrArg Value.pointer bb))) fun _ _ e => ⟨_, e, rfl, fun _ => Eq.refl _⟩
  ·intro a hT
   have hAp := hT.ag r [] trivial (by kernel_rfl)
   have hAp := hAp.add (t := 22) (v := .pointer (some u)) (hT.vals 7 rfl 22 rfl)
   exact opk_val hAp rfl (r_fieldAddr (hAp.get rfl) Try.underlying127 rfl ti_22 (by decide)) fun _ _ e => ⟨_, e, rfl, fun _ => Eq.refl _⟩
  ·intro a hT
   have hAp := hT.ag r [] trivial (by kernel_rfl)
   have hAp := hAp.add (t := 23) (v := .pointer (some (u.add 3))) (hT.vals 8 rfl 23 rfl)
   exact opk_val hAp rfl (r_load1 tU22 rfl (hAp.get rfl) (Ext.cell hT.chg bN)) fun _ _ e => ⟨_, e, rfl, fun _ => Eq.refl _⟩
  ·intro a hT
   have hAp := hT.ag r [] trivial (by kernel_rfl)
   have hAp := hAp.add (t := 24) (v := Sl.v l) (hT.vals 9 rfl 24 rfl)
   exact opk_val hAp rfl (r_len (hAp.get rfl) tU22) fun _ _ e => ⟨_, e, rfl, fun _ => Eq.refl _⟩
  ·intro a hT
   have hAp := hT.ag r [] trivial (by kernel_rfl)
   have hAp := hAp.add (t := 25) (v := .int .i64 (l.n : Int)) (hT.vals 10 rfl 25 rfl)
   exact opk_val hAp rfl (r_build (vs := #[(0, .int .i64 0), (1, .int .i64 (l.n : Int))]) (cells := #[.int .i64 0, .int .i64 (l.n : Int)]) (map_arr2 (ml2_cons rfl (ml2_cons (hAp.get rfl) (ml2_nil)))) ti_129 Try.underlying129 pl_129 (by kernel_rfl)) fun _ _ e => ⟨_, e, rfl, fun _ => Eq.refl _⟩
  ·intro cq hT
   have cr := hT.ag r [(6, .pointer k), (7, pB f 0), (8, pB g 0)] ⟨rfl, rfl, rfl, trivial⟩ (by kernel_rfl)
   have ct : cq.tmps.getD 20 undef = .agg #[.int .i64 0, .int .i64 (m.n : Int)] := hT.vals 5 rfl 20 rfl
   have bj := cr.add ct
   refine opk_storeF bj bg (r_store (vs := [.int .i64 0, .int .i64 (m.n : Int)]) (bj.get rfl) (bj.get rfl) rfl ti_129 bg rfl (ones_all _ rfl)) fun bO aZ cu cv => ⟨undef, Eq.refl _, ?_⟩
   have cx : Box bO f 129 [.int .i64 0, .int .i64 (m.n : Int)] := cu
   have cy := bK.keep aZ (by simpa using bi.symm)
   have cz : Chg [f] y bO := aZ
   have d8 := Chg.cell aZ bM (cell_apart ba bf)
   have bP := Chg.cell aZ bN (cell_apart bd bf)
   refine PRF_drop (X := [0, 1, 2, 3, 4, 5]) (Fs' := [6, 7, 8, 9, 10, 11]) cv (by kernel_rfl) fun d9 cA fa => ?_
   have ad := cA [(6, .pointer k), (7, pB f 0), (8, pB g 0)] ⟨rfl, rfl, rfl, trivial⟩ (by kernel_rfl)
   refine joinF ad (by kernel_rfl) ⟨fun _ _ _ _ h => h, fun _ _ _ _ h => h, fun _ _ _ _ h => h, fun _ _ _ _ h => h, fun _ _ _ _ h => h, fun _ _ _ _ h => h, trivial⟩ ⟨?_, ?_, ?_, ?_, ?_, ?_, trivial⟩ ?_
   ·intro a w hT
    have hAp := hT.ag ad [(6, .pointer k)] ⟨rfl, trivial⟩ (by kernel_rfl)
    exact ovr hAp rfl (r_move (hAp.get rfl)) fun _ => Eq.refl _
   ·intro a w hT
    have hAp := hT.ag ad [] trivial (by kernel_rfl)
    have hAp := hAp.add (t := 21) (v := .pointer k) (hT.vals 6 rfl 21 rfl)
    exact ovr hAp rfl (r_nilCheckP (((hAp.get rfl)).trans (congrArg Value.pointer bb))) fun _ => Eq.refl _
   ·intro a w hT
    have hAp := hT.ag ad [] trivial (by kernel_rfl)
    have hAp := hAp.add (t := 22) (v := .pointer (some u)) (hT.vals 7 rfl 22 rfl)
    exact ovr hAp rfl (r_fieldAddr (hAp.get rfl) Try.underlying127 rfl ti_22 (by decide)) fun _ => Eq.refl _
   ·intro a w hT
    have hAp := hT.ag ad [] trivial (by kernel_rfl)
    have hAp := hAp.add (t := 23) (v := .pointer (some (u.add 3))) (hT.vals 8 rfl 23 rfl)
    exact ovr hAp rfl (r_load1 tU22 rfl (hAp.get rfl) (Ext.cell hT.chg bP)) fun _ => Eq.refl _
   ·intro a w hT
    have hAp := hT.ag ad [] trivial (by kernel_rfl)
    have hAp := hAp.add (t := 24) (v := Sl.v l) (hT.vals 9 rfl 24 rfl)
    exact ovr hAp rfl (r_len (hAp.get rfl) tU22) fun _ => Eq.refl _
   ·intro a w hT
    have hAp := hT.ag ad [] trivial (by kernel_rfl)
    have hAp := hAp.add (t := 25) (v := .int .i64 (l.n : Int)) (hT.vals 10 rfl 25 rfl)
    exact ovr hAp rfl (r_build (vs := #[(0, .int .i64 0), (1, .int .i64 (l.n : Int))]) (cells := #[.int .i64 0, .int .i64 (l.n : Int)]) (map_arr2 (ml2_cons rfl (ml2_cons (hAp.get rfl) (ml2_nil)))) ti_129 Try.underlying129 pl_129 (by kernel_rfl)) fun _ => Eq.refl _
   ·intro cB fb a0 cC cD
    have cF := cC [(6, .pointer k), (7, pB f 0), (8, pB g 0)] ⟨rfl, rfl, rfl, trivial⟩ (by kernel_rfl)
    have cG : cB.tmps.getD 26 undef = .agg #[.int .i64 0, .int .i64 (l.n : Int)] := cD 11 rfl 26 rfl
    have bk := cF.add cG
    have cH := cx.ext a0
    have bQ := cy.ext a0
    have cI := cz.more a0
    have fc := Ext.cell a0 bP
    refine one (D := [[], [0], [0, 1], [0, 1, 2], [0, 1, 2, 3], [0, 1, 2, 3, 4], [], [6], [6, 7], [6, 7, 8], [6, 7, 8, 9], [6, 7, 8, 9, 10], [], [], [0, 1, 2, 3, 4, 5, 12, 13], [0, 1, 2, 3, 4, 5, 6, 7, 8, 9, 10, 11, 12, 13, 14]]) (i := 15) rfl (by kernel_rfl) (opk_store bk bQ (r_store (vs := [.int .i64 0, .int .i64 (l.n : Int)]) (bk.get rfl) (bk.get rfl) rfl ti_129 bQ rfl (ones_all _ rfl)) fun fd aP bR cJ cK => ?_)
    have cL : Box aP g 129 [.int .i64 0, .int .i64 (l.n : Int)] := cJ
    have cM := cH.keep bR (by simpa using bi)
    have cN := cI.storeOld bR
    refine PR_end (by kernel_rfl) ?_
    have cO := cK.kp [(6, .pointer k), (7, pB f 0), (8, pB g 0)] rfl
    refine gK (bs := [(g, 129, [.int .i64 0, .int .i64 (l.n : Int)]), (f, 129, [.int .i64 0, .int .i64 (m.n : Int)])]) (N := []) cO cN ⟨cL, cM, trivial⟩ (by simp [(Ne.symm bi)]) trivial (by simp) cp ?_
    refine tn <| gS <| gR <| gM ?_
    refine gBN 1 2 Try.underlying129 ti_129 ?_
    refine gBN 0 2 Try.underlying129 ti_129 <| gT0 ?_
    refine gC [1, 0] Try.func76 fun _ bz => gE fun j => gQ ?_
    refine gN <| ge <| tn <| gS <| gS <| gR ?_
    refine gN <| ge <| tn <| gb <| gE fun _ => gE fun mu => ?_
    refine l1 mu (fun p => [(10, .int .i64 p)]) [(6, _), (7, _), (8, _), (9, _)] (fun _ => []) [(f, _, _), (g, _, _)] [1, 0] fun p au _ => gS <| gS <| gR ?_
    refine gM ?_
    refine gM ?_
    refine g1 (fun cP => r_len cP tU29) ?_
    refine g2 r_lss <| ge <| tn ?_
    refine gi dT dF ?_ ?_
    ·refine gk <| tn <| gS <| gb <| gS <| gR <| gM ?_
     refine gN <| ge <| tn <| gb <| gE fun _ => gE fun mu => ?_
     refine l1 mu (fun d => [(11, .int .i64 d)]) [(6, _), (7, _), (8, _), (9, _), (10, _)] (fun _ => []) [(f, _, _), (g, _, _)] [0, 1] fun d aQ _ => gS <| gS ?_
     refine gD fun af => gT0 ?_
     refine gW 0 16 [] ?_
     refine gM ?_
     refine g2 r_gtr ?_
     refine gM ?_
     refine G1 r_move ?_
     refine G1 r_move ?_
     refine GI2 tU29 ti_40 (fun hg => (dT (g_t hg))) fun a5 => ?_
     refine GF 0 Try.underlying40 ti_3 ?_
     refine gE fun av => GLd tU3 (fun hg => (dT (g_t hg))) ?_
     refine G1 r_move ?_
     refine G1 r_move ?_
     refine G2s r_subI (fun hg => (dT (g_t hg))) ?_
     refine GI2 tU29 ti_40 (fun hg => (dT (g_t hg))) fun a6 => ?_
     refine GF 0 Try.underlying40 ti_3 ?_
     refine gE fun ax => GLd tU3 (fun hg => (dT (g_t hg))) ?_
     refine G2 r_lss ?_
     refine gpa <| geT fun aX => ?_
     refine gZ <| tn ?_
     refine gi (fun h => ⟨(dT (aT h).1), (dT (aT h).2)⟩) (fun h => ((aF h).imp (fun h => (dF h)) (fun h => (dF h)))) ?_ ?_
     ·refine gk <| tn <| gS <| gb ?_
      intro ff aC cQ
      have o := aC.ag
      have cR := aC.bx 0 rfl
      have cS := aC.bx 1 rfl
      have cT := aC.chg
      have cU : f ≠ g := aC.ne 0 1
      refine draw' (by kernel_rfl) fun ab bl => ?_
      have cX := cR.ext bl
      have cY := cS.ext bl
      have cZ := cT.more bl
      have c0 := cQ ab    cZ
      obtain ⟨bS, c1⟩ := c0
      obtain ⟨c2, c3⟩ := c1
      obtain ⟨ay, bT, c4⟩ := c3
      obtain ⟨ah, ai, c5, c6⟩ := c4
      obtain ⟨az, bU, c7⟩ := c6
      obtain ⟨z, aa, c8, c9⟩ := c7
      obtain ⟨aA, bV, da⟩ := c9
      refine startF (D := [[], [], [], [], [3], [], [], [6], [5, 6, 7], [5, 6, 7, 8], [], [], [10, 11], [10, 11, 12], [0, 1, 5, 6, 7, 8, 9, 10, 11, 12, 13], [0, 1, 5, 6, 7, 8, 9, 10, 11, 12, 13, 14], [0, 1, 2, 3, 4, 5, 6, 7, 8, 9, 10, 11, 12, 13, 14, 15], [0, 1, 2, 3, 4, 5, 6, 7, 8, 9, 10, 11, 12, 13, 14, 15, 16]]) (Fs := [0, 1, 2, 3, 4, 5, 6, 7, 8, 9, 10, 11, 12, 13, 14]) (Ef := [(0, fun v _ => v = Sl.v j), (1, fun v _ => v = .int .i64 d), (2, fun v _ => v = Sl.v j), (3, fun v _ => v = .int .i64 d), (4, fun v _ => v = .int .i64 (d - 1)), (5, fun v _ => v = Sl.v j), (6, fun v _ => v = .int .i64 d), (7, fun v _ => v = .int .i64 (d - 1)), (8, fun v _ => v = .pointer (some (ay.add ((d - 1).toNat * 2)))), (9, fun v _ => v = .agg #[.int .i64 ah, .int .i64 ai]), (10, fun v _ => v = Sl.v j), (11, fun v _ => v = .int .i64 d), (12, fun v _ => v = .pointer (some (az.add (d.toNat * 2)))), (13, fun v _ => v = .agg #[.int .i64 z, .int .i64 aa]), (14, fun v _ => v = .pointer (some (aA.add (d.toNat * 2))))]) (by kernel_rfl) ?_
      refine oneF (c := 15) o rfl (by kernel_rfl) (constF ⟨fun _ _ _ h => h, fun _ _ _ h => h, fun _ _ _ h => h, fun _ _ _ h => h, fun _ _ _ h => h, fun _ _ _ h => h, fun _ _ _ h => h, fun _ _ _ h => h, fun _ _ _ h => h, fun _ _ _ h => h, fun _ _ _ h => h, fun _ _ _ h => h, fun _ _ _ h => h, fun _ _ _ h => h, fun _ _ _ h => h, trivial⟩) ⟨?_, ?_, ?_, ?_, ?_, ?_, ?_, ?_, ?_, ?_, ?_, ?_, ?_, ?_, ?_, trivial⟩ ?_
      ·intro a hT
       have hAp := hT.ag o [(9, Sl.v j)] ⟨rfl, trivial⟩ (by kernel_rfl)
       exact opk_val hAp rfl (r_move (hAp.get rfl)) fun _ _ e => ⟨_, e, rfl, fun _ => Eq.refl _⟩
      ·intro a hT
       have hAp := hT.ag o [(11, .int .i64 d)] ⟨rfl, trivial⟩ (by kernel_rfl)
       exact opk_val hAp rfl (r_move (hAp.get rfl)) fun _ _ e => ⟨_, e, rfl, fun _ => Eq.refl _⟩
      ·intro a hT
       have hAp := hT.ag o [(9, Sl.v j)] ⟨rfl, trivial⟩ (by kernel_rfl)
       exact opk_val hAp rfl (r_move (hAp.get rfl)) fun _ _ e => ⟨_, e, rfl, fun _ => Eq.refl _⟩
      ·intro a hT
       have hAp := hT.ag o [(11, .int .i64 d)] ⟨rfl, trivial⟩ (by kernel_rfl)
       exact opk_val hAp rfl (r_move (hAp.get rfl)) fun _ _ e => ⟨_, e, rfl, fun _ => Eq.refl _⟩
      ·intro a hT
       have hAp := hT.ag o [] trivial (by kernel_rfl)
       have hAp := hAp.add (t := 59) (v := .int .i64 d) (hT.vals 3 rfl 59 rfl)
       exact opk_val hAp rfl (r_subI (hAp.get rfl) rfl bS) fun _ _ e => ⟨_, e, rfl, fun _ => Eq.refl _⟩
      ·intro a hT
       have hAp := hT.ag o [(9, Sl.v j)] ⟨rfl, trivial⟩ (by kernel_rfl)
       exact opk_val hAp rfl (r_move (hAp.get rfl)) fun _ _ e => ⟨_, e, rfl, fun _ => Eq.refl _⟩
      ·intro a hT
       have hAp := hT.ag o [(11, .int .i64 d)] ⟨rfl, trivial⟩ (by kernel_rfl)
       exact opk_val hAp rfl (r_move (hAp.get rfl)) fun _ _ e => ⟨_, e, rfl, fun _ => Eq.refl _⟩
      ·intro a hT
       have hAp := hT.ag o [] trivial (by kernel_rfl)
       have hAp := hAp.add (t := 62) (v := .int .i64 d) (hT.vals 6 rfl 62 rfl)
       exact opk_val hAp rfl (r_subI (hAp.get rfl) rfl c2) fun _ _ e => ⟨_, e, rfl, fun _ => Eq.refl _⟩
      ·intro a hT
       have hAp := hT.ag o [] trivial (by kernel_rfl)
       have hAp := hAp.add (t := 61) (v := Sl.v j) (hT.vals 5 rfl 61 rfl)
       have hAp := hAp.add (t := 63) (v := .int .i64 (d - 1)) (hT.vals 7 rfl 63 rfl)
       exact opk_val hAp rfl (r_indexAddr (hAp.get rfl) (hAp.get rfl) tU29 ti_40 bT.1 bT.2) fun _ _ e => ⟨_, e, rfl, fun _ => Eq.refl _⟩
      ·intro a hT
       have hAp := hT.ag o [] trivial (by kernel_rfl)
       have hAp := hAp.add (t := 64) (v := .pointer (some (ay.add ((d - 1).toNat * 2)))) (hT.vals 8 rfl 64 rfl)
       exact opk_val hAp rfl (r_loadN Try.underlying40 rfl ti_40 (hAp.get rfl) (c5.ext hT.chg)) fun _ _ e => ⟨_, e, rfl, fun _ => Eq.refl _⟩
      ·intro a hT
       have hAp := hT.ag o [(9, Sl.v j)] ⟨rfl, trivial⟩ (by kernel_rfl)
       exact opk_val hAp rfl (r_move (hAp.get rfl)) fun _ _ e => ⟨_, e, rfl, fun _ => Eq.refl _⟩
      ·intro a hT
       have hAp := hT.ag o [(11, .int .i64 d)] ⟨rfl, trivial⟩ (by kernel_rfl)
       exact opk_val hAp rfl (r_move (hAp.get rfl)) fun _ _ e => ⟨_, e, rfl, fun _ => Eq.refl _⟩
      ·intro a hT
       have hAp := hT.ag o [] trivial (by kernel_rfl)
       have hAp := hAp.add (t := 66) (v := Sl.v j) (hT.vals 10 rfl 66 rfl)
       have hAp := hAp.add (t := 67) (v := .int .i64 d) (hT.vals 11 rfl 67 rfl)
       exact opk_val hAp rfl (r_indexAddr (hAp.get rfl) (hAp.get rfl) tU29 ti_40 bU.1 bU.2) fun _ _ e => ⟨_, e, rfl, fun _ => Eq.refl _⟩
      ·intro a hT
       have hAp := hT.ag o [] trivial (by kernel_rfl)
       have hAp := hAp.add (t := 68) (v := .pointer (some (az.add (d.toNat * 2)))) (hT.vals 12 rfl 68 rfl)
       exact opk_val hAp rfl (r_loadN Try.underlying40 rfl ti_40 (hAp.get rfl) (c8.ext hT.chg)) fun _ _ e => ⟨_, e, rfl, fun _ => Eq.refl _⟩
      ·intro a hT
       have hAp := hT.ag o [] trivial (by kernel_rfl)
       have hAp := hAp.add (t := 56) (v := Sl.v j) (hT.vals 0 rfl 56 rfl)
       have hAp := hAp.add (t := 57) (v := .int .i64 d) (hT.vals 1 rfl 57 rfl)
       exact opk_val hAp rfl (r_indexAddr (hAp.get rfl) (hAp.get rfl) tU29 ti_40 bV.1 bV.2) fun _ _ e => ⟨_, e, rfl, fun _ => Eq.refl _⟩
      ·intro bX hT
       have db := hT.ag o [(6, .pointer k), (7, pB f 0), (8, pB g 0), (9, Sl.v j), (10, .int .i64 p), (11, .int .i64 d), (53, .bool ((decide (0 < d)) && (decide (av < ax))))] ⟨rfl, rfl, rfl, rfl, rfl, rfl, rfl, trivial⟩ (by kernel_rfl)
       have dc : bX.tmps.getD 65 undef = .agg #[.int .i64 ah, .int .i64 ai] := hT.vals 9 rfl 65 rfl
       have dd := db.add dc
       have df : bX.tmps.getD 70 undef = .pointer (some (aA.add (d.toNat * 2))) := hT.vals 14 rfl 70 rfl
       have bo := dd.add df
       obtain ⟨aj, aR, a7, aS, dg, bY, dh, bZ, di⟩ := da
       refine opk_storeF bo bY (r_store (vs := [.int .i64 ah, .int .i64 ai]) (((bo.get rfl)).trans (congrArg (fun a => Value.pointer (some a)) dg)) (bo.get rfl) rfl ti_40 bY (Nat.ble_eq_true_of_le dh) (ones_all _ rfl)) fun ak bp dj dk => ⟨undef, Eq.refl _, ?_⟩
       have dl := cX.keep bp (by have := bZ f (by simp); simpa using this)
       have dm := cY.keep bp (by have := bZ g (by simp); simpa using this)
       have dn := di ak bp dj
       refine PRF_drop (X := [0, 1, 5, 6, 7, 8, 9, 10, 11, 12, 13, 14]) (Fs' := [2, 3, 4]) dk (by kernel_rfl) fun dp dq dr => ?_
       have ds := dq [(6, .pointer k), (7, pB f 0), (8, pB g 0), (9, Sl.v j), (10, .int .i64 p), (11, .int .i64 d)] ⟨rfl, rfl, rfl, rfl, rfl, rfl, trivial⟩ (by kernel_rfl)
       have dt : dp.tmps.getD 69 undef = .agg #[.int .i64 z, .int .i64 aa] := dr 13 rfl 69 rfl
       have a1 := ds.add dt
       refine joinF a1 (by kernel_rfl) ⟨fun _ _ _ _ h => h, fun _ _ _ _ h => h, fun _ _ _ _ h => h, trivial⟩ ⟨?_, ?_, ?_, trivial⟩ ?_
       ·intro a w hT
        have hAp := hT.ag a1 [(9, Sl.v j)] ⟨rfl, trivial⟩ (by kernel_rfl)
        exact ovr hAp rfl (r_move (hAp.get rfl)) fun _ => Eq.refl _
       ·intro a w hT
        have hAp := hT.ag a1 [(11, .int .i64 d)] ⟨rfl, trivial⟩ (by kernel_rfl)
        exact ovr hAp rfl (r_move (hAp.get rfl)) fun _ => Eq.refl _
       ·intro a w hT
        have hAp := hT.ag a1 [] trivial (by kernel_rfl)
        have hAp := hAp.add (t := 59) (v := .int .i64 d) (hT.vals 3 rfl 59 rfl)
        exact ovr hAp rfl (r_subI (hAp.get rfl) rfl bS) fun _ => Eq.refl _
       ·intro b0 al bq du b1
        have dv := du [(6, .pointer k), (7, pB f 0), (8, pB g 0), (9, Sl.v j), (10, .int .i64 p), (11, .int .i64 d), (69, .agg #[.int .i64 z, .int .i64 aa])] ⟨rfl, rfl, rfl, rfl, rfl, rfl, rfl, trivial⟩ (by kernel_rfl)
        have dx : b0.tmps.getD 58 undef = Sl.v j := b1 2 rfl 58 rfl
        have dy := dv.add dx
        have dz : b0.tmps.getD 60 undef = .int .i64 (d - 1) := b1 4 rfl 60 rfl
        have b2 := dy.add dz
        have dA := dl.ext bq
        have dB := dm.ext bq
        have dC : Chg [] ak al := bq
        have dD := dn al    dC
        obtain ⟨aB, b3, dG⟩ := dD
        refine par (D := [[], [], [], [], [3], [], [], [6], [5, 6, 7], [5, 6, 7, 8], [], [], [10, 11], [10, 11, 12], [0, 1, 5, 6, 7, 8, 9, 10, 11, 12, 13], [0, 1, 5, 6, 7, 8, 9, 10, 11, 12, 13, 14], [0, 1, 2, 3, 4, 5, 6, 7, 8, 9, 10, 11, 12, 13, 14, 15], [0, 1, 2, 3, 4, 5, 6, 7, 8, 9, 10, 11, 12, 13, 14, 15, 16]]) (S := [16]) (F := []) (V := VL [(16, fun v _ => v = .pointer (some (aB.add ((d - 1).toNat * 2))))]) b2 (by kernel_rfl) ⟨fun _ _ _ _ h => h, trivial⟩ ⟨?_, trivial⟩ ?_
        ·intro a w hT
         have hAp := hT.ag b2 [(58, Sl.v j), (60, .int .i64 (d - 1))] ⟨rfl, rfl, trivial⟩ (by kernel_rfl)
         exact ovr hAp rfl (r_indexAddr (hAp.get rfl) (hAp.get rfl) tU29 ti_40 b3.1 b3.2) fun _ => Eq.refl _
        ·intro dH am bt dI dJ
         have dK := dI [(6, .pointer k), (7, pB f 0), (8, pB g 0), (9, Sl.v j), (10, .int .i64 p), (11, .int .i64 d), (69, .agg #[.int .i64 z, .int .i64 aa])] ⟨rfl, rfl, rfl, rfl, rfl, rfl, rfl, trivial⟩ (by kernel_rfl)
         have dL : dH.tmps.getD 71 undef = .pointer (some (aB.add ((d - 1).toNat * 2))) := dJ 16 rfl 71 rfl
         have bu := dK.add dL
         have dM := dA.ext bt
         have dN := dB.ext bt
         have dO : Chg [] al am := bt
         have dP := dG am    dO
         obtain ⟨an, aU, a8, aV, dQ, b4, dR, b5, dS⟩ := dP
         refine one (D := [[], [], [], [], [3], [], [], [6], [5, 6, 7], [5, 6, 7, 8], [], [], [10, 11], [10, 11, 12], [0, 1, 5, 6, 7, 8, 9, 10, 11, 12, 13], [0, 1, 5, 6, 7, 8, 9, 10, 11, 12, 13, 14], [0, 1, 2, 3, 4, 5, 6, 7, 8, 9, 10, 11, 12, 13, 14, 15], [0, 1, 2, 3, 4, 5, 6, 7, 8, 9, 10, 11, 12, 13, 14, 15, 16]]) (i := 17) rfl (by kernel_rfl) (opk_store bu b4 (r_store (vs := [.int .i64 z, .int .i64 aa]) (((bu.get rfl)).trans (congrArg (fun a => Value.pointer (some a)) dQ)) (bu.get rfl) rfl ti_40 b4 (Nat.ble_eq_true_of_le dR) (ones_all _ rfl)) fun fg ao bv dU dV => ?_)
         have dX := dM.keep bv (by have := b5 f (by simp); simpa using this)
         have dY := dN.keep bv (by have := b5 g (by simp); simpa using this)
         have dZ := dS ao bv dU
         refine PR_end (by kernel_rfl) ?_
         have d0 := dV.kp [(6, .pointer k), (7, pB f 0), (8, pB g 0), (9, Sl.v j), (10, .int .i64 p), (11, .int .i64 d)] rfl
         refine gK (bs := [(g, 129, [.int .i64 0, .int .i64 (l.n : Int)]), (f, 129, [.int .i64 0, .int .i64 (m.n : Int)])]) (N := []) d0 (Chg.refl [] _) ⟨dY, dX, trivial⟩ (by simp [(Ne.symm cU)]) trivial (by simp) dZ ?_
         refine bn <| tn <| gR <| gM ?_
         refine g2s r_subI ?_
         refine gN <| ge ?_
         exact k1 [1, 0]
     ·refine gx <| te <| te <| bh <| bn <| tn <| gR <| gM ?_
      refine g2s r_addI ?_
      refine gN <| ge <| gT0 ?_
      exact k1 [0, 1]
    ·refine gx <| te <| te <| bh <| tn <| gS <| gR <| gM ?_
     refine gBN 0 2 Try.underlying129 ti_129 ?_
     refine gBN 1 2 Try.underlying129 ti_129 ?_
     refine gC [0, 1] Try.func77 fun _ bC => gE fun a9 => gQ ?_
     refine gM ?_
     refine gN ?_
     refine gN <| ge <| tn <| gr ?_
     exact gz2
def ref20_New.vc (y : Int) (z : Str) (aa : Str) (ab : Sl) (ad : Sl) (af : Int) (ag : Str) (ah : Str) (ai : Sl) (aj : Sl) (R : Value → World → Prop) (w : World) : Prop :=
∀ (a : World) (ap : Nat) (aq : Nat), New w ap a → New w aq a → ap ≠ aq → Chg [] w a →
∃ l : Sl → World → Prop, (∀ b : Sl, ∀ w' w'' : World, Ext w' w'' → l b w' → l b w'') ∧
(∀ w' : World, Ext a w' → Calls Try.prog 11 #[.agg #[.int .i64 y, .string (Bs z), .string (Bs aa), Sl.v ab, Sl.v ad]] w' (Ret fun v w'' => Ext w' w'' ∧ ∃ b : Sl, v = Sl.v b ∧ l b w'')) ∧
∃ m : Sl → World → Prop, (∀ c : Sl, ∀ w' w'' : World, Ext w' w'' → m c w' → m c w'') ∧
(∀ w' : World, Ext a w' → Calls Try.prog 11 #[.agg #[.int .i64 af, .string (Bs ag), .string (Bs ah), Sl.v ai, Sl.v aj]] w' (Ret fun v w'' => Ext w' w'' ∧ ∃ c : Sl, v = Sl.v c ∧ m c w'')) ∧
∃ n : Sl → World → Prop, (∀ d : Sl, ∀ w' w'' : World, Ext w' w'' → n d w' → n d w'') ∧
(∀ w' : World, Ext a w' → Calls Try.prog 30 #[.agg #[.int .i64 y, .string (Bs z), .string (Bs aa), Sl.v ab, Sl.v ad]] w' (Ret fun v w'' => Ext w' w'' ∧ ∃ d : Sl, v = Sl.v d ∧ n d w'')) ∧
∃ o : Sl → World → Prop, (∀ f : Sl, ∀ w' w'' : World, Ext w' w'' → o f w' → o f w'') ∧
(∀ w' : World, Ext a w' → Calls Try.prog 30 #[.agg #[.int .i64 af, .string (Bs ag), .string (Bs ah), Sl.v ai, Sl.v aj]] w' (Ret fun v w'' => Ext w' w'' ∧ ∃ f : Sl, v = Sl.v f ∧ o f w'')) ∧
∀ (k : World) (p : Sl) (q : Sl) (r : Sl) (t : Sl) (j : Nat), Ext a k → l p k → m q k → n r k → o t k → a.heap.size ≤ j → Box k j 127 [Sl.v p, Sl.v q, Sl.v r, Sl.v t, Sl.v Sl.nil, Sl.v Sl.nil, Sl.v Sl.nil, Sl.v Sl.nil] → 
∀ (ak : World), Chg [] k ak →
∃ u : Sl → World → Prop, (∀ g : Sl, ∀ w' w'' : World, Ext w' w'' → u g w' → u g w'') ∧
(∀ w' : World, Ext ak w' → Calls Try.prog 86 #[Sl.v p, Sl.v r] w' (Ret fun v w'' => Ext w' w'' ∧ ∃ g : Sl, v = Sl.v g ∧ u g w'')) ∧
∀ (al : World) (g : Sl), Ext ak al → u g al → 
∀ (am : World), Chg [j] al am →
∃ x : Sl → World → Prop, (∀ i : Sl, ∀ w' w'' : World, Ext w' w'' → x i w' → x i w'') ∧
(∀ w' : World, Ext am w' → Calls Try.prog 86 #[Sl.v q, Sl.v t] w' (Ret fun v w'' => Ext w' w'' ∧ ∃ i : Sl, v = Sl.v i ∧ x i w'')) ∧
∀ (an : World) (i : Sl), Ext am an → x i an → 
∀ (ao : World), Chg [j] an ao →
∀ (_ : Box ao j 127 [Sl.v p, Sl.v q, Sl.v r, Sl.v t, Sl.v g, Sl.v i, Sl.v Sl.nil, Sl.v Sl.nil]),
R (.pointer (some (⟨j, 0, none⟩ : Addr))) ao
theorem ref20_New.ok (y : Int) (z : Str) (aa : Str) (ab : Sl) (ad : Sl) (af : Int) (ag : Str) (ah : Str) (ai : Sl) (aj : Sl) {R : Value → World → Prop} {w : World} (ay : ref20_New.vc y z aa ab ad af ag ah ai aj R w) : Calls Try.prog 75 #[.agg #[.int .i64 y, .string (Bs z), .string (Bs aa), Sl.v ab, Sl.v ad], .agg #[.int .i64 af, .string (Bs ag), .string (Bs ah), Sl.v ai, Sl.v aj]] w (Ret R) := by
 refine go _ Try.func75 Try.ntmps75 ay ?_
 refine gS <| gR <| nb fun w4 ap => ?_
 refine nb fun w6 aq => ?_
 refine gN <| ge <| tn <| gS ?_
 refine gD fun a => gT2 <| gE fun l => gA fun ar => gA fun az => gE fun m => gA fun au => gA fun aA => gE fun n => gA fun av => gA fun aB => gE fun o => gA fun ax => gA fun aC => ?_
 refine gW 0 11 [(1, ⟨Sl, default, fun s => Sl.v s, fun s w => l s w, ar⟩), (3, ⟨Sl, default, fun s => Sl.v s, fun s w => m s w, au⟩), (5, ⟨Sl, default, fun s => Sl.v s, fun s w => n s w, av⟩), (7, ⟨Sl, default, fun s => Sl.v s, fun s w => o s w, ax⟩), (9, ⟨Sl × Sl × Sl × Sl × Nat, default, fun s => (fun B => .pointer (some ⟨B, 0, none⟩)) s.2.2.2.2, fun s w' => l s.1 w' ∧ m s.2.1 w' ∧ n s.2.2.1 w' ∧ o s.2.2.2.1 w' ∧ a.heap.size ≤ s.2.2.2.2 ∧ Box w' s.2.2.2.2 127 [Sl.v s.1, Sl.v s.2.1, Sl.v s.2.2.1, Sl.v s.2.2.2.1, Sl.v Sl.nil, Sl.v Sl.nil, Sl.v Sl.nil, Sl.v Sl.nil], fun s w' w'' hE h => ⟨(ar s.1 w' w'' hE h.1), (au s.2.1 w' w'' hE h.2.1), (av s.2.2.1 w' w'' hE h.2.2.1), (ax s.2.2.2.1 w' w'' hE h.2.2.2.1), h.2.2.2.2.1, h.2.2.2.2.2.ext hE⟩⟩)] ?_
 refine gBN 1 5 Try.underlying26 ti_26 ?_
 refine yc rfl Try.func11 (fun w' hE _ => az w' hE) (fun _ _ h => h) fun b => ?_
 refine gBN 0 5 Try.underlying26 ti_26 ?_
 refine yc rfl Try.func11 (fun w' hE _ => aA w' hE) (fun _ _ h => h) fun c => ?_
 refine gBN 1 5 Try.underlying26 ti_26 ?_
 refine yc rfl Try.func30 (fun w' hE _ => aB w' hE) (fun _ _ h => h) fun d => ?_
 refine gBN 0 5 Try.underlying26 ti_26 ?_
 refine yc rfl Try.func30 (fun w' hE _ => aC w' hE) (fun _ _ h => h) fun f => ?_
 refine gbK #[Sl.v b, Sl.v c, Sl.v d, Sl.v f, Sl.v Sl.nil, Sl.v Sl.nil, Sl.v Sl.nil, Sl.v Sl.nil] ti_127 Try.underlying127 pl_127 ?_
 refine yn (fun B => .pointer (some ⟨B, 0, none⟩)) (cs := [Sl.v b, Sl.v c, Sl.v d, Sl.v f, Sl.v Sl.nil, Sl.v Sl.nil, Sl.v Sl.nil, Sl.v Sl.nil]) rfl (fun _ hA _ => r_box (hA.opv rfl) rfl) (fun _ _ B _ hF hA' h1 h2 => ⟨(b, c, d, f, B), rfl, (ar b _ _ hA' (hF.2.2.2.1 (by kernel_rfl))), (au c _ _ hA' (hF.2.2.1 (by kernel_rfl))), (av d _ _ hA' (hF.2.1 (by kernel_rfl))), (ax f _ _ hA' (hF.1 (by kernel_rfl))), h1, h2⟩) fun ⟨p, q, r, t, j⟩ => ?_
 refine gN ?_
 refine eB (B := j) (T := 127) (cs := [Sl.v p, Sl.v q, Sl.v r, Sl.v t, Sl.v Sl.nil, Sl.v Sl.nil, Sl.v Sl.nil, Sl.v Sl.nil]) (fun _ hF => ⟨hF.1.2.2.2.2.1, hF.1.2.2.2.2.2⟩) (fun v w' hE hF => v w' p q r t j hE hF.1.1 hF.1.2.1 hF.1.2.2.1 hF.1.2.2.2.1 hF.1.2.2.2.2.1 hF.1.2.2.2.2.2) fun k => ?_
 refine gZ <| tn <| gS ?_
 refine gD fun ak => gT0 <| gE fun u => gA fun aH => gA fun aI => ?_
 refine gW 0 12 [(9, ⟨Sl, default, fun s => Sl.v s, fun s w => u s w, aH⟩)] ?_
 refine gM ?_
 refine gM ?_
 refine g1 r_nilCheck ?_
 refine gF 0 Try.underlying127 ti_31 ?_
 refine gB 0 tU31 ?_
 refine gM ?_
 refine g1 r_nilCheck ?_
 refine gF 2 Try.underlying127 ti_22 ?_
 refine gB 0 tU22 ?_
 refine yc rfl Try.func86 (fun w' hE _ => aI w' hE) (fun _ _ h => h) fun g => ?_
 refine g1 r_nilCheck ?_
 refine gF 4 Try.underlying127 ti_22 ?_
 refine eF (fun v w' hE hF => v w' g hE hF.1) fun al => ?_
 refine gO 12 ?_
 refine wo 0 ti_22 fun aN => geO ?_
 refine gZ <| tn <| gS ?_
 refine gD fun am => gT0 <| gE fun x => gA fun aJ => gA fun aK => ?_
 refine gW 0 12 [(9, ⟨Sl, default, fun s => Sl.v s, fun s w => x s w, aJ⟩)] ?_
 refine gM ?_
 refine gM ?_
 refine g1 r_nilCheck ?_
 refine gF 1 Try.underlying127 ti_31 ?_
 refine gB 0 tU31 ?_
 refine gM ?_
 refine g1 r_nilCheck ?_
 refine gF 3 Try.underlying127 ti_22 ?_
 refine gB 0 tU22 ?_
 refine yc rfl Try.func86 (fun w' hE _ => aK w' hE) (fun _ _ h => h) fun i => ?_
 refine g1 r_nilCheck ?_
 refine gF 5 Try.underlying127 ti_22 ?_
 refine eF (fun v w' hE hF => v w' i hE hF.1) fun an => ?_
 refine gO 12 ?_
 refine wo 0 ti_22 fun ao => geO ?_
 refine gZ <| tn <| gS <| gR ?_
 refine gM ?_
 refine gN <| ge <| tn <| gr <| gT0 ?_
 refine gX 0 ?_
 exact gz1
def ref20_Z_Mapping.vc (b : Addr) (y : Sl) (s : Int) (p : Int) (u : Int) (q : Int) (R : Value → World → Prop) (w : World) : Prop :=
(((s = p) ∨ (u = q)) →
∀ (w8 : World) (k : Nat) (l : Nat), New w k w8 → New w l w8 → k ≠ l → Chg [] w w8 →
R (Sl.v y) w8) ∧
(((¬ (s = p)) ∧ (¬ (u = q))) →
∀ (w8 : World) (k : Nat) (l : Nat), New w k w8 → New w l w8 → k ≠ l → Chg [] w w8 →
CallK Try.prog 77 #[.pointer (some b), .agg #[.int .i64 s, .int .i64 p], .agg #[.int .i64 u, .int .i64 q]] w8 [k, l] (fun v bu => ∃ (o : Int), v = .int .i64 o ∧
CallK Try.prog 87 #[.pointer (some b), .agg #[.int .i64 s, .int .i64 p], .agg #[.int .i64 u, .int .i64 q]] bu [k, l] (fun v aG => ∃ (ah : Int) (ai : Int) (aj : Int) (ak : Int) (aa : Int) (ab : Int) (ad : Int) (af : Int), v = .tuple #[.agg #[.int .i64 ah, .int .i64 ai], .agg #[.int .i64 aj, .int .i64 ak], .agg #[.int .i64 aa, .int .i64 ab], .agg #[.int .i64 ad, .int .i64 af]] ∧
∀ (ax : World) (g : Nat) (j : Nat) (d : Nat) (f : Nat), New aG g ax → New aG j ax → New aG d ax → New aG f ax → g ≠ j → g ≠ d → g ≠ f → j ≠ d → j ≠ f → d ≠ f → Chg [] aG ax →
CallK Try.prog 77 #[.pointer (some b), .agg #[.int .i64 ah, .int .i64 ai], .agg #[.int .i64 aj, .int .i64 ak]] ax [k, l, g, j, d, f] (fun v bv => ∃ (r : Int), v = .int .i64 r ∧
CallK Try.prog 77 #[.pointer (some b), .agg #[.int .i64 aa, .int .i64 ab], .agg #[.int .i64 ad, .int .i64 af]] bv [k, l, g, j, d, f] (fun v aL => ∃ (x : Int), v = .int .i64 x ∧
(I64 (r + x)) ∧
∃ (z : Int), (∀ w' : World, Ext aL w' → Calls Try.prog 88 #[.pointer (some b), .agg #[.int .i64 s, .int .i64 p], .agg #[.int .i64 u, .int .i64 q]] w' (Ret fun v w'' => Ext w' w'' ∧ v = .int .i64 z)) ∧
(I64 ((r + x) + z)) ∧
((((r + x) + z) = o) →
∀ (aH : World), Chg [] aL aH →
CallK Try.prog 88 #[.pointer (some b), .agg #[.int .i64 s, .int .i64 p], .agg #[.int .i64 u, .int .i64 q]] aH [k, l, g, j, d, f] (fun v a8 => ∃ (aX : Int), v = .int .i64 aX ∧
∃ a9 : Sl → World → Prop,
(((aX < 3) →
∀ (ar : World), Chg [] a8 ar →
∃ (aY : Sl), (ar.cell? (b.add 2) = some (Sl.v aY)) ∧
(I64 (p - 1)) ∧
∃ ba : Addr, (((0 : Int) ≤ p - 1 ∧ p - 1 < (aY.n : Int)) ∧ aY.a = some ba) ∧
∃ (ay : Int), (ar.cell? (ba.add ((p - 1).toNat * 1)) = some (.int .i64 ay)) ∧
∃ (aZ : Sl), (ar.cell? (b.add 3) = some (Sl.v aZ)) ∧
(I64 (q - 1)) ∧
∃ bb : Addr, (((0 : Int) ≤ q - 1 ∧ q - 1 < (aZ.n : Int)) ∧ aZ.a = some bb) ∧
∃ (az : Int), (ar.cell? (bb.add ((q - 1).toNat * 1)) = some (.int .i64 az)) ∧
∀ (aM : World) (aA : Nat), Ext ar aM → ar.heap.size ≤ aA → Box aM aA 40 [.int .i64 ay, .int .i64 az] → 
∀ (_ : Box aM aA 40 [.int .i64 ay, .int .i64 az]),
RunK Try.prog (Builtin.append_ #[29, 29] 29 #[Sl.v y, Sl.v (Sl.mk (some ⟨aA, 0, none⟩) 1 1)]) aM [k, l, g, j, d, f] (fun v bz => ∃ (bd : Sl), v = Sl.v bd ∧
∀ (bf : World), Chg [] bz bf →
a9 bd bf)) ∧
((¬ (aX < 3)) →
a9 y a8)) ∧
(∀ (ap : Sl) (a0 : World), a9 ap a0 →
∀ (aN : World), Chg [] a0 aN →
CallK Try.prog 76 #[.pointer (some b), Sl.v ap, .agg #[.int .i64 ah, .int .i64 ai], .agg #[.int .i64 aj, .int .i64 ak]] aN [g, j, d, f] (fun v bg => ∃ (aI : Sl), v = Sl.v aI ∧
∀ (aO : World), Chg [] bg aO →
CallK Try.prog 76 #[.pointer (some b), Sl.v aI, .agg #[.int .i64 aa, .int .i64 ab], .agg #[.int .i64 ad, .int .i64 af]] aO [g, j, d, f] (fun v bi => ∃ (aB : Sl), v = Sl.v aB ∧
∀ (a1 : World), Chg [] bi a1 →
R (Sl.v aB) a1))))) ∧
((¬ (((r + x) + z) = o)) →
(I64 (p - 1)) ∧
∀ (aH : World), Chg [] aL aH →
CallK Try.prog 77 #[.pointer (some b), .agg #[.int .i64 s, .int .i64 (p - 1)], .agg #[.int .i64 u, .int .i64 q]] aH [k, l, g, j, d, f] (fun v bj => ∃ (aP : Int), v = .int .i64 aP ∧
(I64 (aP + 1)) ∧
(((aP + 1) = o) →
(I64 (p - 1)) ∧
CallK Try.prog 76 #[.pointer (some b), Sl.v y, .agg #[.int .i64 s, .int .i64 (p - 1)], .agg #[.int .i64 u, .int .i64 q]] bj [k, l] (fun v bA => ∃ (bk : Sl), v = Sl.v bk ∧
R (Sl.v bk) bA)) ∧
((¬ ((aP + 1) = o)) →
(I64 (q - 1)) ∧
CallK Try.prog 76 #[.pointer (some b), Sl.v y, .agg #[.int .i64 s, .int .i64 p], .agg #[.int .i64 u, .int .i64 (q - 1)]] bj [k, l] (fun v bB => ∃ (bl : Sl), v = Sl.v bl ∧
R (Sl.v bl) bB)))))))))
theorem ref20_Z_Mapping.ok (b : Addr) (y : Sl) (s : Int) (p : Int) (u : Int) (q : Int) {R : Value → World → Prop} {w : World} (b3 : ref20_Z_Mapping.vc b y s p u q R w) : Calls Try.prog 76 #[.pointer (some b), Sl.v y, .agg #[.int .i64 s, .int .i64 p], .agg #[.int .i64 u, .int .i64 q]] w (Ret R) := by
 refine go _ Try.func76 Try.ntmps76 b3 ?_
 refine gS <| gR <| nb fun w6 k => ?_
 refine nb fun w8 l => ?_
 refine gN <| ge <| tn <| gS <| gS <| gR ?_
 refine gF 0 Try.underlying129 ti_3 ?_
 refine gB 1 tU3 ?_
 refine gF 1 Try.underlying129 ti_3 ?_
 refine gB 1 tU3 ?_
 refine g2 r_eql ?_
 refine gM ?_
 refine GF 0 Try.underlying129 ti_3 ?_
 refine GB 0 tU3 ?_
 refine GF 1 Try.underlying129 ti_3 ?_
 refine GB 0 tU3 ?_
 refine G2 r_eql ?_
 refine gpo <| ge <| tn ?_
 refine gi (fun h => ((oT h).imp (fun h => (dT h)) (fun h => (dT h)))) (fun h => ⟨(dF (oF h).1), (dF (oF h).2)⟩) ?_ ?_
 ·refine gS <| gR <| gM ?_
  refine gN <| ge <| tn <| gr <| tr <| gT2 ?_
  exact gz1
 ·refine gk <| tn <| gS <| gR <| gM ?_
  refine gBN 1 2 Try.underlying129 ti_129 ?_
  refine gBN 0 2 Try.underlying129 ti_129 <| gT2 ?_
  refine gC [1, 0] Try.func77 fun _ bu => gE fun o => gQ ?_
  refine gN <| ge <| tn <| gS <| gR ?_
  refine gM ?_
  refine gBN 1 2 Try.underlying129 ti_129 ?_
  refine gBN 0 2 Try.underlying129 ti_129 ?_
  refine gC [1, 0] Try.func87 fun _ aG => gE fun ah => gE fun ai => gE fun aj => gE fun ak => gE fun aa => gE fun ab => gE fun ad => gE fun af => gQ ?_
  refine gM ?_
  refine gx1 ?_
  refine gx1 ?_
  refine gx1 ?_
  refine gx1 ?_
  refine na ti_129 fun fH g => ?_
  refine na ti_129 fun fI j => ?_
  refine na ti_129 fun fJ d => ?_
  refine na ti_129 fun fK f => ?_
  refine wn 3 3 ti_129 fun fL => ?_
  refine wn 2 2 ti_129 fun fM => ?_
  refine wn 1 1 ti_129 fun fN => ?_
  refine wn 0 0 ti_129 fun fO => ge <| tn <| gS <| gb <| gS ?_
  intro fP m b4
  have al := m.ag
  have b5 := m.bx 5 rfl
  have b6 := m.bx 4 rfl
  have b7 := m.bx 3 rfl
  have b8 := m.bx 2 rfl
  have b9 := m.bx 1 rfl
  have ca := m.bx 0 rfl
  have cb := m.chg
  have cc := m.new g (by simp)
  have cd := m.new j (by simp)
  have cf := m.new d (by simp)
  have cg := m.new f (by simp)
  have ch : k ≠ l := m.ne 5 4
  have ci : k ≠ g := m.ne 5 3
  have cj : l ≠ g := m.ne 4 3
  have ck : k ≠ j := m.ne 5 2
  have cl : l ≠ j := m.ne 4 2
  have bC : g ≠ j := m.ne 3 2
  have cm : k ≠ d := m.ne 5 1
  have cn : l ≠ d := m.ne 4 1
  have bD : g ≠ d := m.ne 3 1
  have bF : j ≠ d := m.ne 2 1
  have co : k ≠ f := m.ne 5 0
  have cp : l ≠ f := m.ne 4 0
  have bG : g ≠ f := m.ne 3 0
  have bH : j ≠ f := m.ne 2 0
  have bI : d ≠ f := m.ne 1 0
  refine draw' (by kernel_rfl) fun ax am => ?_
  have bJ := b5.ext am
  have bK := b6.ext am
  have bL := b7.ext am
  have bM := b8.ext am
  have bN := b9.ext am
  have bO := ca.ext am
  have cq := cb.more am
  have cr := cc.up am.size
  have ct := cd.up am.size
  have cu := cf.up am.size
  have cv := cg.up am.size
  have cx := b4 ax g j d f cr ct cu cv bC bD bG bF bH bI cq
  refine startF (D := [[], [], [], [0, 1, 2], [], [], [], [0, 1, 2, 3, 4, 5, 6], [0, 1, 2, 3, 4, 5, 6, 7], [], [], [], [0, 1, 2, 3, 4, 5, 6, 7, 9, 10, 11], [0, 1, 2, 3, 4, 5, 6, 7, 8, 9, 10, 11, 12], [], [0, 1, 2, 3, 4, 5, 6, 7, 8, 9, 10, 11, 12, 13, 14], [0, 1, 2, 3, 4, 5, 6, 7, 8, 9, 10, 11, 12, 13, 14, 15]]) (Fs := [0, 1, 2, 4, 5, 6, 9, 10, 11, 14]) (Ef := [(0, fun v _ => v = .pointer (some b)), (1, fun v _ => v = .agg #[.int .i64 ah, .int .i64 ai]), (2, fun v _ => v = .agg #[.int .i64 aj, .int .i64 ak]), (4, fun v _ => v = .pointer (some b)), (5, fun v _ => v = .agg #[.int .i64 aa, .int .i64 ab]), (6, fun v _ => v = .agg #[.int .i64 ad, .int .i64 af]), (9, fun v _ => v = .pointer (some b)), (10, fun v _ => v = .agg #[.int .i64 s, .int .i64 p]), (11, fun v _ => v = .agg #[.int .i64 u, .int .i64 q]), (14, fun v _ => v = .int .i64 o)]) (by kernel_rfl) ?_
  refine oneF (c := 3) al rfl (by kernel_rfl) (constF ⟨fun _ _ _ h => h, fun _ _ _ h => h, fun _ _ _ h => h, fun _ _ _ h => h, fun _ _ _ h => h, fun _ _ _ h => h, fun _ _ _ h => h, fun _ _ _ h => h, fun _ _ _ h => h, fun _ _ _ h => h, trivial⟩) ⟨?_, ?_, ?_, ?_, ?_, ?_, ?_, ?_, ?_, ?_, trivial⟩ ?_
  ·intro a hT
   have hAp := hT.ag al [(0, .pointer (some b))] ⟨rfl, trivial⟩ (by kernel_rfl)
   exact opk_val hAp rfl (r_move (hAp.get rfl)) fun _ _ e => ⟨_, e, rfl, fun _ => Eq.refl _⟩
  ·intro a hT
   have hAp := hT.ag al [(10, pB g 0)] ⟨rfl, trivial⟩ (by kernel_rfl)
   exact opk_val hAp rfl (r_loadN (cs := [.int .i64 ah, .int .i64 ai]) Try.underlying129 rfl ti_129 (hAp.get rfl) ((bL.ext hT.chg).part 0 _ rfl)) fun _ _ e => ⟨_, e, rfl, fun _ => Eq.refl _⟩
  ·intro a hT
   have hAp := hT.ag al [(11, pB j 0)] ⟨rfl, trivial⟩ (by kernel_rfl)
   exact opk_val hAp rfl (r_loadN (cs := [.int .i64 aj, .int .i64 ak]) Try.underlying129 rfl ti_129 (hAp.get rfl) ((bM.ext hT.chg).part 0 _ rfl)) fun _ _ e => ⟨_, e, rfl, fun _ => Eq.refl _⟩
  ·intro a hT
   have hAp := hT.ag al [(0, .pointer (some b))] ⟨rfl, trivial⟩ (by kernel_rfl)
   exact opk_val hAp rfl (r_move (hAp.get rfl)) fun _ _ e => ⟨_, e, rfl, fun _ => Eq.refl _⟩
  ·intro a hT
   have hAp := hT.ag al [(12, pB d 0)] ⟨rfl, trivial⟩ (by kernel_rfl)
   exact opk_val hAp rfl (r_loadN (cs := [.int .i64 aa, .int .i64 ab]) Try.underlying129 rfl ti_129 (hAp.get rfl) ((bN.ext hT.chg).part 0 _ rfl)) fun _ _ e => ⟨_, e, rfl, fun _ => Eq.refl _⟩
  ·intro a hT
   have hAp := hT.ag al [(13, pB f 0)] ⟨rfl, trivial⟩ (by kernel_rfl)
   exact opk_val hAp rfl (r_loadN (cs := [.int .i64 ad, .int .i64 af]) Try.underlying129 rfl ti_129 (hAp.get rfl) ((bO.ext hT.chg).part 0 _ rfl)) fun _ _ e => ⟨_, e, rfl, fun _ => Eq.refl _⟩
  ·intro a hT
   have hAp := hT.ag al [(0, .pointer (some b))] ⟨rfl, trivial⟩ (by kernel_rfl)
   exact opk_val hAp rfl (r_move (hAp.get rfl)) fun _ _ e => ⟨_, e, rfl, fun _ => Eq.refl _⟩
  ·intro a hT
   have hAp := hT.ag al [(6, pB k 0)] ⟨rfl, trivial⟩ (by kernel_rfl)
   exact opk_val hAp rfl (r_loadN (cs := [.int .i64 s, .int .i64 p]) Try.underlying129 rfl ti_129 (hAp.get rfl) ((bJ.ext hT.chg).part 0 _ rfl)) fun _ _ e => ⟨_, e, rfl, fun _ => Eq.refl _⟩
  ·intro a hT
   have hAp := hT.ag al [(7, pB l 0)] ⟨rfl, trivial⟩ (by kernel_rfl)
   exact opk_val hAp rfl (r_loadN (cs := [.int .i64 u, .int .i64 q]) Try.underlying129 rfl ti_129 (hAp.get rfl) ((bK.ext hT.chg).part 0 _ rfl)) fun _ _ e => ⟨_, e, rfl, fun _ => Eq.refl _⟩
  ·intro a hT
   have hAp := hT.ag al [(9, .int .i64 o)] ⟨rfl, trivial⟩ (by kernel_rfl)
   exact opk_val hAp rfl (r_move (hAp.get rfl)) fun _ _ e => ⟨_, e, rfl, fun _ => Eq.refl _⟩
  ·intro bo hT
   have cy := hT.ag al [(0, .pointer (some b)), (1, Sl.v y), (6, pB k 0), (7, pB l 0), (9, .int .i64 o), (10, pB g 0), (11, pB j 0), (12, pB d 0), (13, pB f 0)] ⟨rfl, rfl, rfl, rfl, rfl, rfl, rfl, rfl, rfl, trivial⟩ (by kernel_rfl)
   have cz : bo.tmps.getD 41 undef = .pointer (some b) := hT.vals 0 rfl 41 rfl
   have cA := cy.add cz
   have cB : bo.tmps.getD 42 undef = .agg #[.int .i64 ah, .int .i64 ai] := hT.vals 1 rfl 42 rfl
   have cC := cA.add cB
   have cD : bo.tmps.getD 43 undef = .agg #[.int .i64 aj, .int .i64 ak] := hT.vals 2 rfl 43 rfl
   have a2 := cC.add cD
   refine (opk_call a2 rfl (r_call (args := #[.pointer (some b), .agg #[.int .i64 ah, .int .i64 ai], .agg #[.int .i64 aj, .int .i64 ak]]) Try.func77 (by decide) rfl (map_arr (ml_cons (a2.get rfl) (ml_cons (a2.get rfl) (ml_cons (a2.get rfl) ml_nil)))) rfl) cx fun fQ fR bv cF cG aJ fS cH => ?_)
   refine ⟨_, cG, ?_⟩
   obtain ⟨r, rfl, cI⟩ := cH
   have bP := bJ.kept aJ (.head _)
   have bQ := bK.kept aJ (.tail _ (.head _))
   have cJ := bL.kept aJ (.tail _ (.tail _ (.head _)))
   have cK := bM.kept aJ (.tail _ (.tail _ (.tail _ (.head _))))
   have bR := bN.kept aJ (.tail _ (.tail _ (.tail _ (.tail _ (.head _)))))
   have bS := bO.kept aJ (.tail _ (.tail _ (.tail _ (.tail _ (.tail _ (.head _))))))
   refine PRF_drop (X := [0, 1, 2]) (Fs' := [4, 5, 6, 9, 10, 11, 14]) cF (by kernel_rfl) fun fT cL fU => ?_
   have au := cL [(0, .pointer (some b)), (1, Sl.v y), (6, pB k 0), (7, pB l 0), (9, .int .i64 o), (10, pB g 0), (11, pB j 0), (12, pB d 0), (13, pB f 0), (44, .int .i64 r)] ⟨rfl, rfl, rfl, rfl, rfl, rfl, rfl, rfl, rfl, rfl, trivial⟩ (by kernel_rfl)
   refine oneF (c := 7) au rfl (by kernel_rfl) (constF ⟨fun _ _ _ h => h, fun _ _ _ h => h, fun _ _ _ h => h, fun _ _ _ h => h, fun _ _ _ h => h, fun _ _ _ h => h, fun _ _ _ h => h, trivial⟩) ⟨?_, ?_, ?_, ?_, ?_, ?_, ?_, trivial⟩ ?_
   ·intro a hT
    have hAp := hT.ag au [(0, .pointer (some b))] ⟨rfl, trivial⟩ (by kernel_rfl)
    exact opk_val hAp rfl (r_move (hAp.get rfl)) fun _ _ e => ⟨_, e, rfl, fun _ => Eq.refl _⟩
   ·intro a hT
    have hAp := hT.ag au [(12, pB d 0)] ⟨rfl, trivial⟩ (by kernel_rfl)
    exact opk_val hAp rfl (r_loadN (cs := [.int .i64 aa, .int .i64 ab]) Try.underlying129 rfl ti_129 (hAp.get rfl) ((bR.ext hT.chg).part 0 _ rfl)) fun _ _ e => ⟨_, e, rfl, fun _ => Eq.refl _⟩
   ·intro a hT
    have hAp := hT.ag au [(13, pB f 0)] ⟨rfl, trivial⟩ (by kernel_rfl)
    exact opk_val hAp rfl (r_loadN (cs := [.int .i64 ad, .int .i64 af]) Try.underlying129 rfl ti_129 (hAp.get rfl) ((bS.ext hT.chg).part 0 _ rfl)) fun _ _ e => ⟨_, e, rfl, fun _ => Eq.refl _⟩
   ·intro a hT
    have hAp := hT.ag au [(0, .pointer (some b))] ⟨rfl, trivial⟩ (by kernel_rfl)
    exact opk_val hAp rfl (r_move (hAp.get rfl)) fun _ _ e => ⟨_, e, rfl, fun _ => Eq.refl _⟩
   ·intro a hT
    have hAp := hT.ag au [(6, pB k 0)] ⟨rfl, trivial⟩ (by kernel_rfl)
    exact opk_val hAp rfl (r_loadN (cs := [.int .i64 s, .int .i64 p]) Try.underlying129 rfl ti_129 (hAp.get rfl) ((bP.ext hT.chg).part 0 _ rfl)) fun _ _ e => ⟨_, e, rfl, fun _ => Eq.refl _⟩
   ·intro a hT
    have hAp := hT.ag au [(7, pB l 0)] ⟨rfl, trivial⟩ (by kernel_rfl)
    exact opk_val hAp rfl (r_loadN (cs := [.int .i64 u, .int .i64 q]) Try.underlying129 rfl ti_129 (hAp.get rfl) ((bQ.ext hT.chg).part 0 _ rfl)) fun _ _ e => ⟨_, e, rfl, fun _ => Eq.refl _⟩
   ·intro a hT
    have hAp := hT.ag au [(9, .int .i64 o)] ⟨rfl, trivial⟩ (by kernel_rfl)
    exact opk_val hAp rfl (r_move (hAp.get rfl)) fun _ _ e => ⟨_, e, rfl, fun _ => Eq.refl _⟩
   ·intro bp hT
    have cM := hT.ag au [(0, .pointer (some b)), (1, Sl.v y), (6, pB k 0), (7, pB l 0), (9, .int .i64 o), (10, pB g 0), (11, pB j 0), (12, pB d 0), (13, pB f 0), (44, .int .i64 r)] ⟨rfl, rfl, rfl, rfl, rfl, rfl, rfl, rfl, rfl, rfl, trivial⟩ (by kernel_rfl)
    have cN : bp.tmps.getD 45 undef = .pointer (some b) := hT.vals 4 rfl 45 rfl
    have cO := cM.add cN
    have cP : bp.tmps.getD 46 undef = .agg #[.int .i64 aa, .int .i64 ab] := hT.vals 5 rfl 46 rfl
    have cQ := cO.add cP
    have cR : bp.tmps.getD 47 undef = .agg #[.int .i64 ad, .int .i64 af] := hT.vals 6 rfl 47 rfl
    have a3 := cQ.add cR
    refine (opk_call a3 rfl (r_call (args := #[.pointer (some b), .agg #[.int .i64 aa, .int .i64 ab], .agg #[.int .i64 ad, .int .i64 af]]) Try.func77 (by decide) rfl (map_arr (ml_cons (a3.get rfl) (ml_cons (a3.get rfl) (ml_cons (a3.get rfl) ml_nil)))) rfl) cI fun fV fX aL cS cT aK fY cU => ?_)
    refine ⟨_, cT, ?_⟩
    obtain ⟨x, rfl, cX⟩ := cU
    have bT := bP.kept aK (.head _)
    have bU := bQ.kept aK (.tail _ (.head _))
    have cY := cJ.kept aK (.tail _ (.tail _ (.head _)))
    have cZ := cK.kept aK (.tail _ (.tail _ (.tail _ (.head _))))
    have c0 := bR.kept aK (.tail _ (.tail _ (.tail _ (.tail _ (.head _)))))
    have c1 := bS.kept aK (.tail _ (.tail _ (.tail _ (.tail _ (.tail _ (.head _))))))
    refine PRF_drop (X := [4, 5, 6]) (Fs' := [9, 10, 11, 14]) cS (by kernel_rfl) fun fZ c2 f0 => ?_
    have aq := c2 [(0, .pointer (some b)), (1, Sl.v y), (6, pB k 0), (7, pB l 0), (9, .int .i64 o), (10, pB g 0), (11, pB j 0), (12, pB d 0), (13, pB f 0), (44, .int .i64 r), (48, .int .i64 x)] ⟨rfl, rfl, rfl, rfl, rfl, rfl, rfl, rfl, rfl, rfl, rfl, trivial⟩ (by kernel_rfl)
    obtain ⟨c3, c4⟩ := cX
    obtain ⟨z, c5, c6⟩ := c4
    obtain ⟨c7, c8⟩ := c6
    refine parF (D := [[], [], [], [0, 1, 2], [], [], [], [0, 1, 2, 3, 4, 5, 6], [0, 1, 2, 3, 4, 5, 6, 7], [], [], [], [0, 1, 2, 3, 4, 5, 6, 7, 9, 10, 11], [0, 1, 2, 3, 4, 5, 6, 7, 8, 9, 10, 11, 12], [], [0, 1, 2, 3, 4, 5, 6, 7, 8, 9, 10, 11, 12, 13, 14], [0, 1, 2, 3, 4, 5, 6, 7, 8, 9, 10, 11, 12, 13, 14, 15]]) (S := [8, 12, 13, 15, 16]) (F := []) (KE := [8, 12, 13, 15, 16]) (E := [(8, fun v _ => v = .int .i64 (r + x)), (12, fun v _ => v = .int .i64 z), (13, fun v _ => v = .int .i64 ((r + x) + z)), (15, fun v _ => v = .bool (decide (((r + x) + z) = o))), (16, fun v _ => v = .bool (decide (((r + x) + z) = o)))]) aq rfl (by kernel_rfl) ⟨fun _ _ _ _ h => h, fun _ _ _ _ h => h, fun _ _ _ _ h => h, fun _ _ _ _ h => h, fun _ _ _ _ h => h, fun _ _ _ _ h => h, fun _ _ _ _ h => h, fun _ _ _ _ h => h, fun _ _ _ _ h => h, trivial⟩ ⟨?_, ?_, ?_, ?_, ?_, ?_, ?_, ?_, ?_, trivial⟩ ?_
    ·intro a w hT
     have hAp := hT.ag aq [(44, .int .i64 r), (48, .int .i64 x)] ⟨rfl, rfl, trivial⟩ (by kernel_rfl)
     exact ovr hAp rfl (r_addI (hAp.get rfl) (hAp.get rfl) c3) fun _ => Eq.refl _
    ·intro a w hT
     have hAp := hT.ag aq [] trivial (by kernel_rfl)
     have hAp := hAp.add (t := 50) (v := .pointer (some b)) (hT.vals 9 rfl 50 rfl)
     have hAp := hAp.add (t := 51) (v := .agg #[.int .i64 s, .int .i64 p]) (hT.vals 10 rfl 51 rfl)
     have hAp := hAp.add (t := 52) (v := .agg #[.int .i64 u, .int .i64 q]) (hT.vals 11 rfl 52 rfl)
     exact opk_callX hAp rfl (r_call (args := #[.pointer (some b), .agg #[.int .i64 s, .int .i64 p], .agg #[.int .i64 u, .int .i64 q]]) Try.func88 (by decide) rfl (map_arr (ml_cons (hAp.get rfl) (ml_cons (hAp.get rfl) (ml_cons (hAp.get rfl) ml_nil)))) rfl) (c5 w hT.chg) fun _ _ _ _ e hR => ⟨_, e, hR.1, fun _ => hR.2⟩
    ·intro a w hT
     have hAp := hT.ag aq [] trivial (by kernel_rfl)
     have hAp := hAp.add (t := 49) (v := .int .i64 (r + x)) (hT.vals 8 rfl 49 rfl)
     have hAp := hAp.add (t := 53) (v := .int .i64 z) (hT.vals 12 rfl 53 rfl)
     exact ovr hAp rfl (r_addI (hAp.get rfl) (hAp.get rfl) c7) fun _ => Eq.refl _
    ·intro a w hT
     have hAp := hT.ag aq [] trivial (by kernel_rfl)
     have hAp := hAp.add (t := 54) (v := .int .i64 ((r + x) + z)) (hT.vals 13 rfl 54 rfl)
     have hAp := hAp.add (t := 55) (v := .int .i64 o) (hT.vals 14 rfl 55 rfl)
     exact ovr hAp rfl (r_eql (hAp.get rfl) (hAp.get rfl)) fun _ => Eq.refl _
    ·intro a w hT
     have hAp := hT.ag aq [] trivial (by kernel_rfl)
     have hAp := hAp.add (t := 56) (v := .bool (decide (((r + x) + z) = o))) (hT.vals 15 rfl 56 rfl)
     exact ovr hAp rfl (r_assign (hAp.get rfl)) fun _ => Eq.refl _
    ·intro a w hT
     have hAp := hT.ag aq [(0, .pointer (some b))] ⟨rfl, trivial⟩ (by kernel_rfl)
     exact ovr hAp rfl (r_move (hAp.get rfl)) fun _ => Eq.refl _
    ·intro a w hT
     have hAp := hT.ag aq [(6, pB k 0)] ⟨rfl, trivial⟩ (by kernel_rfl)
     exact ovr hAp rfl (r_loadN (cs := [.int .i64 s, .int .i64 p]) Try.underlying129 rfl ti_129 (hAp.get rfl) ((bT.ext hT.chg).part 0 _ rfl)) fun _ => Eq.refl _
    ·intro a w hT
     have hAp := hT.ag aq [(7, pB l 0)] ⟨rfl, trivial⟩ (by kernel_rfl)
     exact ovr hAp rfl (r_loadN (cs := [.int .i64 u, .int .i64 q]) Try.underlying129 rfl ti_129 (hAp.get rfl) ((bU.ext hT.chg).part 0 _ rfl)) fun _ => Eq.refl _
    ·intro a w hT
     have hAp := hT.ag aq [(9, .int .i64 o)] ⟨rfl, trivial⟩ (by kernel_rfl)
     exact ovr hAp rfl (r_move (hAp.get rfl)) fun _ => Eq.refl _
    ·intro c9 da aC db dc
     have dd := db [(0, .pointer (some b)), (1, Sl.v y), (6, pB k 0), (7, pB l 0), (9, .int .i64 o), (10, pB g 0), (11, pB j 0), (12, pB d 0), (13, pB f 0)] ⟨rfl, rfl, rfl, rfl, rfl, rfl, rfl, rfl, rfl, trivial⟩ (by kernel_rfl)
     have df : c9.tmps.getD 40 undef = .bool (decide (((r + x) + z) = o)) := dc 16 rfl 40 rfl
     have dg := dd.add df
     have dh := bT.ext aC
     have di := bU.ext aC
     have dj := cY.ext aC
     have dk := cZ.ext aC
     have dl := c0.ext aC
     have dm := c1.ext aC
     have dn : Chg [] aL da := aC
     refine PRF_drop (X := [9, 10, 11, 14]) (Fs' := []) dg (by kernel_rfl) fun f1 dp f2 => ?_
     have dq := dp [(0, .pointer (some b)), (1, Sl.v y), (6, pB k 0), (7, pB l 0), (9, .int .i64 o), (10, pB g 0), (11, pB j 0), (12, pB d 0), (13, pB f 0), (40, .bool (decide (((r + x) + z) = o)))] ⟨rfl, rfl, rfl, rfl, rfl, rfl, rfl, rfl, rfl, rfl, trivial⟩ (by kernel_rfl)
     refine joinF dq (by kernel_rfl) trivial trivial ?_
     ·intro f3 aH aD dr f4
      have ds := dr [(0, .pointer (some b)), (1, Sl.v y), (6, pB k 0), (7, pB l 0), (9, .int .i64 o), (10, pB g 0), (11, pB j 0), (12, pB d 0), (13, pB f 0), (40, .bool (decide (((r + x) + z) = o)))] ⟨rfl, rfl, rfl, rfl, rfl, rfl, rfl, rfl, rfl, rfl, trivial⟩ (by kernel_rfl)
      have dt := dh.ext aD
      have du := di.ext aD
      have dv := dj.ext aD
      have dx := dk.ext aD
      have dy := dl.ext aD
      have dz := dm.ext aD
      have dA := dn.more aD
      refine PR_end (by kernel_rfl) ?_
      have dB := ds.kp [(0, .pointer (some b)), (1, Sl.v y), (6, pB k 0), (7, pB l 0), (9, .int .i64 o), (10, pB g 0), (11, pB j 0), (12, pB d 0), (13, pB f 0), (40, .bool (decide (((r + x) + z) = o)))] rfl
      refine gK (bs := [(f, 129, [.int .i64 ad, .int .i64 af]), (d, 129, [.int .i64 aa, .int .i64 ab]), (j, 129, [.int .i64 aj, .int .i64 ak]), (g, 129, [.int .i64 ah, .int .i64 ai]), (l, 129, [.int .i64 u, .int .i64 q]), (k, 129, [.int .i64 s, .int .i64 p])]) (N := []) dB dA ⟨dz, dy, dx, dv, du, dt, trivial⟩ (by simp [(Ne.symm bI), (Ne.symm bH), (Ne.symm bG), (Ne.symm cp), (Ne.symm co), (Ne.symm bF), (Ne.symm bD), (Ne.symm cn), (Ne.symm cm), (Ne.symm bC), (Ne.symm cl), (Ne.symm ck), (Ne.symm cj), (Ne.symm ci), (Ne.symm ch)]) trivial (by simp) c8 ?_
      refine tn ?_
      refine gi dT dF ?_ ?_
      ·refine gS <| gS <| gR <| gM ?_
       refine gBN 5 2 Try.underlying129 ti_129 ?_
       refine gBN 4 2 Try.underlying129 ti_129 <| gT0 ?_
       refine gC [5, 4, 3, 2, 1, 0] Try.func88 fun _ a8 => gE fun aX => gQ ?_
       refine g2 r_lss <| ge <| tn <| gE fun J => ?_
       refine m1 (fun ap => [(1, Sl.v ap)]) [(0, _), (10, _), (11, _), (12, _), (13, _)] (fun _ => []) [(g, _, _), (j, _, _), (d, _, _), (f, _, _)] [3, 2, 1, 0] ?_ fun ap a0 _ => ?_
       ·refine gi dT dF ?_ ?_
        ·refine gD fun ar => gT0 <| gE fun aY => gA fun dC => gA fun dD => gE fun ba => gA fun dG => gE fun ay => gA fun dH => gE fun aZ => gA fun dI => gA fun dJ => gE fun bb => gA fun dK => gE fun az => gA fun dL => ?_
         refine gW 0 21 [(20, rsB ar (fun B => .slice (some ⟨B, 0, none⟩) 1 1) 40 [.int .i64 ay, .int .i64 az])] ?_
         refine gM ?_
         refine gM ?_
         refine g1 r_nilCheck ?_
         refine gF 2 Try.underlying127 ti_22 ?_
         refine gP dC <| gL tU22 ?_
         refine gF 1 Try.underlying129 ti_3 ?_
         refine gB 5 tU3 ?_
         refine gP dD <| g2s r_subI ?_
         refine gIx tU22 ti_3 dG ?_
         refine gP dH <| gL tU3 ?_
         refine gM ?_
         refine g1 r_nilCheck ?_
         refine gF 3 Try.underlying127 ti_22 ?_
         refine gP dI <| gL tU22 ?_
         refine gF 1 Try.underlying129 ti_3 ?_
         refine gB 4 tU3 ?_
         refine gP dJ <| g2s r_subI ?_
         refine gIx tU22 ti_3 dK ?_
         refine gP dL <| gL tU3 ?_
         refine gbu ti_40 Try.underlying40 pl_40 (OPs.of rfl) ?_
         refine yn (fun B => .slice (some ⟨B, 0, none⟩) 1 1) (cs := [.int .i64 ay, .int .i64 az]) rfl (fun _ hA _ => r_buildSlice ((OPs.of rfl : OPs _ true _ _).map hA rfl) tU29 ti_40 rfl rfl (by kernel_rfl)) (fun _ _ B _ _ _ h1 h2 => ⟨B, rfl, h1, h2⟩) fun aA => ?_
         refine eB (B := aA) (T := 40) (cs := [.int .i64 ay, .int .i64 az]) (fun _ hF => ⟨hF.1.1, hF.1.2⟩) (fun v w' hE hF => v w' aA hE hF.1.1 hF.1.2) fun aM => ?_
         refine gO 21 ?_
         refine gX 0 ?_
         refine gR2 [6, 5, 4, 3, 2, 1] r_append fun _ bz => gE fun bd => gQ <| geO ?_
         refine gW 22 1 [] ?_
         refine gN <| geT fun bf => ?_
         refine gZ <| gT0 ?_
         exact j1 [2, 3, 4, 5]
        ·exact gk <| j1 [3, 2, 1, 0]
       ·refine tn <| gS ?_
        intro f5 an dO
        have av := an.ag
        have dP := an.bx 0 rfl
        have dQ := an.bx 1 rfl
        have dR := an.bx 2 rfl
        have dS := an.bx 3 rfl
        have f6 : g ≠ j := an.ne 0 1
        have f7 : g ≠ d := an.ne 0 2
        have f8 : j ≠ d := an.ne 1 2
        have f9 : g ≠ f := an.ne 0 3
        have ga : j ≠ f := an.ne 1 3
        have gc : d ≠ f := an.ne 2 3
        refine draw' (by kernel_rfl) fun aN aQ => ?_
        have bV := dP.ext aQ
        have bX := dQ.ext aQ
        have bY := dR.ext aQ
        have bZ := dS.ext aQ
        have dU : Chg [] a0 aN := aQ
        have dV := dO aN    dU
        refine startF (D := [[], [], [], [], [], [1, 2, 3, 4], [], [], [0, 1, 2, 3, 4, 5, 6, 7], [0, 1, 2, 3, 4, 5, 6, 7, 8]]) (Fs := [0, 1, 2, 3, 4, 6, 7]) (Ef := [(0, fun v _ => v = .pointer (some b)), (1, fun v _ => v = .pointer (some b)), (2, fun v _ => v = Sl.v ap), (3, fun v _ => v = .agg #[.int .i64 ah, .int .i64 ai]), (4, fun v _ => v = .agg #[.int .i64 aj, .int .i64 ak]), (6, fun v _ => v = .agg #[.int .i64 aa, .int .i64 ab]), (7, fun v _ => v = .agg #[.int .i64 ad, .int .i64 af])]) (by kernel_rfl) ?_
        refine oneF (c := 5) av rfl (by kernel_rfl) (constF ⟨fun _ _ _ h => h, fun _ _ _ h => h, fun _ _ _ h => h, fun _ _ _ h => h, fun _ _ _ h => h, fun _ _ _ h => h, fun _ _ _ h => h, trivial⟩) ⟨?_, ?_, ?_, ?_, ?_, ?_, ?_, trivial⟩ ?_
        ·intro a hT
         have hAp := hT.ag av [(0, .pointer (some b))] ⟨rfl, trivial⟩ (by kernel_rfl)
         exact opk_val hAp rfl (r_move (hAp.get rfl)) fun _ _ e => ⟨_, e, rfl, fun _ => Eq.refl _⟩
        ·intro a hT
         have hAp := hT.ag av [(0, .pointer (some b))] ⟨rfl, trivial⟩ (by kernel_rfl)
         exact opk_val hAp rfl (r_move (hAp.get rfl)) fun _ _ e => ⟨_, e, rfl, fun _ => Eq.refl _⟩
        ·intro a hT
         have hAp := hT.ag av [(1, Sl.v ap)] ⟨rfl, trivial⟩ (by kernel_rfl)
         exact opk_val hAp rfl (r_move (hAp.get rfl)) fun _ _ e => ⟨_, e, rfl, fun _ => Eq.refl _⟩
        ·intro a hT
         have hAp := hT.ag av [(10, pB g 0)] ⟨rfl, trivial⟩ (by kernel_rfl)
         exact opk_val hAp rfl (r_loadN (cs := [.int .i64 ah, .int .i64 ai]) Try.underlying129 rfl ti_129 (hAp.get rfl) ((bV.ext hT.chg).part 0 _ rfl)) fun _ _ e => ⟨_, e, rfl, fun _ => Eq.refl _⟩
        ·intro a hT
         have hAp := hT.ag av [(11, pB j 0)] ⟨rfl, trivial⟩ (by kernel_rfl)
         exact opk_val hAp rfl (r_loadN (cs := [.int .i64 aj, .int .i64 ak]) Try.underlying129 rfl ti_129 (hAp.get rfl) ((bX.ext hT.chg).part 0 _ rfl)) fun _ _ e => ⟨_, e, rfl, fun _ => Eq.refl _⟩
        ·intro a hT
         have hAp := hT.ag av [(12, pB d 0)] ⟨rfl, trivial⟩ (by kernel_rfl)
         exact opk_val hAp rfl (r_loadN (cs := [.int .i64 aa, .int .i64 ab]) Try.underlying129 rfl ti_129 (hAp.get rfl) ((bY.ext hT.chg).part 0 _ rfl)) fun _ _ e => ⟨_, e, rfl, fun _ => Eq.refl _⟩
        ·intro a hT
         have hAp := hT.ag av [(13, pB f 0)] ⟨rfl, trivial⟩ (by kernel_rfl)
         exact opk_val hAp rfl (r_loadN (cs := [.int .i64 ad, .int .i64 af]) Try.underlying129 rfl ti_129 (hAp.get rfl) ((bZ.ext hT.chg).part 0 _ rfl)) fun _ _ e => ⟨_, e, rfl, fun _ => Eq.refl _⟩
        ·intro a4 hT
         have dX := hT.ag av [(0, .pointer (some b)), (1, Sl.v ap), (10, pB g 0), (11, pB j 0), (12, pB d 0), (13, pB f 0)] ⟨rfl, rfl, rfl, rfl, rfl, rfl, trivial⟩ (by kernel_rfl)
         have dY : a4.tmps.getD 85 undef = .pointer (some b) := hT.vals 1 rfl 85 rfl
         have dZ := dX.add dY
         have d0 : a4.tmps.getD 86 undef = Sl.v ap := hT.vals 2 rfl 86 rfl
         have d1 := dZ.add d0
         have d2 : a4.tmps.getD 87 undef = .agg #[.int .i64 ah, .int .i64 ai] := hT.vals 3 rfl 87 rfl
         have d3 := d1.add d2
         have d4 : a4.tmps.getD 88 undef = .agg #[.int .i64 aj, .int .i64 ak] := hT.vals 4 rfl 88 rfl
         have aR := d3.add d4
         refine (opk_call aR rfl (r_call (args := #[.pointer (some b), Sl.v ap, .agg #[.int .i64 ah, .int .i64 ai], .agg #[.int .i64 aj, .int .i64 ak]]) Try.func76 (by decide) rfl (map_arr (ml_cons (aR.get rfl) (ml_cons (aR.get rfl) (ml_cons (aR.get rfl) (ml_cons (aR.get rfl) ml_nil))))) rfl) dV fun gd gf bg d5 d6 a5 gg d7 => ?_)
         refine ⟨_, d6, ?_⟩
         obtain ⟨aI, rfl, d8⟩ := d7
         have d9 := bV.kept a5 (.head _)
         have fa := bX.kept a5 (.tail _ (.head _))
         have b0 := bY.kept a5 (.tail _ (.tail _ (.head _)))
         have b1 := bZ.kept a5 (.tail _ (.tail _ (.tail _ (.head _))))
         refine PRF_drop (X := [1, 2, 3, 4]) (Fs' := [0, 6, 7]) d5 (by kernel_rfl) fun gh fb gj => ?_
         have a6 := fb [(0, .pointer (some b)), (12, pB d 0), (13, pB f 0), (89, Sl.v aI)] ⟨rfl, rfl, rfl, rfl, trivial⟩ (by kernel_rfl)
         refine joinF a6 (by kernel_rfl) ⟨fun _ _ _ _ h => h, fun _ _ _ _ h => h, fun _ _ _ _ h => h, trivial⟩ ⟨?_, ?_, ?_, trivial⟩ ?_
         ·intro a w hT
          have hAp := hT.ag a6 [(0, .pointer (some b))] ⟨rfl, trivial⟩ (by kernel_rfl)
          exact ovr hAp rfl (r_move (hAp.get rfl)) fun _ => Eq.refl _
         ·intro a w hT
          have hAp := hT.ag a6 [(12, pB d 0)] ⟨rfl, trivial⟩ (by kernel_rfl)
          exact ovr hAp rfl (r_loadN (cs := [.int .i64 aa, .int .i64 ab]) Try.underlying129 rfl ti_129 (hAp.get rfl) ((b0.ext hT.chg).part 0 _ rfl)) fun _ => Eq.refl _
         ·intro a w hT
          have hAp := hT.ag a6 [(13, pB f 0)] ⟨rfl, trivial⟩ (by kernel_rfl)
          exact ovr hAp rfl (r_loadN (cs := [.int .i64 ad, .int .i64 af]) Try.underlying129 rfl ti_129 (hAp.get rfl) ((b1.ext hT.chg).part 0 _ rfl)) fun _ => Eq.refl _
         ·intro bq aO aS fc bt
          have fd := fc [(89, Sl.v aI)] ⟨rfl, trivial⟩ (by kernel_rfl)
          have ff : bq.tmps.getD 84 undef = .pointer (some b) := bt 0 rfl 84 rfl
          have fg := fd.add ff
          have fh : bq.tmps.getD 90 undef = .agg #[.int .i64 aa, .int .i64 ab] := bt 6 rfl 90 rfl
          have fi := fg.add fh
          have fj : bq.tmps.getD 91 undef = .agg #[.int .i64 ad, .int .i64 af] := bt 7 rfl 91 rfl
          have aU := fi.add fj
          have fk := d9.ext aS
          have fl := fa.ext aS
          have fm := b0.ext aS
          have fn := b1.ext aS
          have fo : Chg [] bg aO := aS
          have fp := d8 aO    fo
          refine one (D := [[], [], [], [], [], [1, 2, 3, 4], [], [], [0, 1, 2, 3, 4, 5, 6, 7], [0, 1, 2, 3, 4, 5, 6, 7, 8]]) (i := 8) rfl (by kernel_rfl) (opk_call aU rfl (r_call (args := #[.pointer (some b), Sl.v aI, .agg #[.int .i64 aa, .int .i64 ab], .agg #[.int .i64 ad, .int .i64 af]]) Try.func76 (by decide) rfl (map_arr (ml_cons (aU.get rfl) (ml_cons (aU.get rfl) (ml_cons (aU.get rfl) (ml_cons (aU.get rfl) ml_nil))))) rfl) fp fun gm gq bi b2 _ a7 gu fq => ?_)
          obtain ⟨aB, rfl, fr⟩ := fq
          have fs := fk.kept a7 (.head _)
          have ft := fl.kept a7 (.tail _ (.head _))
          have fu := fm.kept a7 (.tail _ (.tail _ (.head _)))
          have fv := fn.kept a7 (.tail _ (.tail _ (.tail _ (.head _))))
          refine par (D := [[], [], [], [], [], [1, 2, 3, 4], [], [], [0, 1, 2, 3, 4, 5, 6, 7], [0, 1, 2, 3, 4, 5, 6, 7, 8]]) (S := [9]) (F := []) (V := VL [(9, fun v _ => v = Sl.v aB)]) b2 (by kernel_rfl) ⟨fun _ _ _ _ h => h, trivial⟩ ⟨?_, trivial⟩ ?_
          ·intro a w hT
           have hAp := hT.ag b2 [(92, Sl.v aB)] ⟨rfl, trivial⟩ (by kernel_rfl)
           exact ovr hAp rfl (r_assign (hAp.get rfl)) fun _ => Eq.refl _
          ·intro fx a1 aV fy fz
           have fA := fy [] trivial (by kernel_rfl)
           have fB : fx.tmps.getD 8 undef = Sl.v aB := fz 9 rfl 8 rfl
           have fC := fA.add fB
           have gG := fs.ext aV
           have gJ := ft.ext aV
           have gU := fu.ext aV
           have gV := fv.ext aV
           have fD : Chg [] bi a1 := aV
           refine PR_end (by kernel_rfl) ?_
           have fF := fC.kp [(8, Sl.v aB)] rfl
           refine gK (bs := []) (N := []) fF fD trivial (by simp) trivial (by simp) fr ?_
           exact tn <| gr <| br <| tr <| gT0 <| gz1
      ·refine gS <| gR <| gM ?_
       refine gF 0 Try.underlying129 ti_3 ?_
       refine gB 5 tU3 ?_
       refine gF 1 Try.underlying129 ti_3 ?_
       refine gB 5 tU3 ?_
       refine g2s r_subI ?_
       refine gbu ti_129 Try.underlying129 pl_129 (OPs.of rfl) ?_
       refine gBN 4 2 Try.underlying129 ti_129 <| gT0 ?_
       refine gC [5, 4, 3, 2, 1, 0] Try.func77 fun _ bj => gE fun aP => gQ ?_
       refine g2s r_addI ?_
       refine gM ?_
       refine g2 r_eql ?_
       refine gN <| ge <| tn ?_
       refine gi dT dF ?_ ?_
       ·refine gS <| gR <| gM ?_
        refine gM ?_
        refine gF 0 Try.underlying129 ti_3 ?_
        refine gB 5 tU3 ?_
        refine gF 1 Try.underlying129 ti_3 ?_
        refine gB 5 tU3 ?_
        refine g2s r_subI ?_
        refine gbu ti_129 Try.underlying129 pl_129 (OPs.of rfl) ?_
        refine gBN 4 2 Try.underlying129 ti_129 ?_
        refine gC [5, 4] Try.func76 fun _ bA => gE fun bk => gQ ?_
        refine gN <| ge <| tn <| gr <| br <| tr ?_
        exact gz1
       ·refine gk <| bn <| tn <| gS <| gR <| gM ?_
        refine gM ?_
        refine gBN 5 2 Try.underlying129 ti_129 ?_
        refine gF 0 Try.underlying129 ti_3 ?_
        refine gB 4 tU3 ?_
        refine gF 1 Try.underlying129 ti_3 ?_
        refine gB 4 tU3 ?_
        refine g2s r_subI ?_
        refine gbu ti_129 Try.underlying129 pl_129 (OPs.of rfl) ?_
        refine gC [5, 4] Try.func76 fun _ bB => gE fun bl => gQ ?_
        refine gN <| ge <| tn <| gr ?_
        exact gz1
end Go.Proofs.Yteohbfaechfliaa
