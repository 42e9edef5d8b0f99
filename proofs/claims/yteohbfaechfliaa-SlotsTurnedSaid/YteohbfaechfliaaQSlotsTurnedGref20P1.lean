/-
  PRINTED BY PROGRAM: for each function its condition (vc), and that this suffices (ok).
-/
import Derived.Test.YteohbfaechfliaaQSlotsTurnedGT
namespace Go.Proofs.Yteohbfaechfliaa
open Go.RowKit
set_option linter.unusedVariables false
set_option maxHeartbeats 1000000
set_option maxRecDepth 10000
def ref20_Whole.vc (aD : Int) (aG : Str) (aH : Str) (aI : Sl) (aJ : Sl) (aK : Int) (aL : Str) (aM : Str) (aN : Sl) (aO : Sl) (R : Value → World → Prop) (w : World) : Prop :=
∀ (w6 : World) (aq : Nat) (ar : Nat), New w aq w6 → New w ar w6 → aq ≠ ar → Chg [] w w6 →
CallK Try.prog 75 #[.agg #[.int .i64 aD, .string (Bs aG), .string (Bs aH), Sl.v aI, Sl.v aJ], .agg #[.int .i64 aK, .string (Bs aL), .string (Bs aM), Sl.v aN, Sl.v aO]] w6 [aq, ar] (fun v w9 => ∃ (k : Option Addr), v = .pointer k ∧
∀ (s : World), Chg [] w9 s →
∃ x : Addr, (k = some x) ∧
∃ (m : Sl), (s.cell? (x.add 2) = some (Sl.v m)) ∧
∃ u : Addr, (k = some u) ∧
∃ (l : Sl), (s.cell? (u.add 3) = some (Sl.v l)) ∧
∀ (y : World) (f : Nat) (g : Nat), Ext s y → s.heap.size ≤ f → Box y f 129 [.int .i64 0, .int .i64 0] → s.heap.size ≤ g → Box y g 129 [.int .i64 0, .int .i64 0] → 
∀ (aP : World), Chg [g, f] y aP →
CallK Try.prog 76 #[.pointer k, Sl.v Sl.nil, .agg #[.int .i64 0, .int .i64 (m.n : Int)], .agg #[.int .i64 0, .int .i64 (l.n : Int)]] aP [f, g] (fun v bB => ∃ (j : Sl), v = Sl.v j ∧
∃ (a3 : Int → World → Prop) (bC : Int → World → Nat),
a3 1 bB ∧
(∀ (p : Int) (au : World), a3 p au →
((p < (j.n : Int)) →
∃ (a4 : Int → World → Prop) (bD : Int → World → Nat),
a4 p au ∧
(∀ (d : Int) (aQ : World), a4 d aQ →
∀ (af : World), Chg [] aQ af →
∃ a5 : Addr, (((0 < d)) → ((0 : Int) ≤ d ∧ d < (j.n : Int)) ∧ j.a = some a5) ∧
∃ (av : Int), (((0 < d)) → af.cell? ((a5.add (d.toNat * 2)).add 0) = some (.int .i64 av)) ∧
(((0 < d)) → I64 (d - 1)) ∧
∃ a6 : Addr, (((0 < d)) → ((0 : Int) ≤ d - 1 ∧ d - 1 < (j.n : Int)) ∧ j.a = some a6) ∧
∃ (ax : Int), (((0 < d)) → af.cell? ((a6.add ((d - 1).toNat * 2)).add 0) = some (.int .i64 ax)) ∧
(((0 < d) ∧ (av < ax)) →
∀ (ab : World), Chg [] af ab →
(I64 (d - 1)) ∧
(I64 (d - 1)) ∧
∃ ay : Addr, (((0 : Int) ≤ d - 1 ∧ d - 1 < (j.n : Int)) ∧ j.a = some ay) ∧
∃ (ah : Int) (ai : Int), (Cells ab (ay.add ((d - 1).toNat * 2)) [.int .i64 ah, .int .i64 ai]) ∧
∃ az : Addr, (((0 : Int) ≤ d ∧ d < (j.n : Int)) ∧ j.a = some az) ∧
∃ (z : Int) (aa : Int), (Cells ab (az.add (d.toNat * 2)) [.int .i64 z, .int .i64 aa]) ∧
∃ aA : Addr, (((0 : Int) ≤ d ∧ d < (j.n : Int)) ∧ j.a = some aA) ∧
∃ (aj aR : Nat) (a7 : TypeId) (aS : List Value), (aA.add (d.toNat * 2)) = ⟨aj, aR, none⟩ ∧ Box ab aj a7 aS ∧ aR + 2 ≤ aS.length ∧ (∀ b ∈ [f, g], b ≠ aj) ∧
(∀ ak : World, Chg [aj] ab ak → Box ak aj a7 (putAt aS aR [.int .i64 ah, .int .i64 ai]) →
∀ (al : World), Chg [] ak al →
∃ aB : Addr, (((0 : Int) ≤ d - 1 ∧ d - 1 < (j.n : Int)) ∧ j.a = some aB) ∧
∀ (am : World), Chg [] al am →
∃ (an aU : Nat) (a8 : TypeId) (aV : List Value), (aB.add ((d - 1).toNat * 2)) = ⟨an, aU, none⟩ ∧ Box am an a8 aV ∧ aU + 2 ≤ aV.length ∧ (∀ b ∈ [f, g], b ≠ an) ∧
(∀ ao : World, Chg [an] am ao → Box ao an a8 (putAt aV aU [.int .i64 z, .int .i64 aa]) →
(I64 (d - 1)) ∧
a4 (d - 1) ao ∧ bD (d - 1) ao < bD d aQ))) ∧
(((¬ (0 < d)) ∨ (¬ (av < ax))) →
(I64 (p + 1)) ∧
∀ (aX : World), Chg [] af aX →
a3 (p + 1) aX ∧ bC (p + 1) aX < bC p au))) ∧
((¬ (p < (j.n : Int))) →
CallK Try.prog 77 #[.pointer k, .agg #[.int .i64 0, .int .i64 (m.n : Int)], .agg #[.int .i64 0, .int .i64 (l.n : Int)]] au [f, g] (fun v bF => ∃ (a9 : Int), v = .int .i64 a9 ∧
R (.tuple #[.int .i64 a9, Sl.v j]) bF)))))
theorem ref20_Whole.ok (aD : Int) (aG : Str) (aH : Str) (aI : Sl) (aJ : Sl) (aK : Int) (aL : Str) (aM : Str) (aN : Sl) (aO : Sl) {R : Value → World → Prop} {w : World} (b8 : ref20_Whole.vc aD aG aH aI aJ aK aL aM aN aO R w) : Calls Try.prog 57 #[.agg #[.int .i64 aD, .string (Bs aG), .string (Bs aH), Sl.v aI, Sl.v aJ], .agg #[.int .i64 aK, .string (Bs aL), .string (Bs aM), Sl.v aN, Sl.v aO]] w (Ret R) := by
 refine go _ Try.func57 Try.ntmps57 b8 ?_
 refine gS <| gR <| nb fun w4 aq => ?_
 refine nb fun w6 ar => ?_
 refine gN ?_
 refine gN <| ge <| tn <| gS <| gR ?_
 refine gBN 1 5 Try.underlying26 ti_26 ?_
 refine gBN 0 5 Try.underlying26 ti_26 <| gT2 ?_
 refine gC [1, 0] Try.func75 fun _ w9 => gE fun k => gQ ?_
 refine gN <| ge <| tn <| gS ?_
 intro d4 bG b9
 have q := bG.ag
 have d5 : aq ≠ ar := bG.ne 1 0
 let ba : List (List Nat) := [[], [0], [0, 1], [0, 1, 2], [0, 1, 2, 3], [0, 1, 2, 3, 4], [], [6], [6, 7], [6, 7, 8], [6, 7, 8, 9], [6, 7, 8, 9, 10], [], [], [0, 1, 2, 3, 4, 5, 12, 13], [0, 1, 2, 3, 4, 5, 6, 7, 8, 9, 10, 11, 12, 13, 14]]
 refine draw' (by kernel_rfl) fun s ca => ?_
 have cb : Chg [] w9 s := ca
 have cc := b9 s    cb
 obtain ⟨x, bH, cd⟩ := cc
 obtain ⟨m, bb, cf⟩ := cd
 obtain ⟨u, bd, cg⟩ := cf
 obtain ⟨l, bf, ch⟩ := cg
 refine startF (D := ba) (Fs := [0, 1, 2, 3, 4, 5, 6, 7, 8, 9, 10, 11]) (Ef := [(0, fun v _ => v = .pointer k), (1, fun v _ => v = .pointer (some x)), (2, fun v _ => v = .pointer (some (x.add 2))), (3, fun v _ => v = Sl.v m), (4, fun v _ => v = .int .i64 (m.n : Int)), (5, fun v _ => v = .agg #[.int .i64 0, .int .i64 (m.n : Int)]), (6, fun v _ => v = .pointer k), (7, fun v _ => v = .pointer (some u)), (8, fun v _ => v = .pointer (some (u.add 3))), (9, fun v _ => v = Sl.v l), (10, fun v _ => v = .int .i64 (l.n : Int)), (11, fun v _ => v = .agg #[.int .i64 0, .int .i64 (l.n : Int)])]) (by kernel_rfl) ?_
 refine parFN (D := ba) (S := [12, 13]) (F := []) (KE := [12, 13]) (N := [12, 13]) (E := [(12, fun v w' => ∃ f : Nat, s.heap.size ≤ f ∧ Box w' f 129 [.int .i64 0, .int .i64 0] ∧ v = pB f 0), (13, fun v w' => ∃ g : Nat, s.heap.size ≤ g ∧ Box w' g 129 [.int .i64 0, .int .i64 0] ∧ v = pB g 0)]) q rfl (by kernel_rfl) (blkF ⟨fun _ _ h => by obtain ⟨f, _, hB, rfl⟩ := h; exact hB.lt, fun _ _ h => by obtain ⟨g, _, hB, rfl⟩ := h; exact hB.lt, trivial⟩) ⟨fun _ _ _ hE ⟨f, h0_, h1_, e⟩ => ⟨f, h0_, (h1_.ext hE), e⟩, fun _ _ _ hE ⟨g, h0_, h1_, e⟩ => ⟨g, h0_, (h1_.ext hE), e⟩, fun _ _ _ _ h => h, fun _ _ _ _ h => h, fun _ _ _ _ h => h, fun _ _ _ _ h => h, fun _ _ _ _ h => h, fun _ _ _ _ h => h, fun _ _ _ _ h => h, fun _ _ _ _ h => h, fun _ _ _ _ h => h, fun _ _ _ _ h => h, fun _ _ _ _ h => h, fun _ _ _ _ h => h, trivial⟩ ⟨?_, ?_, ?_, ?_, ?_, ?_, ?_, ?_, ?_, ?_, ?_, ?_, ?_, ?_, trivial⟩ ?_
 ·intro a w hT
  have hAp := hT.ag q [] trivial (by kernel_rfl)
  exact opk_new (fun B => .pointer (some ⟨B, 0, none⟩)) hAp rfl (r_alloc (cs := [.int .i64 0, .int .i64 0]) ti_129 rfl) fun _ d6 f ci bI cj _ e => ⟨_, e, ci, fun _ => ⟨f, Nat.le_trans hT.chg.size bI.ge, cj, rfl⟩, fun _ => bI.ge⟩
 ·intro a w hT
  have hAp := hT.ag q [] trivial (by kernel_rfl)
  exact opk_new (fun B => .pointer (some ⟨B, 0, none⟩)) hAp rfl (r_alloc (cs := [.int .i64 0, .int .i64 0]) ti_129 rfl) fun _ d7 g ck bJ cl _ e => ⟨_, e, ck, fun _ => ⟨g, Nat.le_trans hT.chg.size bJ.ge, cl, rfl⟩, fun _ => bJ.ge⟩
 ·intro a w hT
  refine overN_of rfl ?_
  have hAp := hT.ag q [(6, .pointer k)] ⟨rfl, trivial⟩ (by kernel_rfl)
  exact ovr hAp rfl (r_move (hAp.get rfl)) fun _ => Eq.refl _
 ·intro a w hT
  refine overN_of rfl ?_
  have hAp := hT.ag q [] trivial (by kernel_rfl)
  have hAp := hAp.add (t := 15) (v := .pointer k) (hT.vals 0 rfl 15 rfl)
  exact ovr hAp rfl (r_nilCheckP (((hAp.get rfl)).trans (congrArg Value.pointer bH))) fun _ => Eq.refl _
 ·intro a w hT
  refine overN_of rfl ?_
  have hAp := hT.ag q [] trivial (by kernel_rfl)
  have hAp := hAp.add (t := 16) (v := .pointer (some x)) (hT.vals 1 rfl 16 rfl)
  exact ovr hAp rfl (r_fieldAddr (hAp.get rfl) Try.underlying127 rfl ti_22 (by decide)) fun _ => Eq.refl _
 ·intro a w hT
  refine overN_of rfl ?_
  have hAp := hT.ag q [] trivial (by kernel_rfl)
  have hAp := hAp.add (t := 17) (v := .pointer (some (x.add 2))) (hT.vals 2 rfl 17 rfl)
  exact ovr hAp rfl (r_load1 tU22 rfl (hAp.get rfl) (Ext.cell hT.chg bb)) fun _ => Eq.refl _
 ·intro a w hT
  refine overN_of rfl ?_
  have hAp := hT.ag q [] trivial (by kernel_rfl)
  have hAp := hAp.add (t := 18) (v := Sl.v m) (hT.vals 3 rfl 18 rfl)
  exact ovr hAp rfl (r_len (hAp.get rfl) tU22) fun _ => Eq.refl _
 ·intro a w hT
  refine overN_of rfl ?_
  have hAp := hT.ag q [] trivial (by kernel_rfl)
  have hAp := hAp.add (t := 19) (v := .int .i64 (m.n : Int)) (hT.vals 4 rfl 19 rfl)
  exact ovr hAp rfl (r_build (vs := #[(0, .int .i64 0), (1, .int .i64 (m.n : Int))]) (cells := #[.int .i64 0, .int .i64 (m.n : Int)]) (map_arr2 (ml2_cons rfl (ml2_cons (hAp.get rfl) (ml2_nil)))) ti_129 Try.underlying129 pl_129 (by kernel_rfl)) fun _ => Eq.refl _
 ·intro a w hT
  refine overN_of rfl ?_
  have hAp := hT.ag q [(6, .pointer k)] ⟨rfl, trivial⟩ (by kernel_rfl)
  exact ovr hAp rfl (r_move (hAp.get rfl)) fun _ => Eq.refl _
 ·intro a w hT
  refine overN_of rfl ?_
  have hAp := hT.ag q [] trivial (by kernel_rfl)
  have hAp := hAp.add (t := 21) (v := .pointer k) (hT.vals 6 rfl 21 rfl)
  exact ovr hAp rfl (r_nilCheckP (((hAp.get rfl)).trans (congrArg Value.pointer bd))) fun _ => Eq.refl _
 ·intro a w hT
  refine overN_of rfl ?_
  have hAp := hT.ag q [] trivial (by kernel_rfl)
  have hAp := hAp.add (t := 22) (v := .pointer (some u)) (hT.vals 7 rfl 22 rfl)
  exact ovr hAp rfl (r_fieldAddr (hAp.get rfl) Try.underlying127 rfl ti_22 (by decide)) fun _ => Eq.refl _
 ·intro a w hT
  refine overN_of rfl ?_
  have hAp := hT.ag q [] trivial (by kernel_rfl)
  have hAp := hAp.add (t := 23) (v := .pointer (some (u.add 3))) (hT.vals 8 rfl 23 rfl)
  exact ovr hAp rfl (r_load1 tU22 rfl (hAp.get rfl) (Ext.cell hT.chg bf)) fun _ => Eq.refl _
 ·intro a w hT
  refine overN_of rfl ?_
  have hAp := hT.ag q [] trivial (by kernel_rfl)
  have hAp := hAp.add (t := 24) (v := Sl.v l) (hT.vals 9 rfl 24 rfl)
  exact ovr hAp rfl (r_len (hAp.get rfl) tU22) fun _ => Eq.refl _
 ·intro a w hT
  refine overN_of rfl ?_
  have hAp := hT.ag q [] trivial (by kernel_rfl)
  have hAp := hAp.add (t := 25) (v := .int .i64 (l.n : Int)) (hT.vals 10 rfl 25 rfl)
  exact ovr hAp rfl (r_build (vs := #[(0, .int .i64 0), (1, .int .i64 (l.n : Int))]) (cells := #[.int .i64 0, .int .i64 (l.n : Int)]) (map_arr2 (ml2_cons rfl (ml2_cons (hAp.get rfl) (ml2_nil)))) ti_129 Try.underlying129 pl_129 (by kernel_rfl)) fun _ => Eq.refl _
 ·intro d8 y aY cm bK cn
  have co := cm [(6, .pointer k)] ⟨rfl, trivial⟩ (by kernel_rfl)
  obtain ⟨f, bg, bi, bL⟩ := bK 12 rfl 7 rfl
  have cp := co.add bL
  obtain ⟨g, cq, bM, bN⟩ := bK 13 rfl 8 rfl
  have r := cp.add bN
  have bj : f ≠ g := by have h := cn 12 13 rfl 7 8 rfl rfl; rw [bL, bN] at h; exact h
  have d9 : Chg [] s y := aY
  have bO := Ext.cell aY bb
  have bP := Ext.cell aY bf
  have cr := ch y f g aY bg bi cq bM
  refine oneF (c := 14) r rfl (by kernel_rfl) (constF ⟨fun _ _ _ h => h, fun _ _ _ h => h, fun _ _ _ h => h, fun _ _ _ h => h, fun _ _ _ h => h, fun _ _ _ h => h, fun _ _ _ h => h, fun _ _ _ h => h, fun _ _ _ h => h, fun _ _ _ h => h, fun _ _ _ h => h, fun _ _ _ h => h, trivial⟩) ⟨?_, ?_, ?_, ?_, ?_, ?_, ?_, ?_, ?_, ?_, ?_, ?_, trivial⟩ ?_
  ·intro a hT
   have hAp := hT.ag r [(6, .pointer k)] ⟨rfl, trivial⟩ (by kernel_rfl)
   exact opk_val hAp rfl (r_move (hAp.get rfl)) fun _ _ e => ⟨_, e, rfl, fun _ => Eq.refl _⟩
  ·intro a hT
   have hAp := hT.ag r [] trivial (by kernel_rfl)
   have hAp := hAp.add (t := 15) (v := .pointer k) (hT.vals 0 rfl 15 rfl)
   exact opk_val hAp rfl (r_nilCheckP (((hAp.get rfl)).trans (congrArg Value.pointer bH))) fun _ _ e => ⟨_, e, rfl, fun _ => Eq.refl _⟩
  ·intro a hT
   have hAp := hT.ag r [] trivial (by kernel_rfl)
   have hAp := hAp.add (t := 16) (v := .pointer (some x)) (hT.vals 1 rfl 16 rfl)
   exact opk_val hAp rfl (r_fieldAddr (hAp.get rfl) Try.underlying127 rfl ti_22 (by decide)) fun _ _ e => ⟨_, e, rfl, fun _ => Eq.refl _⟩
  ·intro a hT
   have hAp := hT.ag r [] trivial (by kernel_rfl)
   have hAp := hAp.add (t := 17) (v := .pointer (some (x.add 2))) (hT.vals 2 rfl 17 rfl)
   exact opk_val hAp rfl (r_load1 tU22 rfl (hAp.get rfl) (Ext.cell hT.chg bO)) fun _ _ e => ⟨_, e, rfl, fun _ => Eq.refl _⟩
  ·intro a hT
   have hAp := hT.ag r [] trivial (by kernel_rfl)
   have hAp := hAp.add (t := 18) (v := Sl.v m) (hT.vals 3 rfl 18 rfl)
   exact opk_val hAp rfl (r_len (hAp.get rfl) tU22) fun _ _ e => ⟨_, e, rfl, fun _ => Eq.refl _⟩
  ·intro a hT
   have hAp := hT.ag r [] trivial (by kernel_rfl)
   have hAp := hAp.add (t := 19) (v := .int .i64 (m.n : Int)) (hT.vals 4 rfl 19 rfl)
   exact opk_val hAp rfl (r_build (vs := #[(0, .int .i64 0), (1, .int .i64 (m.n : Int))]) (cells := #[.int .i64 0, .int .i64 (m.n : Int)]) (map_arr2 (ml2_cons rfl (ml2_cons (hAp.get rfl) (ml2_nil)))) ti_129 Try.underlying129 pl_129 (by kernel_rfl)) fun _ _ e => ⟨_, e, rfl, fun _ => Eq.refl _⟩
  ·intro a hT
   have hAp := hT.ag r [(6, .pointer k)] ⟨rfl, trivial⟩ (by kernel_rfl)
   exact opk_val hAp rfl (r_move (hAp.get rfl)) fun _ _ e => ⟨_, e, rfl, fun _ => Eq.refl _⟩
  ·intro a hT
   have hAp := hT.ag r [] trivial (by kernel_rfl)
   have hAp := hAp.add (t := 21) (v := .pointer k) (hT.vals 6 rfl 21 rfl)
   exact opk_val hAp rfl (r_nilCheckP (((hAp.get rfl)).trans (congrArg Value.pointer bd))) fun _ _ e => ⟨_, e, rfl, fun _ => Eq.refl _⟩
  ·intro a hT
   have hAp := hT.ag r [] trivial (by kernel_rfl)
   have hAp := hAp.add (t := 22) (v := .pointer (some u)) (hT.vals 7 rfl 22 rfl)
   exact opk_val hAp rfl (r_fieldAddr (hAp.get rfl) Try.underlying127 rfl ti_22 (by decide)) fun _ _ e => ⟨_, e, rfl, fun _ => Eq.refl _⟩
  ·intro a hT
   have hAp := hT.ag r [] trivial (by kernel_rfl)
   have hAp := hAp.add (t := 23) (v := .pointer (some (u.add 3))) (hT.vals 8 rfl 23 rfl)
   exact opk_val hAp rfl (r_load1 tU22 rfl (hAp.get rfl) (Ext.cell hT.chg bP)) fun _ _ e => ⟨_, e, rfl, fun _ => Eq.refl _⟩
  ·intro a hT
   have hAp := hT.ag r [] trivial (by kernel_rfl)
   have hAp := hAp.add (t := 24) (v := Sl.v l) (hT.vals 9 rfl 24 rfl)
   exact opk_val hAp rfl (r_len (hAp.get rfl) tU22) fun _ _ e => ⟨_, e, rfl, fun _ => Eq.refl _⟩
  ·intro a hT
   have hAp := hT.ag r [] trivial (by kernel_rfl)
   have hAp := hAp.add (t := 25) (v := .int .i64 (l.n : Int)) (hT.vals 10 rfl 25 rfl)
   exact opk_val hAp rfl (r_build (vs := #[(0, .int .i64 0), (1, .int .i64 (l.n : Int))]) (cells := #[.int .i64 0, .int .i64 (l.n : Int)]) (map_arr2 (ml2_cons rfl (ml2_cons (hAp.get rfl) (ml2_nil)))) ti_129 Try.underlying129 pl_129 (by kernel_rfl)) fun _ _ e => ⟨_, e, rfl, fun _ => Eq.refl _⟩
  ·intro ct hT
   have cu := hT.ag r [(6, .pointer k), (7, pB f 0), (8, pB g 0)] ⟨rfl, rfl, rfl, trivial⟩ (by kernel_rfl)
   have cv : ct.tmps.getD 20 undef = .agg #[.int .i64 0, .int .i64 (m.n : Int)] := hT.vals 5 rfl 20 rfl
   have bk := cu.add cv
   refine opk_storeF bk bi (r_store (vs := [.int .i64 0, .int .i64 (m.n : Int)]) (bk.get rfl) (bk.get rfl) rfl ti_129 bi rfl (ones_all _ rfl)) fun bQ aZ cx cy => ⟨undef, Eq.refl _, ?_⟩
   have cz : Box bQ f 129 [.int .i64 0, .int .i64 (m.n : Int)] := cx
   have cA := bM.keep aZ (by simpa using bj.symm)
   have cB : Chg [f] y bQ := aZ
   have fa := Chg.cell aZ bO (cell_apart bb bg)
   have bR := Chg.cell aZ bP (cell_apart bf bg)
   refine PRF_drop (X := [0, 1, 2, 3, 4, 5]) (Fs' := [6, 7, 8, 9, 10, 11]) cy (by kernel_rfl) fun fb cC fc => ?_
   have ad := cC [(6, .pointer k), (7, pB f 0), (8, pB g 0)] ⟨rfl, rfl, rfl, trivial⟩ (by kernel_rfl)
   refine joinF ad (by kernel_rfl) ⟨fun _ _ _ _ h => h, fun _ _ _ _ h => h, fun _ _ _ _ h => h, fun _ _ _ _ h => h, fun _ _ _ _ h => h, fun _ _ _ _ h => h, trivial⟩ ⟨?_, ?_, ?_, ?_, ?_, ?_, trivial⟩ ?_
   ·intro a w hT
    have hAp := hT.ag ad [(6, .pointer k)] ⟨rfl, trivial⟩ (by kernel_rfl)
    exact ovr hAp rfl (r_move (hAp.get rfl)) fun _ => Eq.refl _
   ·intro a w hT
    have hAp := hT.ag ad [] trivial (by kernel_rfl)
    have hAp := hAp.add (t := 21) (v := .pointer k) (hT.vals 6 rfl 21 rfl)
    exact ovr hAp rfl (r_nilCheckP (((hAp.get rfl)).trans (congrArg Value.pointer bd))) fun _ => Eq.refl _
   ·intro a w hT
    have hAp := hT.ag ad [] trivial (by kernel_rfl)
    have hAp := hAp.add (t := 22) (v := .pointer (some u)) (hT.vals 7 rfl 22 rfl)
    exact ovr hAp rfl (r_fieldAddr (hAp.get rfl) Try.underlying127 rfl ti_22 (by decide)) fun _ => Eq.refl _
   ·intro a w hT
    have hAp := hT.ag ad [] trivial (by kernel_rfl)
    have hAp := hAp.add (t := 23) (v := .pointer (some (u.add 3))) (hT.vals 8 rfl 23 rfl)
    exact ovr hAp rfl (r_load1 tU22 rfl (hAp.get rfl) (Ext.cell hT.chg bR)) fun _ => Eq.refl _
   ·intro a w hT
    have hAp := hT.ag ad [] trivial (by kernel_rfl)
    have hAp := hAp.add (t := 24) (v := Sl.v l) (hT.vals 9 rfl 24 rfl)
    exact ovr hAp rfl (r_len (hAp.get rfl) tU22) fun _ => Eq.refl _
   ·intro a w hT
    have hAp := hT.ag ad [] trivial (by kernel_rfl)
    have hAp := hAp.add (t := 25) (v := .int .i64 (l.n : Int)) (hT.vals 10 rfl 25 rfl)
    exact ovr hAp rfl (r_build (vs := #[(0, .int .i64 0), (1, .int .i64 (l.n : Int))]) (cells := #[.int .i64 0, .int .i64 (l.n : Int)]) (map_arr2 (ml2_cons rfl (ml2_cons (hAp.get rfl) (ml2_nil)))) ti_129 Try.underlying129 pl_129 (by kernel_rfl)) fun _ => Eq.refl _
   ·intro cD fd a0 cF cG
    have cH := cF [(6, .pointer k), (7, pB f 0), (8, pB g 0)] ⟨rfl, rfl, rfl, trivial⟩ (by kernel_rfl)
    have cI : cD.tmps.getD 26 undef = .agg #[.int .i64 0, .int .i64 (l.n : Int)] := cG 11 rfl 26 rfl
    have bl := cH.add cI
    have cJ := cz.ext a0
    have bS := cA.ext a0
    have cK := cB.more a0
    have ff := Ext.cell a0 bR
    refine one (D := ba) (i := 15) rfl (by kernel_rfl) (opk_store bl bS (r_store (vs := [.int .i64 0, .int .i64 (l.n : Int)]) (bl.get rfl) (bl.get rfl) rfl ti_129 bS rfl (ones_all _ rfl)) fun fg aP bT cL cM => ?_)
    have cN : Box aP g 129 [.int .i64 0, .int .i64 (l.n : Int)] := cL
    have cO := cJ.keep bT (by simpa using bj)
    have cP := cK.storeOld bT
    refine PR_end (by kernel_rfl) ?_
    have cQ := cM.kp [(6, .pointer k), (7, pB f 0), (8, pB g 0)] rfl
    refine gK (bs := [(g, 129, [.int .i64 0, .int .i64 (l.n : Int)]), (f, 129, [.int .i64 0, .int .i64 (m.n : Int)])]) (N := []) cQ cP ⟨cN, cO, trivial⟩ (by simp [(Ne.symm bj)]) trivial (by simp) cr ?_
    refine tn <| gS <| gR <| gM ?_
    refine gBN 1 2 Try.underlying129 ti_129 ?_
    refine gBN 0 2 Try.underlying129 ti_129 <| gT0 ?_
    refine gC [1, 0] Try.func76 fun _ bB => gE fun j => gQ ?_
    refine gN <| ge <| tn <| gS <| gS <| gR ?_
    refine gN <| ge <| tn <| gb <| gE fun _ => gE fun mu => ?_
    refine l1 mu (fun p => [(10, .int .i64 p)]) [(6, _), (7, _), (8, _), (9, _)] (fun _ => []) [(f, _, _), (g, _, _)] [1, 0] fun p au _ => gS <| gS <| gR ?_
    refine gM ?_
    refine gM ?_
    refine g1 (fun cR => r_len cR tU29) ?_
    refine g2 r_lss <| ge <| tn ?_
    refine gi dT dF ?_ ?_
    ·refine gk <| tn <| gS <| gb <| gS <| gR <| gM ?_
     refine gN <| ge <| tn <| gb <| gE fun _ => gE fun mu => ?_
     refine l1 mu (fun d => [(11, .int .i64 d)]) [(6, _), (7, _), (8, _), (9, _), (10, _)] (fun _ => []) [(f, _, _), (g, _, _)] [0, 1] fun d aQ _ => gS <| gS ?_
     refine gD fun af => gT0 ?_
     refine gW 0 16 [] ?_
     refine gM ?_
     refine g2 r_gtr ?_
     refine gM ?_
     refine G1 r_move ?_
     refine G1 r_move ?_
     refine GI2 tU29 ti_40 (fun hg => (dT (g_t hg))) fun a5 => ?_
     refine GF 0 Try.underlying40 ti_3 ?_
     refine gE fun av => GLd tU3 (fun hg => (dT (g_t hg))) ?_
     refine G1 r_move ?_
     refine G1 r_move ?_
     refine G2s r_subI (fun hg => (dT (g_t hg))) ?_
     refine GI2 tU29 ti_40 (fun hg => (dT (g_t hg))) fun a6 => ?_
     refine GF 0 Try.underlying40 ti_3 ?_
     refine gE fun ax => GLd tU3 (fun hg => (dT (g_t hg))) ?_
     refine G2 r_lss ?_
     refine gpa <| geT fun aX => ?_
     refine gZ <| tn ?_
     refine gi (fun h => ⟨(dT (aT h).1), (dT (aT h).2)⟩) (fun h => ((aF h).imp (fun h => (dF h)) (fun h => (dF h)))) ?_ ?_
     ·refine gk <| tn <| gS <| gb ?_
      intro fh aC cS
      have o := aC.ag
      have cT := aC.bx 0 rfl
      have cU := aC.bx 1 rfl
      have cX := aC.chg
      have cY : f ≠ g := aC.ne 0 1
      let bo : List (List Nat) := [[], [], [], [], [3], [], [], [6], [5, 6, 7], [5, 6, 7, 8], [], [], [10, 11], [10, 11, 12], [0, 1, 5, 6, 7, 8, 9, 10, 11, 12, 13], [0, 1, 5, 6, 7, 8, 9, 10, 11, 12, 13, 14], [0, 1, 2, 3, 4, 5, 6, 7, 8, 9, 10, 11, 12, 13, 14, 15], [0, 1, 2, 3, 4, 5, 6, 7, 8, 9, 10, 11, 12, 13, 14, 15, 16]]
      refine draw' (by kernel_rfl) fun ab bp => ?_
      have cZ := cT.ext bp
      have c0 := cU.ext bp
      have c1 := cX.more bp
      have c2 := cS ab    c1
      obtain ⟨bU, c3⟩ := c2
      obtain ⟨c4, c5⟩ := c3
      obtain ⟨ay, bV, c6⟩ := c5
      obtain ⟨ah, ai, c7, c8⟩ := c6
      obtain ⟨az, bX, c9⟩ := c8
      obtain ⟨z, aa, da, db⟩ := c9
      obtain ⟨aA, bY, dc⟩ := db
      refine startF (D := bo) (Fs := [0, 1, 2, 3, 4, 5, 6, 7, 8, 9, 10, 11, 12, 13, 14]) (Ef := [(0, fun v _ => v = Sl.v j), (1, fun v _ => v = .int .i64 d), (2, fun v _ => v = Sl.v j), (3, fun v _ => v = .int .i64 d), (4, fun v _ => v = .int .i64 (d - 1)), (5, fun v _ => v = Sl.v j), (6, fun v _ => v = .int .i64 d), (7, fun v _ => v = .int .i64 (d - 1)), (8, fun v _ => v = .pointer (some (ay.add ((d - 1).toNat * 2)))), (9, fun v _ => v = .agg #[.int .i64 ah, .int .i64 ai]), (10, fun v _ => v = Sl.v j), (11, fun v _ => v = .int .i64 d), (12, fun v _ => v = .pointer (some (az.add (d.toNat * 2)))), (13, fun v _ => v = .agg #[.int .i64 z, .int .i64 aa]), (14, fun v _ => v = .pointer (some (aA.add (d.toNat * 2))))]) (by kernel_rfl) ?_
      refine oneF (c := 15) o rfl (by kernel_rfl) (constF ⟨fun _ _ _ h => h, fun _ _ _ h => h, fun _ _ _ h => h, fun _ _ _ h => h, fun _ _ _ h => h, fun _ _ _ h => h, fun _ _ _ h => h, fun _ _ _ h => h, fun _ _ _ h => h, fun _ _ _ h => h, fun _ _ _ h => h, fun _ _ _ h => h, fun _ _ _ h => h, fun _ _ _ h => h, fun _ _ _ h => h, trivial⟩) ⟨?_, ?_, ?_, ?_, ?_, ?_, ?_, ?_, ?_, ?_, ?_, ?_, ?_, ?_, ?_, trivial⟩ ?_
      ·intro a hT
       have hAp := hT.ag o [(9, Sl.v j)] ⟨rfl, trivial⟩ (by kernel_rfl)
       exact opk_val hAp rfl (r_move (hAp.get rfl)) fun _ _ e => ⟨_, e, rfl, fun _ => Eq.refl _⟩
      ·intro a hT
       have hAp := hT.ag o [(11, .int .i64 d)] ⟨rfl, trivial⟩ (by kernel_rfl)
       exact opk_val hAp rfl (r_move (hAp.get rfl)) fun _ _ e => ⟨_, e, rfl, fun _ => Eq.refl _⟩
      ·intro a hT
       have hAp := hT.ag o [(9, Sl.v j)] ⟨rfl, trivial⟩ (by kernel_rfl)
       exact opk_val hAp rfl (r_move (hAp.get rfl)) fun _ _ e => ⟨_, e, rfl, fun _ => Eq.refl _⟩
      ·intro a hT
       have hAp := hT.ag o [(11, .int .i64 d)] ⟨rfl, trivial⟩ (by kernel_rfl)
       exact opk_val hAp rfl (r_move (hAp.get rfl)) fun _ _ e => ⟨_, e, rfl, fun _ => Eq.refl _⟩
      ·intro a hT
       have hAp := hT.ag o [] trivial (by kernel_rfl)
       have hAp := hAp.add (t := 59) (v := .int .i64 d) (hT.vals 3 rfl 59 rfl)
       exact opk_val hAp rfl (r_subI (hAp.get rfl) rfl bU) fun _ _ e => ⟨_, e, rfl, fun _ => Eq.refl _⟩
      ·intro a hT
       have hAp := hT.ag o [(9, Sl.v j)] ⟨rfl, trivial⟩ (by kernel_rfl)
       exact opk_val hAp rfl (r_move (hAp.get rfl)) fun _ _ e => ⟨_, e, rfl, fun _ => Eq.refl _⟩
      ·intro a hT
       have hAp := hT.ag o [(11, .int .i64 d)] ⟨rfl, trivial⟩ (by kernel_rfl)
       exact opk_val hAp rfl (r_move (hAp.get rfl)) fun _ _ e => ⟨_, e, rfl, fun _ => Eq.refl _⟩
      ·intro a hT
       have hAp := hT.ag o [] trivial (by kernel_rfl)
       have hAp := hAp.add (t := 62) (v := .int .i64 d) (hT.vals 6 rfl 62 rfl)
       exact opk_val hAp rfl (r_subI (hAp.get rfl) rfl c4) fun _ _ e => ⟨_, e, rfl, fun _ => Eq.refl _⟩
      ·intro a hT
       have hAp := hT.ag o [] trivial (by kernel_rfl)
       have hAp := hAp.add (t := 61) (v := Sl.v j) (hT.vals 5 rfl 61 rfl)
       have hAp := hAp.add (t := 63) (v := .int .i64 (d - 1)) (hT.vals 7 rfl 63 rfl)
       exact opk_val hAp rfl (r_indexAddr (hAp.get rfl) (hAp.get rfl) tU29 ti_40 bV.1 bV.2) fun _ _ e => ⟨_, e, rfl, fun _ => Eq.refl _⟩
      ·intro a hT
       have hAp := hT.ag o [] trivial (by kernel_rfl)
       have hAp := hAp.add (t := 64) (v := .pointer (some (ay.add ((d - 1).toNat * 2)))) (hT.vals 8 rfl 64 rfl)
       exact opk_val hAp rfl (r_loadN Try.underlying40 rfl ti_40 (hAp.get rfl) (c7.ext hT.chg)) fun _ _ e => ⟨_, e, rfl, fun _ => Eq.refl _⟩
      ·intro a hT
       have hAp := hT.ag o [(9, Sl.v j)] ⟨rfl, trivial⟩ (by kernel_rfl)
       exact opk_val hAp rfl (r_move (hAp.get rfl)) fun _ _ e => ⟨_, e, rfl, fun _ => Eq.refl _⟩
      ·intro a hT
       have hAp := hT.ag o [(11, .int .i64 d)] ⟨rfl, trivial⟩ (by kernel_rfl)
       exact opk_val hAp rfl (r_move (hAp.get rfl)) fun _ _ e => ⟨_, e, rfl, fun _ => Eq.refl _⟩
      ·intro a hT
       have hAp := hT.ag o [] trivial (by kernel_rfl)
       have hAp := hAp.add (t := 66) (v := Sl.v j) (hT.vals 10 rfl 66 rfl)
       have hAp := hAp.add (t := 67) (v := .int .i64 d) (hT.vals 11 rfl 67 rfl)
       exact opk_val hAp rfl (r_indexAddr (hAp.get rfl) (hAp.get rfl) tU29 ti_40 bX.1 bX.2) fun _ _ e => ⟨_, e, rfl, fun _ => Eq.refl _⟩
      ·intro a hT
       have hAp := hT.ag o [] trivial (by kernel_rfl)
       have hAp := hAp.add (t := 68) (v := .pointer (some (az.add (d.toNat * 2)))) (hT.vals 12 rfl 68 rfl)
       exact opk_val hAp rfl (r_loadN Try.underlying40 rfl ti_40 (hAp.get rfl) (da.ext hT.chg)) fun _ _ e => ⟨_, e, rfl, fun _ => Eq.refl _⟩
      ·intro a hT
       have hAp := hT.ag o [] trivial (by kernel_rfl)
       have hAp := hAp.add (t := 56) (v := Sl.v j) (hT.vals 0 rfl 56 rfl)
       have hAp := hAp.add (t := 57) (v := .int .i64 d) (hT.vals 1 rfl 57 rfl)
       exact opk_val hAp rfl (r_indexAddr (hAp.get rfl) (hAp.get rfl) tU29 ti_40 bY.1 bY.2) fun _ _ e => ⟨_, e, rfl, fun _ => Eq.refl _⟩
      ·intro bZ hT
       have dd := hT.ag o [(6, .pointer k), (7, pB f 0), (8, pB g 0), (9, Sl.v j), (10, .int .i64 p), (11, .int .i64 d), (53, .bool ((decide (0 < d)) && (decide (av < ax))))] ⟨rfl, rfl, rfl, rfl, rfl, rfl, rfl, trivial⟩ (by kernel_rfl)
       have df : bZ.tmps.getD 65 undef = .agg #[.int .i64 ah, .int .i64 ai] := hT.vals 9 rfl 65 rfl
       have dg := dd.add df
       have dh : bZ.tmps.getD 70 undef = .pointer (some (aA.add (d.toNat * 2))) := hT.vals 14 rfl 70 rfl
       have bq := dg.add dh
       obtain ⟨aj, aR, a7, aS, di, b0, dj, b1, dk⟩ := dc
       refine opk_storeF bq b0 (r_store (vs := [.int .i64 ah, .int .i64 ai]) (((bq.get rfl)).trans (congrArg (fun a => Value.pointer (some a)) di)) (bq.get rfl) rfl ti_40 b0 (Nat.ble_eq_true_of_le dj) (ones_all _ rfl)) fun ak bt dl dm => ⟨undef, Eq.refl _, ?_⟩
       have dn := cZ.keep bt (by have := b1 f (by simp); simpa using this)
       have dp := c0.keep bt (by have := b1 g (by simp); simpa using this)
       have dq := dk ak bt dl
       refine PRF_drop (X := [0, 1, 5, 6, 7, 8, 9, 10, 11, 12, 13, 14]) (Fs' := [2, 3, 4]) dm (by kernel_rfl) fun dr ds dt => ?_
       have du := ds [(6, .pointer k), (7, pB f 0), (8, pB g 0), (9, Sl.v j), (10, .int .i64 p), (11, .int .i64 d)] ⟨rfl, rfl, rfl, rfl, rfl, rfl, trivial⟩ (by kernel_rfl)
       have dv : dr.tmps.getD 69 undef = .agg #[.int .i64 z, .int .i64 aa] := dt 13 rfl 69 rfl
       have a1 := du.add dv
       refine joinF a1 (by kernel_rfl) ⟨fun _ _ _ _ h => h, fun _ _ _ _ h => h, fun _ _ _ _ h => h, trivial⟩ ⟨?_, ?_, ?_, trivial⟩ ?_
       ·intro a w hT
        have hAp := hT.ag a1 [(9, Sl.v j)] ⟨rfl, trivial⟩ (by kernel_rfl)
        exact ovr hAp rfl (r_move (hAp.get rfl)) fun _ => Eq.refl _
       ·intro a w hT
        have hAp := hT.ag a1 [(11, .int .i64 d)] ⟨rfl, trivial⟩ (by kernel_rfl)
        exact ovr hAp rfl (r_move (hAp.get rfl)) fun _ => Eq.refl _
       ·intro a w hT
        have hAp := hT.ag a1 [] trivial (by kernel_rfl)
        have hAp := hAp.add (t := 59) (v := .int .i64 d) (hT.vals 3 rfl 59 rfl)
        exact ovr hAp rfl (r_subI (hAp.get rfl) rfl bU) fun _ => Eq.refl _
       ·intro b2 al bu dx b3
        have dy := dx [(6, .pointer k), (7, pB f 0), (8, pB g 0), (9, Sl.v j), (10, .int .i64 p), (11, .int .i64 d), (69, .agg #[.int .i64 z, .int .i64 aa])] ⟨rfl, rfl, rfl, rfl, rfl, rfl, rfl, trivial⟩ (by kernel_rfl)
        have dz : b2.tmps.getD 58 undef = Sl.v j := b3 2 rfl 58 rfl
        have dA := dy.add dz
        have dB : b2.tmps.getD 60 undef = .int .i64 (d - 1) := b3 4 rfl 60 rfl
        have b4 := dA.add dB
        have dC := dn.ext bu
        have dD := dp.ext bu
        have dG : Chg [] ak al := bu
        have dH := dq al    dG
        obtain ⟨aB, b5, dI⟩ := dH
        refine par (D := bo) (S := [16]) (F := []) (V := VL [(16, fun v _ => v = .pointer (some (aB.add ((d - 1).toNat * 2))))]) b4 (by kernel_rfl) ⟨fun _ _ _ _ h => h, trivial⟩ ⟨?_, trivial⟩ ?_
        ·intro a w hT
         have hAp := hT.ag b4 [(58, Sl.v j), (60, .int .i64 (d - 1))] ⟨rfl, rfl, trivial⟩ (by kernel_rfl)
         exact ovr hAp rfl (r_indexAddr (hAp.get rfl) (hAp.get rfl) tU29 ti_40 b5.1 b5.2) fun _ => Eq.refl _
        ·intro dJ am bv dK dL
         have dM := dK [(6, .pointer k), (7, pB f 0), (8, pB g 0), (9, Sl.v j), (10, .int .i64 p), (11, .int .i64 d), (69, .agg #[.int .i64 z, .int .i64 aa])] ⟨rfl, rfl, rfl, rfl, rfl, rfl, rfl, trivial⟩ (by kernel_rfl)
         have dN : dJ.tmps.getD 71 undef = .pointer (some (aB.add ((d - 1).toNat * 2))) := dL 16 rfl 71 rfl
         have bz := dM.add dN
         have dO := dC.ext bv
         have dP := dD.ext bv
         have dQ : Chg [] al am := bv
         have dR := dI am    dQ
         obtain ⟨an, aU, a8, aV, dS, b6, dU, b7, dV⟩ := dR
         refine one (D := bo) (i := 17) rfl (by kernel_rfl) (opk_store bz b6 (r_store (vs := [.int .i64 z, .int .i64 aa]) (((bz.get rfl)).trans (congrArg (fun a => Value.pointer (some a)) dS)) (bz.get rfl) rfl ti_40 b6 (Nat.ble_eq_true_of_le dU) (ones_all _ rfl)) fun fi ao bA dX dY => ?_)
         have dZ := dO.keep bA (by have := b7 f (by simp); simpa using this)
         have d0 := dP.keep bA (by have := b7 g (by simp); simpa using this)
         have d1 := dV ao bA dX
         refine PR_end (by kernel_rfl) ?_
         have d2 := dY.kp [(6, .pointer k), (7, pB f 0), (8, pB g 0), (9, Sl.v j), (10, .int .i64 p), (11, .int .i64 d)] rfl
         refine gK (bs := [(g, 129, [.int .i64 0, .int .i64 (l.n : Int)]), (f, 129, [.int .i64 0, .int .i64 (m.n : Int)])]) (N := []) d2 (Chg.refl [] _) ⟨d0, dZ, trivial⟩ (by simp [(Ne.symm cY)]) trivial (by simp) d1 ?_
         refine bn <| tn <| gR <| gM ?_
         refine g2s r_subI ?_
         refine gN <| ge ?_
         exact k1 [1, 0]
     ·refine gx <| te <| te <| bh <| bn <| tn <| gR <| gM ?_
      refine g2s r_addI ?_
      refine gN <| ge <| gT0 ?_
      exact k1 [0, 1]
    ·refine gx <| te <| te <| bh <| tn <| gS <| gR <| gM ?_
     refine gBN 0 2 Try.underlying129 ti_129 ?_
     refine gBN 1 2 Try.underlying129 ti_129 ?_
     refine gC [0, 1] Try.func77 fun _ bF => gE fun a9 => gQ ?_
     refine gM ?_
     refine gN ?_
     refine gN <| ge <| tn <| gr ?_
     exact gz2
def ref20_New.vc (y : Int) (z : Str) (aa : Str) (ab : Sl) (ad : Sl) (af : Int) (ag : Str) (ah : Str) (ai : Sl) (aj : Sl) (R : Value → World → Prop) (w : World) : Prop :=
∀ (a : World) (ap : Nat) (aq : Nat), New w ap a → New w aq a → ap ≠ aq → Chg [] w a →
∃ l : Sl → World → Prop, (∀ b : Sl, ∀ w' w'' : World, Ext w' w'' → l b w' → l b w'') ∧
(∀ w' : World, Ext a w' → Calls Try.prog 11 #[.agg #[.int .i64 y, .string (Bs z), .string (Bs aa), Sl.v ab, Sl.v ad]] w' (Ret fun v w'' => Ext w' w'' ∧ ∃ b : Sl, v = Sl.v b ∧ l b w'')) ∧
∃ m : Sl → World → Prop, (∀ c : Sl, ∀ w' w'' : World, Ext w' w'' → m c w' → m c w'') ∧
(∀ w' : World, Ext a w' → Calls Try.prog 11 #[.agg #[.int .i64 af, .string (Bs ag), .string (Bs ah), Sl.v ai, Sl.v aj]] w' (Ret fun v w'' => Ext w' w'' ∧ ∃ c : Sl, v = Sl.v c ∧ m c w'')) ∧
∃ n : Sl → World → Prop, (∀ d : Sl, ∀ w' w'' : World, Ext w' w'' → n d w' → n d w'') ∧
(∀ w' : World, Ext a w' → Calls Try.prog 30 #[.agg #[.int .i64 y, .string (Bs z), .string (Bs aa), Sl.v ab, Sl.v ad]] w' (Ret fun v w'' => Ext w' w'' ∧ ∃ d : Sl, v = Sl.v d ∧ n d w'')) ∧
∃ o : Sl → World → Prop, (∀ f : Sl, ∀ w' w'' : World, Ext w' w'' → o f w' → o f w'') ∧
(∀ w' : World, Ext a w' → Calls Try.prog 30 #[.agg #[.int .i64 af, .string (Bs ag), .string (Bs ah), Sl.v ai, Sl.v aj]] w' (Ret fun v w'' => Ext w' w'' ∧ ∃ f : Sl, v = Sl.v f ∧ o f w'')) ∧
∀ (k : World) (p : Sl) (q : Sl) (r : Sl) (t : Sl) (j : Nat), Ext a k → l p k → m q k → n r k → o t k → a.heap.size ≤ j → Box k j 127 [Sl.v p, Sl.v q, Sl.v r, Sl.v t, Sl.v Sl.nil, Sl.v Sl.nil, Sl.v Sl.nil, Sl.v Sl.nil] → 
∀ (ak : World), Chg [] k ak →
∃ u : Sl → World → Prop, (∀ g : Sl, ∀ w' w'' : World, Ext w' w'' → u g w' → u g w'') ∧
(∀ w' : World, Ext ak w' → Calls Try.prog 86 #[Sl.v p, Sl.v r] w' (Ret fun v w'' => Ext w' w'' ∧ ∃ g : Sl, v = Sl.v g ∧ u g w'')) ∧
∀ (al : World) (g : Sl), Ext ak al → u g al → 
∀ (am : World), Chg [j] al am →
∃ x : Sl → World → Prop, (∀ i : Sl, ∀ w' w'' : World, Ext w' w'' → x i w' → x i w'') ∧
(∀ w' : World, Ext am w' → Calls Try.prog 86 #[Sl.v q, Sl.v t] w' (Ret fun v w'' => Ext w' w'' ∧ ∃ i : Sl, v = Sl.v i ∧ x i w'')) ∧
∀ (an : World) (i : Sl), Ext am an → x i an → 
∀ (ao : World), Chg [j] an ao →
∀ (_ : Box ao j 127 [Sl.v p, Sl.v q, Sl.v r, Sl.v t, Sl.v g, Sl.v i, Sl.v Sl.nil, Sl.v Sl.nil]),
R (.pointer (some (⟨j, 0, none⟩ : Addr))) ao
theorem ref20_New.ok (y : Int) (z : Str) (aa : Str) (ab : Sl) (ad : Sl) (af : Int) (ag : Str) (ah : Str) (ai : Sl) (aj : Sl) {R : Value → World → Prop} {w : World} (ay : ref20_New.vc y z aa ab ad af ag ah ai aj R w) : Calls Try.prog 75 #[.agg #[.int .i64 y, .string (Bs z), .string (Bs aa), Sl.v ab, Sl.v ad], .agg #[.int .i64 af, .string (Bs ag), .string (Bs ah), Sl.v ai, Sl.v aj]] w (Ret R) := by
 refine go _ Try.func75 Try.ntmps75 ay ?_
 refine gS <| gR <| nb fun w4 ap => ?_
 refine nb fun w6 aq => ?_
 refine gN <| ge <| tn <| gS ?_
 refine gD fun a => gT2 <| gE fun l => gA fun ar => gA fun az => gE fun m => gA fun au => gA fun aA => gE fun n => gA fun av => gA fun aB => gE fun o => gA fun ax => gA fun aC => ?_
 refine gW 0 11 [(1, ⟨Sl, default, fun s => Sl.v s, fun s w => l s w, ar⟩), (3, ⟨Sl, default, fun s => Sl.v s, fun s w => m s w, au⟩), (5, ⟨Sl, default, fun s => Sl.v s, fun s w => n s w, av⟩), (7, ⟨Sl, default, fun s => Sl.v s, fun s w => o s w, ax⟩), (9, ⟨Sl × Sl × Sl × Sl × Nat, default, fun s => (fun B => .pointer (some ⟨B, 0, none⟩)) s.2.2.2.2, fun s w' => l s.1 w' ∧ m s.2.1 w' ∧ n s.2.2.1 w' ∧ o s.2.2.2.1 w' ∧ a.heap.size ≤ s.2.2.2.2 ∧ Box w' s.2.2.2.2 127 [Sl.v s.1, Sl.v s.2.1, Sl.v s.2.2.1, Sl.v s.2.2.2.1, Sl.v Sl.nil, Sl.v Sl.nil, Sl.v Sl.nil, Sl.v Sl.nil], fun s w' w'' hE h => ⟨(ar s.1 w' w'' hE h.1), (au s.2.1 w' w'' hE h.2.1), (av s.2.2.1 w' w'' hE h.2.2.1), (ax s.2.2.2.1 w' w'' hE h.2.2.2.1), h.2.2.2.2.1, h.2.2.2.2.2.ext hE⟩⟩)] ?_
 refine gBN 1 5 Try.underlying26 ti_26 ?_
 refine yc rfl Try.func11 (fun w' hE _ => az w' hE) (fun _ _ h => h) fun b => ?_
 refine gBN 0 5 Try.underlying26 ti_26 ?_
 refine yc rfl Try.func11 (fun w' hE _ => aA w' hE) (fun _ _ h => h) fun c => ?_
 refine gBN 1 5 Try.underlying26 ti_26 ?_
 refine yc rfl Try.func30 (fun w' hE _ => aB w' hE) (fun _ _ h => h) fun d => ?_
 refine gBN 0 5 Try.underlying26 ti_26 ?_
 refine yc rfl Try.func30 (fun w' hE _ => aC w' hE) (fun _ _ h => h) fun f => ?_
 refine gbK #[Sl.v b, Sl.v c, Sl.v d, Sl.v f, Sl.v Sl.nil, Sl.v Sl.nil, Sl.v Sl.nil, Sl.v Sl.nil] ti_127 Try.underlying127 pl_127 ?_
 refine yn (fun B => .pointer (some ⟨B, 0, none⟩)) (cs := [Sl.v b, Sl.v c, Sl.v d, Sl.v f, Sl.v Sl.nil, Sl.v Sl.nil, Sl.v Sl.nil, Sl.v Sl.nil]) rfl (fun _ hA _ => r_box (hA.opv rfl) rfl) (fun _ _ B _ hF hA' h1 h2 => ⟨(b, c, d, f, B), rfl, (ar b _ _ hA' (hF.2.2.2.1 (by kernel_rfl))), (au c _ _ hA' (hF.2.2.1 (by kernel_rfl))), (av d _ _ hA' (hF.2.1 (by kernel_rfl))), (ax f _ _ hA' (hF.1 (by kernel_rfl))), h1, h2⟩) fun ⟨p, q, r, t, j⟩ => ?_
 refine gN ?_
 refine eB (B := j) (T := 127) (cs := [Sl.v p, Sl.v q, Sl.v r, Sl.v t, Sl.v Sl.nil, Sl.v Sl.nil, Sl.v Sl.nil, Sl.v Sl.nil]) (fun _ hF => ⟨hF.1.2.2.2.2.1, hF.1.2.2.2.2.2⟩) (fun v w' hE hF => v w' p q r t j hE hF.1.1 hF.1.2.1 hF.1.2.2.1 hF.1.2.2.2.1 hF.1.2.2.2.2.1 hF.1.2.2.2.2.2) fun k => ?_
 refine gZ <| tn <| gS ?_
 refine gD fun ak => gT0 <| gE fun u => gA fun aH => gA fun aI => ?_
 refine gW 0 12 [(9, ⟨Sl, default, fun s => Sl.v s, fun s w => u s w, aH⟩)] ?_
 refine gM ?_
 refine gM ?_
 refine g1 r_nilCheck ?_
 refine gF 0 Try.underlying127 ti_31 ?_
 refine gB 0 tU31 ?_
 refine gM ?_
 refine g1 r_nilCheck ?_
 refine gF 2 Try.underlying127 ti_22 ?_
 refine gB 0 tU22 ?_
 refine yc rfl Try.func86 (fun w' hE _ => aI w' hE) (fun _ _ h => h) fun g => ?_
 refine g1 r_nilCheck ?_
 refine gF 4 Try.underlying127 ti_22 ?_
 refine eF (fun v w' hE hF => v w' g hE hF.1) fun al => ?_
 refine gO 12 ?_
 refine wo 0 ti_22 fun aN => geO ?_
 refine gZ <| tn <| gS ?_
 refine gD fun am => gT0 <| gE fun x => gA fun aJ => gA fun aK => ?_
 refine gW 0 12 [(9, ⟨Sl, default, fun s => Sl.v s, fun s w => x s w, aJ⟩)] ?_
 refine gM ?_
 refine gM ?_
 refine g1 r_nilCheck ?_
 refine gF 1 Try.underlying127 ti_31 ?_
 refine gB 0 tU31 ?_
 refine gM ?_
 refine g1 r_nilCheck ?_
 refine gF 3 Try.underlying127 ti_22 ?_
 refine gB 0 tU22 ?_
 refine yc rfl Try.func86 (fun w' hE _ => aK w' hE) (fun _ _ h => h) fun i => ?_
 refine g1 r_nilCheck ?_
 refine gF 5 Try.underlying127 ti_22 ?_
 refine eF (fun v w' hE hF => v w' i hE hF.1) fun an => ?_
 refine gO 12 ?_
 refine wo 0 ti_22 fun ao => geO ?_
 refine gZ <| tn <| gS <| gR ?_
 refine gM ?_
 refine gN <| ge <| tn <| gr <| gT0 ?_
 refine gX 0 ?_
 exact gz1
def ref20_Z_Mapping.vc (b : Addr) (y : Sl) (s : Int) (p : Int) (u : Int) (q : Int) (R : Value → World → Prop) (w : World) : Prop :=
(((s = p) ∨ (u = q)) →
∀ (w8 : World) (k : Nat) (l : Nat), New w k w8 → New w l w8 → k ≠ l → Chg [] w w8 →
R (Sl.v y) w8) ∧
(((¬ (s = p)) ∧ (¬ (u = q))) →
∀ (w8 : World) (k : Nat) (l : Nat), New w k w8 → New w l w8 → k ≠ l → Chg [] w w8 →
CallK Try.prog 77 #[.pointer (some b), .agg #[.int .i64 s, .int .i64 p], .agg #[.int .i64 u, .int .i64 q]] w8 [k, l] (fun v bv => ∃ (o : Int), v = .int .i64 o ∧
CallK Try.prog 87 #[.pointer (some b), .agg #[.int .i64 s, .int .i64 p], .agg #[.int .i64 u, .int .i64 q]] bv [k, l] (fun v aG => ∃ (ah : Int) (ai : Int) (aj : Int) (ak : Int) (aa : Int) (ab : Int) (ad : Int) (af : Int), v = .tuple #[.agg #[.int .i64 ah, .int .i64 ai], .agg #[.int .i64 aj, .int .i64 ak], .agg #[.int .i64 aa, .int .i64 ab], .agg #[.int .i64 ad, .int .i64 af]] ∧
∀ (ax : World) (g : Nat) (j : Nat) (d : Nat) (f : Nat), New aG g ax → New aG j ax → New aG d ax → New aG f ax → g ≠ j → g ≠ d → g ≠ f → j ≠ d → j ≠ f → d ≠ f → Chg [] aG ax →
CallK Try.prog 77 #[.pointer (some b), .agg #[.int .i64 ah, .int .i64 ai], .agg #[.int .i64 aj, .int .i64 ak]] ax [k, l, g, j, d, f] (fun v bz => ∃ (r : Int), v = .int .i64 r ∧
CallK Try.prog 77 #[.pointer (some b), .agg #[.int .i64 aa, .int .i64 ab], .agg #[.int .i64 ad, .int .i64 af]] bz [k, l, g, j, d, f] (fun v aL => ∃ (x : Int), v = .int .i64 x ∧
(I64 (r + x)) ∧
∃ (z : Int), (∀ w' : World, Ext aL w' → Calls Try.prog 88 #[.pointer (some b), .agg #[.int .i64 s, .int .i64 p], .agg #[.int .i64 u, .int .i64 q]] w' (Ret fun v w'' => Ext w' w'' ∧ v = .int .i64 z)) ∧
(I64 ((r + x) + z)) ∧
((((r + x) + z) = o) →
∀ (aH : World), Chg [] aL aH →
CallK Try.prog 88 #[.pointer (some b), .agg #[.int .i64 s, .int .i64 p], .agg #[.int .i64 u, .int .i64 q]] aH [k, l, g, j, d, f] (fun v a8 => ∃ (aX : Int), v = .int .i64 aX ∧
∃ a9 : Sl → World → Prop,
(((aX < 3) →
∀ (ar : World), Chg [] a8 ar →
∃ (aY : Sl), (ar.cell? (b.add 2) = some (Sl.v aY)) ∧
(I64 (p - 1)) ∧
∃ ba : Addr, (((0 : Int) ≤ p - 1 ∧ p - 1 < (aY.n : Int)) ∧ aY.a = some ba) ∧
∃ (ay : Int), (ar.cell? (ba.add ((p - 1).toNat * 1)) = some (.int .i64 ay)) ∧
∃ (aZ : Sl), (ar.cell? (b.add 3) = some (Sl.v aZ)) ∧
(I64 (q - 1)) ∧
∃ bb : Addr, (((0 : Int) ≤ q - 1 ∧ q - 1 < (aZ.n : Int)) ∧ aZ.a = some bb) ∧
∃ (az : Int), (ar.cell? (bb.add ((q - 1).toNat * 1)) = some (.int .i64 az)) ∧
∀ (aM : World) (aA : Nat), Ext ar aM → ar.heap.size ≤ aA → Box aM aA 40 [.int .i64 ay, .int .i64 az] → 
∀ (_ : Box aM aA 40 [.int .i64 ay, .int .i64 az]),
RunK Try.prog (Builtin.append_ #[29, 29] 29 #[Sl.v y, Sl.v (Sl.mk (some ⟨aA, 0, none⟩) 1 1)]) aM [k, l, g, j, d, f] (fun v bA => ∃ (bd : Sl), v = Sl.v bd ∧
∀ (bf : World), Chg [] bA bf →
a9 bd bf)) ∧
((¬ (aX < 3)) →
a9 y a8)) ∧
(∀ (ap : Sl) (a0 : World), a9 ap a0 →
∀ (aN : World), Chg [] a0 aN →
CallK Try.prog 76 #[.pointer (some b), Sl.v ap, .agg #[.int .i64 ah, .int .i64 ai], .agg #[.int .i64 aj, .int .i64 ak]] aN [g, j, d, f] (fun v bg => ∃ (aI : Sl), v = Sl.v aI ∧
∀ (aO : World), Chg [] bg aO →
CallK Try.prog 76 #[.pointer (some b), Sl.v aI, .agg #[.int .i64 aa, .int .i64 ab], .agg #[.int .i64 ad, .int .i64 af]] aO [g, j, d, f] (fun v bi => ∃ (aB : Sl), v = Sl.v aB ∧
∀ (a1 : World), Chg [] bi a1 →
R (Sl.v aB) a1))))) ∧
((¬ (((r + x) + z) = o)) →
(I64 (p - 1)) ∧
∀ (aH : World), Chg [] aL aH →
CallK Try.prog 77 #[.pointer (some b), .agg #[.int .i64 s, .int .i64 (p - 1)], .agg #[.int .i64 u, .int .i64 q]] aH [k, l, g, j, d, f] (fun v bj => ∃ (aP : Int), v = .int .i64 aP ∧
(I64 (aP + 1)) ∧
(((aP + 1) = o) →
(I64 (p - 1)) ∧
CallK Try.prog 76 #[.pointer (some b), Sl.v y, .agg #[.int .i64 s, .int .i64 (p - 1)], .agg #[.int .i64 u, .int .i64 q]] bj [k, l] (fun v bB => ∃ (bk : Sl), v = Sl.v bk ∧
R (Sl.v bk) bB)) ∧
((¬ ((aP + 1) = o)) →
(I64 (q - 1)) ∧
CallK Try.prog 76 #[.pointer (some b), Sl.v y, .agg #[.int .i64 s, .int .i64 p], .agg #[.int .i64 u, .int .i64 (q - 1)]] bj [k, l] (fun v bC => ∃ (bl : Sl), v = Sl.v bl ∧
R (Sl.v bl) bC)))))))))
theorem ref20_Z_Mapping.ok (b : Addr) (y : Sl) (s : Int) (p : Int) (u : Int) (q : Int) {R : Value → World → Prop} {w : World} (b5 : ref20_Z_Mapping.vc b y s p u q R w) : Calls Try.prog 76 #[.pointer (some b), Sl.v y, .agg #[.int .i64 s, .int .i64 p], .agg #[.int .i64 u, .int .i64 q]] w (Ret R) := by
 refine go _ Try.func76 Try.ntmps76 b5 ?_
 refine gS <| gR <| nb fun w6 k => ?_
 refine nb fun w8 l => ?_
 refine gN <| ge <| tn <| gS <| gS <| gR ?_
 refine gF 0 Try.underlying129 ti_3 ?_
 refine gB 1 tU3 ?_
 refine gF 1 Try.underlying129 ti_3 ?_
 refine gB 1 tU3 ?_
 refine g2 r_eql ?_
 refine gM ?_
 refine GF 0 Try.underlying129 ti_3 ?_
 refine GB 0 tU3 ?_
 refine GF 1 Try.underlying129 ti_3 ?_
 refine GB 0 tU3 ?_
 refine G2 r_eql ?_
 refine gpo <| ge <| tn ?_
 refine gi (fun h => ((oT h).imp (fun h => (dT h)) (fun h => (dT h)))) (fun h => ⟨(dF (oF h).1), (dF (oF h).2)⟩) ?_ ?_
 ·refine gS <| gR <| gM ?_
  refine gN <| ge <| tn <| gr <| tr <| gT2 ?_
  exact gz1
 ·refine gk <| tn <| gS <| gR <| gM ?_
  refine gBN 1 2 Try.underlying129 ti_129 ?_
  refine gBN 0 2 Try.underlying129 ti_129 <| gT2 ?_
  refine gC [1, 0] Try.func77 fun _ bv => gE fun o => gQ ?_
  refine gN <| ge <| tn <| gS <| gR ?_
  refine gM ?_
  refine gBN 1 2 Try.underlying129 ti_129 ?_
  refine gBN 0 2 Try.underlying129 ti_129 ?_
  refine gC [1, 0] Try.func87 fun _ aG => gE fun ah => gE fun ai => gE fun aj => gE fun ak => gE fun aa => gE fun ab => gE fun ad => gE fun af => gQ ?_
  refine gM ?_
  refine gx1 ?_
  refine gx1 ?_
  refine gx1 ?_
  refine gx1 ?_
  refine na ti_129 fun fJ g => ?_
  refine na ti_129 fun fK j => ?_
  refine na ti_129 fun fL d => ?_
  refine na ti_129 fun fM f => ?_
  refine wn 3 3 ti_129 fun fN => ?_
  refine wn 2 2 ti_129 fun fO => ?_
  refine wn 1 1 ti_129 fun fP => ?_
  refine wn 0 0 ti_129 fun fQ => ge <| tn <| gS <| gb <| gS ?_
  intro fR m b6
  have al := m.ag
  have b7 := m.bx 5 rfl
  have b8 := m.bx 4 rfl
  have b9 := m.bx 3 rfl
  have ca := m.bx 2 rfl
  have cb := m.bx 1 rfl
  have cc := m.bx 0 rfl
  have cd := m.chg
  have cf := m.new g (by simp)
  have cg := m.new j (by simp)
  have ch := m.new d (by simp)
  have ci := m.new f (by simp)
  have cj : k ≠ l := m.ne 5 4
  have ck : k ≠ g := m.ne 5 3
  have cl : l ≠ g := m.ne 4 3
  have cm : k ≠ j := m.ne 5 2
  have cn : l ≠ j := m.ne 4 2
  have bD : g ≠ j := m.ne 3 2
  have co : k ≠ d := m.ne 5 1
  have cp : l ≠ d := m.ne 4 1
  have bF : g ≠ d := m.ne 3 1
  have bG : j ≠ d := m.ne 2 1
  have cq : k ≠ f := m.ne 5 0
  have cr : l ≠ f := m.ne 4 0
  have bH : g ≠ f := m.ne 3 0
  have bI : j ≠ f := m.ne 2 0
  have bJ : d ≠ f := m.ne 1 0
  let bK : List (List Nat) := [[], [], [], [0, 1, 2], [], [], [], [0, 1, 2, 3, 4, 5, 6], [0, 1, 2, 3, 4, 5, 6, 7], [], [], [], [0, 1, 2, 3, 4, 5, 6, 7, 9, 10, 11], [0, 1, 2, 3, 4, 5, 6, 7, 8, 9, 10, 11, 12], [], [0, 1, 2, 3, 4, 5, 6, 7, 8, 9, 10, 11, 12, 13, 14], [0, 1, 2, 3, 4, 5, 6, 7, 8, 9, 10, 11, 12, 13, 14, 15]]
  refine draw' (by kernel_rfl) fun ax am => ?_
  have bL := b7.ext am
  have bM := b8.ext am
  have bN := b9.ext am
  have bO := ca.ext am
  have bP := cb.ext am
  have bQ := cc.ext am
  have ct := cd.more am
  have cu := cf.up am.size
  have cv := cg.up am.size
  have cx := ch.up am.size
  have cy := ci.up am.size
  have cz := b6 ax g j d f cu cv cx cy bD bF bH bG bI bJ ct
  refine startF (D := bK) (Fs := [0, 1, 2, 4, 5, 6, 9, 10, 11, 14]) (Ef := [(0, fun v _ => v = .pointer (some b)), (1, fun v _ => v = .agg #[.int .i64 ah, .int .i64 ai]), (2, fun v _ => v = .agg #[.int .i64 aj, .int .i64 ak]), (4, fun v _ => v = .pointer (some b)), (5, fun v _ => v = .agg #[.int .i64 aa, .int .i64 ab]), (6, fun v _ => v = .agg #[.int .i64 ad, .int .i64 af]), (9, fun v _ => v = .pointer (some b)), (10, fun v _ => v = .agg #[.int .i64 s, .int .i64 p]), (11, fun v _ => v = .agg #[.int .i64 u, .int .i64 q]), (14, fun v _ => v = .int .i64 o)]) (by kernel_rfl) ?_
  refine oneF (c := 3) al rfl (by kernel_rfl) (constF ⟨fun _ _ _ h => h, fun _ _ _ h => h, fun _ _ _ h => h, fun _ _ _ h => h, fun _ _ _ h => h, fun _ _ _ h => h, fun _ _ _ h => h, fun _ _ _ h => h, fun _ _ _ h => h, fun _ _ _ h => h, trivial⟩) ⟨?_, ?_, ?_, ?_, ?_, ?_, ?_, ?_, ?_, ?_, trivial⟩ ?_
  ·intro a hT
   have hAp := hT.ag al [(0, .pointer (some b))] ⟨rfl, trivial⟩ (by kernel_rfl)
   exact opk_val hAp rfl (r_move (hAp.get rfl)) fun _ _ e => ⟨_, e, rfl, fun _ => Eq.refl _⟩
  ·intro a hT
   have hAp := hT.ag al [(10, pB g 0)] ⟨rfl, trivial⟩ (by kernel_rfl)
   exact opk_val hAp rfl (r_loadN (cs := [.int .i64 ah, .int .i64 ai]) Try.underlying129 rfl ti_129 (hAp.get rfl) ((bN.ext hT.chg).part 0 _ rfl)) fun _ _ e => ⟨_, e, rfl, fun _ => Eq.refl _⟩
  ·intro a hT
   have hAp := hT.ag al [(11, pB j 0)] ⟨rfl, trivial⟩ (by kernel_rfl)
   exact opk_val hAp rfl (r_loadN (cs := [.int .i64 aj, .int .i64 ak]) Try.underlying129 rfl ti_129 (hAp.get rfl) ((bO.ext hT.chg).part 0 _ rfl)) fun _ _ e => ⟨_, e, rfl, fun _ => Eq.refl _⟩
  ·intro a hT
   have hAp := hT.ag al [(0, .pointer (some b))] ⟨rfl, trivial⟩ (by kernel_rfl)
   exact opk_val hAp rfl (r_move (hAp.get rfl)) fun _ _ e => ⟨_, e, rfl, fun _ => Eq.refl _⟩
  ·intro a hT
   have hAp := hT.ag al [(12, pB d 0)] ⟨rfl, trivial⟩ (by kernel_rfl)
   exact opk_val hAp rfl (r_loadN (cs := [.int .i64 aa, .int .i64 ab]) Try.underlying129 rfl ti_129 (hAp.get rfl) ((bP.ext hT.chg).part 0 _ rfl)) fun _ _ e => ⟨_, e, rfl, fun _ => Eq.refl _⟩
  ·intro a hT
   have hAp := hT.ag al [(13, pB f 0)] ⟨rfl, trivial⟩ (by kernel_rfl)
   exact opk_val hAp rfl (r_loadN (cs := [.int .i64 ad, .int .i64 af]) Try.underlying129 rfl ti_129 (hAp.get rfl) ((bQ.ext hT.chg).part 0 _ rfl)) fun _ _ e => ⟨_, e, rfl, fun _ => Eq.refl _⟩
  ·intro a hT
   have hAp := hT.ag al [(0, .pointer (some b))] ⟨rfl, trivial⟩ (by kernel_rfl)
   exact opk_val hAp rfl (r_move (hAp.get rfl)) fun _ _ e => ⟨_, e, rfl, fun _ => Eq.refl _⟩
  ·intro a hT
   have hAp := hT.ag al [(6, pB k 0)] ⟨rfl, trivial⟩ (by kernel_rfl)
   exact opk_val hAp rfl (r_loadN (cs := [.int .i64 s, .int .i64 p]) Try.underlying129 rfl ti_129 (hAp.get rfl) ((bL.ext hT.chg).part 0 _ rfl)) fun _ _ e => ⟨_, e, rfl, fun _ => Eq.refl _⟩
  ·intro a hT
   have hAp := hT.ag al [(7, pB l 0)] ⟨rfl, trivial⟩ (by kernel_rfl)
   exact opk_val hAp rfl (r_loadN (cs := [.int .i64 u, .int .i64 q]) Try.underlying129 rfl ti_129 (hAp.get rfl) ((bM.ext hT.chg).part 0 _ rfl)) fun _ _ e => ⟨_, e, rfl, fun _ => Eq.refl _⟩
  ·intro a hT
   have hAp := hT.ag al [(9, .int .i64 o)] ⟨rfl, trivial⟩ (by kernel_rfl)
   exact opk_val hAp rfl (r_move (hAp.get rfl)) fun _ _ e => ⟨_, e, rfl, fun _ => Eq.refl _⟩
  ·intro bo hT
   have cA := hT.ag al [(0, .pointer (some b)), (1, Sl.v y), (6, pB k 0), (7, pB l 0), (9, .int .i64 o), (10, pB g 0), (11, pB j 0), (12, pB d 0), (13, pB f 0)] ⟨rfl, rfl, rfl, rfl, rfl, rfl, rfl, rfl, rfl, trivial⟩ (by kernel_rfl)
   have cB : bo.tmps.getD 41 undef = .pointer (some b) := hT.vals 0 rfl 41 rfl
   have cC := cA.add cB
   have cD : bo.tmps.getD 42 undef = .agg #[.int .i64 ah, .int .i64 ai] := hT.vals 1 rfl 42 rfl
   have cF := cC.add cD
   have cG : bo.tmps.getD 43 undef = .agg #[.int .i64 aj, .int .i64 ak] := hT.vals 2 rfl 43 rfl
   have a2 := cF.add cG
   refine (opk_call a2 rfl (r_call (args := #[.pointer (some b), .agg #[.int .i64 ah, .int .i64 ai], .agg #[.int .i64 aj, .int .i64 ak]]) Try.func77 (by decide) rfl (map_arr (ml_cons (a2.get rfl) (ml_cons (a2.get rfl) (ml_cons (a2.get rfl) ml_nil)))) rfl) cz fun fS fT bz cH cI aJ fU cJ => ?_)
   refine ⟨_, cI, ?_⟩
   obtain ⟨r, rfl, cK⟩ := cJ
   have bR := bL.kept aJ (.head _)
   have bS := bM.kept aJ (.tail _ (.head _))
   have cL := bN.kept aJ (.tail _ (.tail _ (.head _)))
   have cM := bO.kept aJ (.tail _ (.tail _ (.tail _ (.head _))))
   have bT := bP.kept aJ (.tail _ (.tail _ (.tail _ (.tail _ (.head _)))))
   have bU := bQ.kept aJ (.tail _ (.tail _ (.tail _ (.tail _ (.tail _ (.head _))))))
   refine PRF_drop (X := [0, 1, 2]) (Fs' := [4, 5, 6, 9, 10, 11, 14]) cH (by kernel_rfl) fun fV cN fX => ?_
   have au := cN [(0, .pointer (some b)), (1, Sl.v y), (6, pB k 0), (7, pB l 0), (9, .int .i64 o), (10, pB g 0), (11, pB j 0), (12, pB d 0), (13, pB f 0), (44, .int .i64 r)] ⟨rfl, rfl, rfl, rfl, rfl, rfl, rfl, rfl, rfl, rfl, trivial⟩ (by kernel_rfl)
   refine oneF (c := 7) au rfl (by kernel_rfl) (constF ⟨fun _ _ _ h => h, fun _ _ _ h => h, fun _ _ _ h => h, fun _ _ _ h => h, fun _ _ _ h => h, fun _ _ _ h => h, fun _ _ _ h => h, trivial⟩) ⟨?_, ?_, ?_, ?_, ?_, ?_, ?_, trivial⟩ ?_
   ·intro a hT
    have hAp := hT.ag au [(0, .pointer (some b))] ⟨rfl, trivial⟩ (by kernel_rfl)
    exact opk_val hAp rfl (r_move (hAp.get rfl)) fun _ _ e => ⟨_, e, rfl, fun _ => Eq.refl _⟩
   ·intro a hT
    have hAp := hT.ag au [(12, pB d 0)] ⟨rfl, trivial⟩ (by kernel_rfl)
    exact opk_val hAp rfl (r_loadN (cs := [.int .i64 aa, .int .i64 ab]) Try.underlying129 rfl ti_129 (hAp.get rfl) ((bT.ext hT.chg).part 0 _ rfl)) fun _ _ e => ⟨_, e, rfl, fun _ => Eq.refl _⟩
   ·intro a hT
    have hAp := hT.ag au [(13, pB f 0)] ⟨rfl, trivial⟩ (by kernel_rfl)
    exact opk_val hAp rfl (r_loadN (cs := [.int .i64 ad, .int .i64 af]) Try.underlying129 rfl ti_129 (hAp.get rfl) ((bU.ext hT.chg).part 0 _ rfl)) fun _ _ e => ⟨_, e, rfl, fun _ => Eq.refl _⟩
   ·intro a hT
    have hAp := hT.ag au [(0, .pointer (some b))] ⟨rfl, trivial⟩ (by kernel_rfl)
    exact opk_val hAp rfl (r_move (hAp.get rfl)) fun _ _ e => ⟨_, e, rfl, fun _ => Eq.refl _⟩
   ·intro a hT
    have hAp := hT.ag au [(6, pB k 0)] ⟨rfl, trivial⟩ (by kernel_rfl)
    exact opk_val hAp rfl (r_loadN (cs := [.int .i64 s, .int .i64 p]) Try.underlying129 rfl ti_129 (hAp.get rfl) ((bR.ext hT.chg).part 0 _ rfl)) fun _ _ e => ⟨_, e, rfl, fun _ => Eq.refl _⟩
   ·intro a hT
    have hAp := hT.ag au [(7, pB l 0)] ⟨rfl, trivial⟩ (by kernel_rfl)
    exact opk_val hAp rfl (r_loadN (cs := [.int .i64 u, .int .i64 q]) Try.underlying129 rfl ti_129 (hAp.get rfl) ((bS.ext hT.chg).part 0 _ rfl)) fun _ _ e => ⟨_, e, rfl, fun _ => Eq.refl _⟩
   ·intro a hT
    have hAp := hT.ag au [(9, .int .i64 o)] ⟨rfl, trivial⟩ (by kernel_rfl)
    exact opk_val hAp rfl (r_move (hAp.get rfl)) fun _ _ e => ⟨_, e, rfl, fun _ => Eq.refl _⟩
   ·intro bp hT
    have cO := hT.ag au [(0, .pointer (some b)), (1, Sl.v y), (6, pB k 0), (7, pB l 0), (9, .int .i64 o), (10, pB g 0), (11, pB j 0), (12, pB d 0), (13, pB f 0), (44, .int .i64 r)] ⟨rfl, rfl, rfl, rfl, rfl, rfl, rfl, rfl, rfl, rfl, trivial⟩ (by kernel_rfl)
    have cP : bp.tmps.getD 45 undef = .pointer (some b) := hT.vals 4 rfl 45 rfl
    have cQ := cO.add cP
    have cR : bp.tmps.getD 46 undef = .agg #[.int .i64 aa, .int .i64 ab] := hT.vals 5 rfl 46 rfl
    have cS := cQ.add cR
    have cT : bp.tmps.getD 47 undef = .agg #[.int .i64 ad, .int .i64 af] := hT.vals 6 rfl 47 rfl
    have a3 := cS.add cT
    refine (opk_call a3 rfl (r_call (args := #[.pointer (some b), .agg #[.int .i64 aa, .int .i64 ab], .agg #[.int .i64 ad, .int .i64 af]]) Try.func77 (by decide) rfl (map_arr (ml_cons (a3.get rfl) (ml_cons (a3.get rfl) (ml_cons (a3.get rfl) ml_nil)))) rfl) cK fun fY fZ aL cU cX aK f0 cY => ?_)
    refine ⟨_, cX, ?_⟩
    obtain ⟨x, rfl, cZ⟩ := cY
    have bV := bR.kept aK (.head _)
    have bX := bS.kept aK (.tail _ (.head _))
    have c0 := cL.kept aK (.tail _ (.tail _ (.head _)))
    have c1 := cM.kept aK (.tail _ (.tail _ (.tail _ (.head _))))
    have c2 := bT.kept aK (.tail _ (.tail _ (.tail _ (.tail _ (.head _)))))
    have c3 := bU.kept aK (.tail _ (.tail _ (.tail _ (.tail _ (.tail _ (.head _))))))
    refine PRF_drop (X := [4, 5, 6]) (Fs' := [9, 10, 11, 14]) cU (by kernel_rfl) fun f1 c4 f2 => ?_
    have aq := c4 [(0, .pointer (some b)), (1, Sl.v y), (6, pB k 0), (7, pB l 0), (9, .int .i64 o), (10, pB g 0), (11, pB j 0), (12, pB d 0), (13, pB f 0), (44, .int .i64 r), (48, .int .i64 x)] ⟨rfl, rfl, rfl, rfl, rfl, rfl, rfl, rfl, rfl, rfl, rfl, trivial⟩ (by kernel_rfl)
    obtain ⟨c5, c6⟩ := cZ
    obtain ⟨z, c7, c8⟩ := c6
    obtain ⟨c9, da⟩ := c8
    refine parF (D := bK) (S := [8, 12, 13, 15, 16]) (F := []) (KE := [8, 12, 13, 15, 16]) (E := [(8, fun v _ => v = .int .i64 (r + x)), (12, fun v _ => v = .int .i64 z), (13, fun v _ => v = .int .i64 ((r + x) + z)), (15, fun v _ => v = .bool (decide (((r + x) + z) = o))), (16, fun v _ => v = .bool (decide (((r + x) + z) = o)))]) aq rfl (by kernel_rfl) ⟨fun _ _ _ _ h => h, fun _ _ _ _ h => h, fun _ _ _ _ h => h, fun _ _ _ _ h => h, fun _ _ _ _ h => h, fun _ _ _ _ h => h, fun _ _ _ _ h => h, fun _ _ _ _ h => h, fun _ _ _ _ h => h, trivial⟩ ⟨?_, ?_, ?_, ?_, ?_, ?_, ?_, ?_, ?_, trivial⟩ ?_
    ·intro a w hT
     have hAp := hT.ag aq [(44, .int .i64 r), (48, .int .i64 x)] ⟨rfl, rfl, trivial⟩ (by kernel_rfl)
     exact ovr hAp rfl (r_addI (hAp.get rfl) (hAp.get rfl) c5) fun _ => Eq.refl _
    ·intro a w hT
     have hAp := hT.ag aq [] trivial (by kernel_rfl)
     have hAp := hAp.add (t := 50) (v := .pointer (some b)) (hT.vals 9 rfl 50 rfl)
     have hAp := hAp.add (t := 51) (v := .agg #[.int .i64 s, .int .i64 p]) (hT.vals 10 rfl 51 rfl)
     have hAp := hAp.add (t := 52) (v := .agg #[.int .i64 u, .int .i64 q]) (hT.vals 11 rfl 52 rfl)
     exact opk_callX hAp rfl (r_call (args := #[.pointer (some b), .agg #[.int .i64 s, .int .i64 p], .agg #[.int .i64 u, .int .i64 q]]) Try.func88 (by decide) rfl (map_arr (ml_cons (hAp.get rfl) (ml_cons (hAp.get rfl) (ml_cons (hAp.get rfl) ml_nil)))) rfl) (c7 w hT.chg) fun _ _ _ _ e hR => ⟨_, e, hR.1, fun _ => hR.2⟩
    ·intro a w hT
     have hAp := hT.ag aq [] trivial (by kernel_rfl)
     have hAp := hAp.add (t := 49) (v := .int .i64 (r + x)) (hT.vals 8 rfl 49 rfl)
     have hAp := hAp.add (t := 53) (v := .int .i64 z) (hT.vals 12 rfl 53 rfl)
     exact ovr hAp rfl (r_addI (hAp.get rfl) (hAp.get rfl) c9) fun _ => Eq.refl _
    ·intro a w hT
     have hAp := hT.ag aq [] trivial (by kernel_rfl)
     have hAp := hAp.add (t := 54) (v := .int .i64 ((r + x) + z)) (hT.vals 13 rfl 54 rfl)
     have hAp := hAp.add (t := 55) (v := .int .i64 o) (hT.vals 14 rfl 55 rfl)
     exact ovr hAp rfl (r_eql (hAp.get rfl) (hAp.get rfl)) fun _ => Eq.refl _
    ·intro a w hT
     have hAp := hT.ag aq [] trivial (by kernel_rfl)
     have hAp := hAp.add (t := 56) (v := .bool (decide (((r + x) + z) = o))) (hT.vals 15 rfl 56 rfl)
     exact ovr hAp rfl (r_assign (hAp.get rfl)) fun _ => Eq.refl _
    ·intro a w hT
     have hAp := hT.ag aq [(0, .pointer (some b))] ⟨rfl, trivial⟩ (by kernel_rfl)
     exact ovr hAp rfl (r_move (hAp.get rfl)) fun _ => Eq.refl _
    ·intro a w hT
     have hAp := hT.ag aq [(6, pB k 0)] ⟨rfl, trivial⟩ (by kernel_rfl)
     exact ovr hAp rfl (r_loadN (cs := [.int .i64 s, .int .i64 p]) Try.underlying129 rfl ti_129 (hAp.get rfl) ((bV.ext hT.chg).part 0 _ rfl)) fun _ => Eq.refl _
    ·intro a w hT
     have hAp := hT.ag aq [(7, pB l 0)] ⟨rfl, trivial⟩ (by kernel_rfl)
     exact ovr hAp rfl (r_loadN (cs := [.int .i64 u, .int .i64 q]) Try.underlying129 rfl ti_129 (hAp.get rfl) ((bX.ext hT.chg).part 0 _ rfl)) fun _ => Eq.refl _
    ·intro a w hT
     have hAp := hT.ag aq [(9, .int .i64 o)] ⟨rfl, trivial⟩ (by kernel_rfl)
     exact ovr hAp rfl (r_move (hAp.get rfl)) fun _ => Eq.refl _
    ·intro db dc aC dd df
     have dg := dd [(0, .pointer (some b)), (1, Sl.v y), (6, pB k 0), (7, pB l 0), (9, .int .i64 o), (10, pB g 0), (11, pB j 0), (12, pB d 0), (13, pB f 0)] ⟨rfl, rfl, rfl, rfl, rfl, rfl, rfl, rfl, rfl, trivial⟩ (by kernel_rfl)
     have dh : db.tmps.getD 40 undef = .bool (decide (((r + x) + z) = o)) := df 16 rfl 40 rfl
     have di := dg.add dh
     have dj := bV.ext aC
     have dk := bX.ext aC
     have dl := c0.ext aC
     have dm := c1.ext aC
     have dn := c2.ext aC
     have dp := c3.ext aC
     have dq : Chg [] aL dc := aC
     refine PRF_drop (X := [9, 10, 11, 14]) (Fs' := []) di (by kernel_rfl) fun f3 dr f4 => ?_
     have ds := dr [(0, .pointer (some b)), (1, Sl.v y), (6, pB k 0), (7, pB l 0), (9, .int .i64 o), (10, pB g 0), (11, pB j 0), (12, pB d 0), (13, pB f 0), (40, .bool (decide (((r + x) + z) = o)))] ⟨rfl, rfl, rfl, rfl, rfl, rfl, rfl, rfl, rfl, rfl, trivial⟩ (by kernel_rfl)
     refine joinF ds (by kernel_rfl) trivial trivial ?_
     ·intro f5 aH aD dt f6
      have du := dt [(0, .pointer (some b)), (1, Sl.v y), (6, pB k 0), (7, pB l 0), (9, .int .i64 o), (10, pB g 0), (11, pB j 0), (12, pB d 0), (13, pB f 0), (40, .bool (decide (((r + x) + z) = o)))] ⟨rfl, rfl, rfl, rfl, rfl, rfl, rfl, rfl, rfl, rfl, trivial⟩ (by kernel_rfl)
      have dv := dj.ext aD
      have dx := dk.ext aD
      have dy := dl.ext aD
      have dz := dm.ext aD
      have dA := dn.ext aD
      have dB := dp.ext aD
      have dC := dq.more aD
      refine PR_end (by kernel_rfl) ?_
      have dD := du.kp [(0, .pointer (some b)), (1, Sl.v y), (6, pB k 0), (7, pB l 0), (9, .int .i64 o), (10, pB g 0), (11, pB j 0), (12, pB d 0), (13, pB f 0), (40, .bool (decide (((r + x) + z) = o)))] rfl
      refine gK (bs := [(f, 129, [.int .i64 ad, .int .i64 af]), (d, 129, [.int .i64 aa, .int .i64 ab]), (j, 129, [.int .i64 aj, .int .i64 ak]), (g, 129, [.int .i64 ah, .int .i64 ai]), (l, 129, [.int .i64 u, .int .i64 q]), (k, 129, [.int .i64 s, .int .i64 p])]) (N := []) dD dC ⟨dB, dA, dz, dy, dx, dv, trivial⟩ (by simp [(Ne.symm bJ), (Ne.symm bI), (Ne.symm bH), (Ne.symm cr), (Ne.symm cq), (Ne.symm bG), (Ne.symm bF), (Ne.symm cp), (Ne.symm co), (Ne.symm bD), (Ne.symm cn), (Ne.symm cm), (Ne.symm cl), (Ne.symm ck), (Ne.symm cj)]) trivial (by simp) da ?_
      refine tn ?_
      refine gi dT dF ?_ ?_
      ·refine gS <| gS <| gR <| gM ?_
       refine gBN 5 2 Try.underlying129 ti_129 ?_
       refine gBN 4 2 Try.underlying129 ti_129 <| gT0 ?_
       refine gC [5, 4, 3, 2, 1, 0] Try.func88 fun _ a8 => gE fun aX => gQ ?_
       refine g2 r_lss <| ge <| tn <| gE fun J => ?_
       refine m1 (fun ap => [(1, Sl.v ap)]) [(0, _), (10, _), (11, _), (12, _), (13, _)] (fun _ => []) [(g, _, _), (j, _, _), (d, _, _), (f, _, _)] [3, 2, 1, 0] ?_ fun ap a0 _ => ?_
       ·refine gi dT dF ?_ ?_
        ·refine gD fun ar => gT0 <| gE fun aY => gA fun dG => gA fun dH => gE fun ba => gA fun dI => gE fun ay => gA fun dJ => gE fun aZ => gA fun dK => gA fun dL => gE fun bb => gA fun dM => gE fun az => gA fun dN => ?_
         refine gW 0 21 [(20, rsB ar (fun B => .slice (some ⟨B, 0, none⟩) 1 1) 40 [.int .i64 ay, .int .i64 az])] ?_
         refine gM ?_
         refine gM ?_
         refine g1 r_nilCheck ?_
         refine gF 2 Try.underlying127 ti_22 ?_
         refine gP dG <| gL tU22 ?_
         refine gF 1 Try.underlying129 ti_3 ?_
         refine gB 5 tU3 ?_
         refine gP dH <| g2s r_subI ?_
         refine gIx tU22 ti_3 dI ?_
         refine gP dJ <| gL tU3 ?_
         refine gM ?_
         refine g1 r_nilCheck ?_
         refine gF 3 Try.underlying127 ti_22 ?_
         refine gP dK <| gL tU22 ?_
         refine gF 1 Try.underlying129 ti_3 ?_
         refine gB 4 tU3 ?_
         refine gP dL <| g2s r_subI ?_
         refine gIx tU22 ti_3 dM ?_
         refine gP dN <| gL tU3 ?_
         refine gbu ti_40 Try.underlying40 pl_40 (OPs.of rfl) ?_
         refine yn (fun B => .slice (some ⟨B, 0, none⟩) 1 1) (cs := [.int .i64 ay, .int .i64 az]) rfl (fun _ hA _ => r_buildSlice ((OPs.of rfl : OPs _ true _ _).map hA rfl) tU29 ti_40 rfl rfl (by kernel_rfl)) (fun _ _ B _ _ _ h1 h2 => ⟨B, rfl, h1, h2⟩) fun aA => ?_
         refine eB (B := aA) (T := 40) (cs := [.int .i64 ay, .int .i64 az]) (fun _ hF => ⟨hF.1.1, hF.1.2⟩) (fun v w' hE hF => v w' aA hE hF.1.1 hF.1.2) fun aM => ?_
         refine gO 21 ?_
         refine gX 0 ?_
         refine gR2 [6, 5, 4, 3, 2, 1] r_append fun _ bA => gE fun bd => gQ <| geO ?_
         refine gW 22 1 [] ?_
         refine gN <| geT fun bf => ?_
         refine gZ <| gT0 ?_
         exact j1 [2, 3, 4, 5]
        ·exact gk <| j1 [3, 2, 1, 0]
       ·refine tn <| gS ?_
        intro f7 an dQ
        have av := an.ag
        have dR := an.bx 0 rfl
        have dS := an.bx 1 rfl
        have dU := an.bx 2 rfl
        have dV := an.bx 3 rfl
        have f8 : g ≠ j := an.ne 0 1
        have f9 : g ≠ d := an.ne 0 2
        have ga : j ≠ d := an.ne 1 2
        have gc : g ≠ f := an.ne 0 3
        have gd : j ≠ f := an.ne 1 3
        have gf : d ≠ f := an.ne 2 3
        let bq : List (List Nat) := [[], [], [], [], [], [1, 2, 3, 4], [], [], [0, 1, 2, 3, 4, 5, 6, 7], [0, 1, 2, 3, 4, 5, 6, 7, 8]]
        refine draw' (by kernel_rfl) fun aN aQ => ?_
        have bY := dR.ext aQ
        have bZ := dS.ext aQ
        have b0 := dU.ext aQ
        have b1 := dV.ext aQ
        have dX : Chg [] a0 aN := aQ
        have dY := dQ aN    dX
        refine startF (D := bq) (Fs := [0, 1, 2, 3, 4, 6, 7]) (Ef := [(0, fun v _ => v = .pointer (some b)), (1, fun v _ => v = .pointer (some b)), (2, fun v _ => v = Sl.v ap), (3, fun v _ => v = .agg #[.int .i64 ah, .int .i64 ai]), (4, fun v _ => v = .agg #[.int .i64 aj, .int .i64 ak]), (6, fun v _ => v = .agg #[.int .i64 aa, .int .i64 ab]), (7, fun v _ => v = .agg #[.int .i64 ad, .int .i64 af])]) (by kernel_rfl) ?_
        refine oneF (c := 5) av rfl (by kernel_rfl) (constF ⟨fun _ _ _ h => h, fun _ _ _ h => h, fun _ _ _ h => h, fun _ _ _ h => h, fun _ _ _ h => h, fun _ _ _ h => h, fun _ _ _ h => h, trivial⟩) ⟨?_, ?_, ?_, ?_, ?_, ?_, ?_, trivial⟩ ?_
        ·intro a hT
         have hAp := hT.ag av [(0, .pointer (some b))] ⟨rfl, trivial⟩ (by kernel_rfl)
         exact opk_val hAp rfl (r_move (hAp.get rfl)) fun _ _ e => ⟨_, e, rfl, fun _ => Eq.refl _⟩
        ·intro a hT
         have hAp := hT.ag av [(0, .pointer (some b))] ⟨rfl, trivial⟩ (by kernel_rfl)
         exact opk_val hAp rfl (r_move (hAp.get rfl)) fun _ _ e => ⟨_, e, rfl, fun _ => Eq.refl _⟩
        ·intro a hT
         have hAp := hT.ag av [(1, Sl.v ap)] ⟨rfl, trivial⟩ (by kernel_rfl)
         exact opk_val hAp rfl (r_move (hAp.get rfl)) fun _ _ e => ⟨_, e, rfl, fun _ => Eq.refl _⟩
        ·intro a hT
         have hAp := hT.ag av [(10, pB g 0)] ⟨rfl, trivial⟩ (by kernel_rfl)
         exact opk_val hAp rfl (r_loadN (cs := [.int .i64 ah, .int .i64 ai]) Try.underlying129 rfl ti_129 (hAp.get rfl) ((bY.ext hT.chg).part 0 _ rfl)) fun _ _ e => ⟨_, e, rfl, fun _ => Eq.refl _⟩
        ·intro a hT
         have hAp := hT.ag av [(11, pB j 0)] ⟨rfl, trivial⟩ (by kernel_rfl)
         exact opk_val hAp rfl (r_loadN (cs := [.int .i64 aj, .int .i64 ak]) Try.underlying129 rfl ti_129 (hAp.get rfl) ((bZ.ext hT.chg).part 0 _ rfl)) fun _ _ e => ⟨_, e, rfl, fun _ => Eq.refl _⟩
        ·intro a hT
         have hAp := hT.ag av [(12, pB d 0)] ⟨rfl, trivial⟩ (by kernel_rfl)
         exact opk_val hAp rfl (r_loadN (cs := [.int .i64 aa, .int .i64 ab]) Try.underlying129 rfl ti_129 (hAp.get rfl) ((b0.ext hT.chg).part 0 _ rfl)) fun _ _ e => ⟨_, e, rfl, fun _ => Eq.refl _⟩
        ·intro a hT
         have hAp := hT.ag av [(13, pB f 0)] ⟨rfl, trivial⟩ (by kernel_rfl)
         exact opk_val hAp rfl (r_loadN (cs := [.int .i64 ad, .int .i64 af]) Try.underlying129 rfl ti_129 (hAp.get rfl) ((b1.ext hT.chg).part 0 _ rfl)) fun _ _ e => ⟨_, e, rfl, fun _ => Eq.refl _⟩
        ·intro a4 hT
         have dZ := hT.ag av [(0, .pointer (some b)), (1, Sl.v ap), (10, pB g 0), (11, pB j 0), (12, pB d 0), (13, pB f 0)] ⟨rfl, rfl, rfl, rfl, rfl, rfl, trivial⟩ (by kernel_rfl)
         have d0 : a4.tmps.getD 85 undef = .pointer (some b) := hT.vals 1 rfl 85 rfl
         have d1 := dZ.add d0
         have d2 : a4.tmps.getD 86 undef = Sl.v ap := hT.vals 2 rfl 86 rfl
         have d3 := d1.add d2
         have d4 : a4.tmps.getD 87 undef = .agg #[.int .i64 ah, .int .i64 ai] := hT.vals 3 rfl 87 rfl
         have d5 := d3.add d4
         have d6 : a4.tmps.getD 88 undef = .agg #[.int .i64 aj, .int .i64 ak] := hT.vals 4 rfl 88 rfl
         have aR := d5.add d6
         refine (opk_call aR rfl (r_call (args := #[.pointer (some b), Sl.v ap, .agg #[.int .i64 ah, .int .i64 ai], .agg #[.int .i64 aj, .int .i64 ak]]) Try.func76 (by decide) rfl (map_arr (ml_cons (aR.get rfl) (ml_cons (aR.get rfl) (ml_cons (aR.get rfl) (ml_cons (aR.get rfl) ml_nil))))) rfl) dY fun gg gh bg d7 d8 a5 gj d9 => ?_)
         refine ⟨_, d8, ?_⟩
         obtain ⟨aI, rfl, fa⟩ := d9
         have fb := bY.kept a5 (.head _)
         have fc := bZ.kept a5 (.tail _ (.head _))
         have b2 := b0.kept a5 (.tail _ (.tail _ (.head _)))
         have b3 := b1.kept a5 (.tail _ (.tail _ (.tail _ (.head _))))
         refine PRF_drop (X := [1, 2, 3, 4]) (Fs' := [0, 6, 7]) d7 (by kernel_rfl) fun gm fd gq => ?_
         have a6 := fd [(0, .pointer (some b)), (12, pB d 0), (13, pB f 0), (89, Sl.v aI)] ⟨rfl, rfl, rfl, rfl, trivial⟩ (by kernel_rfl)
         refine joinF a6 (by kernel_rfl) ⟨fun _ _ _ _ h => h, fun _ _ _ _ h => h, fun _ _ _ _ h => h, trivial⟩ ⟨?_, ?_, ?_, trivial⟩ ?_
         ·intro a w hT
          have hAp := hT.ag a6 [(0, .pointer (some b))] ⟨rfl, trivial⟩ (by kernel_rfl)
          exact ovr hAp rfl (r_move (hAp.get rfl)) fun _ => Eq.refl _
         ·intro a w hT
          have hAp := hT.ag a6 [(12, pB d 0)] ⟨rfl, trivial⟩ (by kernel_rfl)
          exact ovr hAp rfl (r_loadN (cs := [.int .i64 aa, .int .i64 ab]) Try.underlying129 rfl ti_129 (hAp.get rfl) ((b2.ext hT.chg).part 0 _ rfl)) fun _ => Eq.refl _
         ·intro a w hT
          have hAp := hT.ag a6 [(13, pB f 0)] ⟨rfl, trivial⟩ (by kernel_rfl)
          exact ovr hAp rfl (r_loadN (cs := [.int .i64 ad, .int .i64 af]) Try.underlying129 rfl ti_129 (hAp.get rfl) ((b3.ext hT.chg).part 0 _ rfl)) fun _ => Eq.refl _
         ·intro bt aO aS ff bu
          have fg := ff [(89, Sl.v aI)] ⟨rfl, trivial⟩ (by kernel_rfl)
          have fh : bt.tmps.getD 84 undef = .pointer (some b) := bu 0 rfl 84 rfl
          have fi := fg.add fh
          have fj : bt.tmps.getD 90 undef = .agg #[.int .i64 aa, .int .i64 ab] := bu 6 rfl 90 rfl
          have fk := fi.add fj
          have fl : bt.tmps.getD 91 undef = .agg #[.int .i64 ad, .int .i64 af] := bu 7 rfl 91 rfl
          have aU := fk.add fl
          have fm := fb.ext aS
          have fn := fc.ext aS
          have fo := b2.ext aS
          have fp := b3.ext aS
          have fq : Chg [] bg aO := aS
          have fr := fa aO    fq
          refine one (D := bq) (i := 8) rfl (by kernel_rfl) (opk_call aU rfl (r_call (args := #[.pointer (some b), Sl.v aI, .agg #[.int .i64 aa, .int .i64 ab], .agg #[.int .i64 ad, .int .i64 af]]) Try.func76 (by decide) rfl (map_arr (ml_cons (aU.get rfl) (ml_cons (aU.get rfl) (ml_cons (aU.get rfl) (ml_cons (aU.get rfl) ml_nil))))) rfl) fr fun gu gG bi b4 _ a7 gJ fs => ?_)
          obtain ⟨aB, rfl, ft⟩ := fs
          have fu := fm.kept a7 (.head _)
          have fv := fn.kept a7 (.tail _ (.head _))
          have fx := fo.kept a7 (.tail _ (.tail _ (.head _)))
          have fy := fp.kept a7 (.tail _ (.tail _ (.tail _ (.head _))))
          refine par (D := bq) (S := [9]) (F := []) (V := VL [(9, fun v _ => v = Sl.v aB)]) b4 (by kernel_rfl) ⟨fun _ _ _ _ h => h, trivial⟩ ⟨?_, trivial⟩ ?_
          ·intro a w hT
           have hAp := hT.ag b4 [(92, Sl.v aB)] ⟨rfl, trivial⟩ (by kernel_rfl)
           exact ovr hAp rfl (r_assign (hAp.get rfl)) fun _ => Eq.refl _
          ·intro fz a1 aV fA fB
           have fC := fA [] trivial (by kernel_rfl)
           have fD : fz.tmps.getD 8 undef = Sl.v aB := fB 9 rfl 8 rfl
           have fF := fC.add fD
           have gU := fu.ext aV
           have gV := fv.ext aV
           have gY := fx.ext aV
           have g0 := fy.ext aV
           have fG : Chg [] bi a1 := aV
           refine PR_end (by kernel_rfl) ?_
           have fH := fF.kp [(8, Sl.v aB)] rfl
           refine gK (bs := []) (N := []) fH fG trivial (by simp) trivial (by simp) ft ?_
           exact tn <| gr <| br <| tr <| gT0 <| gz1
      ·refine gS <| gR <| gM ?_
       refine gF 0 Try.underlying129 ti_3 ?_
       refine gB 5 tU3 ?_
       refine gF 1 Try.underlying129 ti_3 ?_
       refine gB 5 tU3 ?_
       refine g2s r_subI ?_
       refine gbu ti_129 Try.underlying129 pl_129 (OPs.of rfl) ?_
       refine gBN 4 2 Try.underlying129 ti_129 <| gT0 ?_
       refine gC [5, 4, 3, 2, 1, 0] Try.func77 fun _ bj => gE fun aP => gQ ?_
       refine g2s r_addI ?_
       refine gM ?_
       refine g2 r_eql ?_
       refine gN <| ge <| tn ?_
       refine gi dT dF ?_ ?_
       ·refine gS <| gR <| gM ?_
        refine gM ?_
        refine gF 0 Try.underlying129 ti_3 ?_
        refine gB 5 tU3 ?_
        refine gF 1 Try.underlying129 ti_3 ?_
        refine gB 5 tU3 ?_
        refine g2s r_subI ?_
        refine gbu ti_129 Try.underlying129 pl_129 (OPs.of rfl) ?_
        refine gBN 4 2 Try.underlying129 ti_129 ?_
        refine gC [5, 4] Try.func76 fun _ bB => gE fun bk => gQ ?_
        refine gN <| ge <| tn <| gr <| br <| tr ?_
        exact gz1
       ·refine gk <| bn <| tn <| gS <| gR <| gM ?_
        refine gM ?_
        refine gBN 5 2 Try.underlying129 ti_129 ?_
        refine gF 0 Try.underlying129 ti_3 ?_
        refine gB 4 tU3 ?_
        refine gF 1 Try.underlying129 ti_3 ?_
        refine gB 4 tU3 ?_
        refine g2s r_subI ?_
        refine gbu ti_129 Try.underlying129 pl_129 (OPs.of rfl) ?_
        refine gC [5, 4] Try.func76 fun _ bC => gE fun bl => gQ ?_
        refine gN <| ge <| tn <| gr ?_
        exact gz1
end Go.Proofs.Yteohbfaechfliaa
