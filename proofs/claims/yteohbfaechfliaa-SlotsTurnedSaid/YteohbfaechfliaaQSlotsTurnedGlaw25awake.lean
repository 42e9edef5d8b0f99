/-
  PRINTED BY PROGRAM: for each function its condition (vc), and that this suffices (ok).
-/
import Derived.Test.YteohbfaechfliaaQSlotsTurnedGT
namespace Go.Proofs.Yteohbfaechfliaa
open Go.RowKit
set_option linter.unusedVariables false
set_option maxHeartbeats 1000000
set_option maxRecDepth 10000
def law25_awake.vc  (R : Value → World → Prop) (w : World) : Prop :=
∀ (f : World) (g : Nat) (l : Nat) (i : Nat) (m : Nat) (j : Nat), New w g f → New w l f → New w i f → New w m f → New w j f → g ≠ l → g ≠ i → g ≠ m → g ≠ j → l ≠ i → l ≠ m → l ≠ j → i ≠ m → i ≠ j → m ≠ j → Chg [] w f →
∀ (_ : Box f g 26 [.int .i64 3, .string (Bs []), .string (Bs ([97] : Str)), Sl.v Sl.nil, Sl.v Sl.nil]),
∀ (_ : Box f i 26 [.int .i64 3, .string (Bs []), .string (Bs ([98] : Str)), Sl.v Sl.nil, Sl.v Sl.nil]),
∀ (_ : Box f j 40 [.int .i64 0, .int .i64 0, .int .i64 1, .int .i64 1]),
CallK Try.prog 12 #[.agg #[.int .i64 1, .string (Bs []), .string (Bs []), Sl.v Sl.nil, Sl.v (Sl.mk (some ⟨g, 0, none⟩) 1 1)], .agg #[.int .i64 1, .string (Bs []), .string (Bs []), Sl.v Sl.nil, Sl.v (Sl.mk (some ⟨i, 0, none⟩) 1 1)], Sl.v (Sl.mk (some ⟨j, 0, none⟩) 2 2)] f [l, m] (fun v p => ∃ (b : Sl) (k : Int), v = .tuple #[Sl.v b, .int .i64 k] ∧
∃ t : Addr, ((((k = 0) ∧ ((b.n : Int) = 2))) → ((0 : Int) ≤ 1 ∧ 1 < (b.n : Int)) ∧  b.a = some t) ∧
∃ (o : Bool), ((((k = 0) ∧ ((b.n : Int) = 2))) → p.cell? ((t.add (1 * 6)).add 1) = some (.bool o)) ∧
∃ u : Addr, (((((k = 0) ∧ ((b.n : Int) = 2)) ∧ (o = true))) → ((0 : Int) ≤ 1 ∧ 1 < (b.n : Int)) ∧  b.a = some u) ∧
∃ (q : Int), (((((k = 0) ∧ ((b.n : Int) = 2)) ∧ (o = true))) → p.cell? ((u.add (1 * 6)).add 4) = some (.int .i64 q)) ∧
∃ (s : Bool), ((((((k = 0) ∧ ((b.n : Int) = 2)) ∧ (o = true)) ∧ (q = 0))) → Calls Try.prog 16 #[.agg #[.int .i64 1, .string (Bs []), .string (Bs []), Sl.v Sl.nil, Sl.v (Sl.mk (some ⟨g, 0, none⟩) 1 1)], Sl.v b, .int .i64 1] p (Ret fun v w' => Ext p w' ∧ v = .bool s)) ∧
(∀ r : World, Ext p r →
∃ (x : Bool), (((((((k = 0) ∧ ((b.n : Int) = 2)) ∧ (o = true)) ∧ (q = 0)) ∧ (s = true))) → Calls Try.prog 16 #[.agg #[.int .i64 1, .string (Bs []), .string (Bs []), Sl.v Sl.nil, Sl.v (Sl.mk (some ⟨g, 0, none⟩) 1 1)], Sl.v b, .int .i64 0] r (Ret fun v w' => Ext r w' ∧ v = .bool x)) ∧
(∀ y : World, Ext r y →
R (.bool ((((((decide (k = 0)) && (decide ((b.n : Int) = 2))) && o) && (decide (q = 0))) && s) && (!x))) y)))
theorem law25_awake.ok  {R : Value → World → Prop} {w : World} (z : law25_awake.vc  R w) : Calls Try.prog 14 #[] w (Ret R) := by
 refine go _ Try.func14 Try.ntmps14 z ?_
 refine gS <| gR <| gN <| ge <| tn <| gS <| gR ?_
 refine gbu ti_26 Try.underlying26 pl_26 (OPs.of rfl) ?_
 refine ns [.int .i64 3, .string (Bs []), .string (Bs ([97] : Str)), Sl.v Sl.nil, Sl.v Sl.nil] tU24 ti_26 fun w3 g => ?_
 refine gbu ti_26 Try.underlying26 pl_26 (OPs.of rfl) ?_
 refine na ti_26 fun w5 l => ?_
 refine wn 0 0 ti_26 fun w6 => ge <| tn <| gS <| gR ?_
 refine gbu ti_26 Try.underlying26 pl_26 (OPs.of rfl) ?_
 refine ns [.int .i64 3, .string (Bs []), .string (Bs ([98] : Str)), Sl.v Sl.nil, Sl.v Sl.nil] tU24 ti_26 fun w9 i => ?_
 refine gbu ti_26 Try.underlying26 pl_26 (OPs.of rfl) ?_
 refine na ti_26 fun ah m => ?_
 refine wn 0 0 ti_26 fun ai => ge <| tn <| gS <| gR ?_
 refine gBN 2 5 Try.underlying26 ti_26 ?_
 refine gBN 0 5 Try.underlying26 ti_26 ?_
 refine gbu ti_40 Try.underlying40 pl_40 (OPs.of rfl) ?_
 refine gbu ti_40 Try.underlying40 pl_40 (OPs.of rfl) ?_
 refine ns [.int .i64 0, .int .i64 0, .int .i64 1, .int .i64 1] tU29 ti_40 fun f j => ?_
 refine gT (fun h d c v => v _ g l i m j (h _ (by simp)) (h _ (by simp)) (h _ (by simp)) (h _ (by simp)) (h _ (by simp)) (fun e => by simp [e] at d) (fun e => by simp [e] at d) (fun e => by simp [e] at d) (fun e => by simp [e] at d) (fun e => by simp [e] at d) (fun e => by simp [e] at d) (fun e => by simp [e] at d) (fun e => by simp [e] at d) (fun e => by simp [e] at d) (fun e => by simp [e] at d) c) ?_
 refine gX 4 ?_
 refine gX 2 ?_
 refine gX 0 ?_
 refine gC [3, 1] Try.func12 fun _ p => gE fun b => gE fun k => gQ ?_
 refine gM ?_
 refine gx1 ?_
 refine gx1 ?_
 refine gN ?_
 refine gN <| ge <| tn <| gS <| gR ?_
 refine gM ?_
 refine g2 r_eql ?_
 refine gM ?_
 refine G1 r_move ?_
 refine G1 (fun aa => r_len aa tU33) ?_
 refine G2 r_eql ?_
 refine gpa ?_
 refine gM ?_
 refine G1 r_move ?_
 refine GI2 tU33 ti_43 (fun hg => ⟨(dT (aT (g_t hg)).1), (dT (aT (g_t hg)).2)⟩) fun t => ?_
 refine GF 1 Try.underlying43 ti_4 ?_
 refine gE fun o => GLd tU4 (fun hg => ⟨(dT (aT (g_t hg)).1), (dT (aT (g_t hg)).2)⟩) ?_
 refine gpa ?_
 refine gM ?_
 refine G1 r_move ?_
 refine GI2 tU33 ti_43 (fun hg => ⟨⟨(dT (aT (aT (g_t hg)).1).1), (dT (aT (aT (g_t hg)).1).2)⟩, (aT (g_t hg)).2⟩) fun u => ?_
 refine GF 4 Try.underlying43 ti_3 ?_
 refine gE fun q => GLd tU3 (fun hg => ⟨⟨(dT (aT (aT (g_t hg)).1).1), (dT (aT (aT (g_t hg)).1).2)⟩, (aT (g_t hg)).2⟩) ?_
 refine G2 r_eql ?_
 refine gpa ?_
 refine gM ?_
 refine GBN 0 5 Try.underlying26 ti_26 ?_
 refine G1 r_move ?_
 refine gE fun s => GC Try.func16 (fun hg => ⟨⟨⟨(dT (aT (aT (aT (g_t hg)).1).1).1), (dT (aT (aT (aT (g_t hg)).1).1).2)⟩, (aT (aT (g_t hg)).1).2⟩, (dT (aT (g_t hg)).2)⟩) fun r => ?_
 refine gpa ?_
 refine gM ?_
 refine GBN 0 5 Try.underlying26 ti_26 ?_
 refine G1 r_move ?_
 refine gE fun x => GC Try.func16 (fun hg => ⟨⟨⟨⟨(dT (aT (aT (aT (aT (g_t hg)).1).1).1).1), (dT (aT (aT (aT (aT (g_t hg)).1).1).1).2)⟩, (aT (aT (aT (g_t hg)).1).1).2⟩, (dT (aT (aT (g_t hg)).1).2)⟩, (aT (g_t hg)).2⟩) fun y => ?_
 refine G1 r_not ?_
 refine gpa ?_
 refine gN <| ge <| tn <| gr ?_
 exact gz1
end Go.Proofs.Yteohbfaechfliaa
