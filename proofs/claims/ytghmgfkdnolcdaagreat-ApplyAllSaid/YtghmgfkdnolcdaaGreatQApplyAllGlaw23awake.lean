/-
  PRINTED BY PROGRAM: for each function its condition (vc), and that this suffices (ok).
-/
import Derived.Test.YtghmgfkdnolcdaaGreatQApplyAllGT
namespace Go.Proofs.YtghmgfkdnolcdaaGreat
open Go.RowKit
set_option linter.unusedVariables false
set_option maxHeartbeats 1000000
set_option maxRecDepth 10000
def law23_awake.vc  (R : Value → World → Prop) (w : World) : Prop :=
∀ (b : World) (g : Nat), New w g b → Chg [] w b →
∀ (_ : Box b g 38 [.int .i64 2, .int .i64 0, .int .i64 0, .int .i64 0, .int .i64 0, .string (Bs []), .string (Bs [])]),
CallK Tryz.prog 8 #[.agg #[.int .i64 1, .string (Bs []), .string (Bs []), Sl.v Sl.nil, Sl.v Sl.nil], Sl.v (Sl.mk (some ⟨g, 0, none⟩) 1 1)] b [] (fun v i => ∃ (l : Int) (m : Str) (n : Str) (o : Sl) (p : Sl) (c : Int) (d : Int), v = .tuple #[.agg #[.int .i64 l, .string (Bs m), .string (Bs n), Sl.v o, Sl.v p], .int .i64 c, .int .i64 d] ∧
∀ (a : World) (q : Nat), New i q a → Chg [] i a →
∃ (h : Bool), ((((d = 4) ∧ (c = 0))) → Calls Tryz.prog 12 #[.agg #[.int .i64 2, .int .i64 0, .int .i64 0, .int .i64 0, .int .i64 0, .string (Bs []), .string (Bs [])]] a (Ret fun v w' => Ext a w' ∧ v = .bool h)) ∧
(∀ f : World, Ext a f →
∃ (j : Bool), (((((d = 4) ∧ (c = 0)) ∧ (h = true))) → Calls Tryz.prog 12 #[.agg #[.int .i64 2, .int .i64 0, .int .i64 0, .int .i64 0, .int .i64 0, .string (Bs []), .string (Bs ([97] : Str))]] f (Ret fun v w' => Ext f w' ∧ v = .bool j)) ∧
(∀ k : World, Ext f k →
R (.bool ((((decide (d = 4)) && (decide (c = 0))) && h) && (!j))) k)))
theorem law23_awake.ok  {R : Value → World → Prop} {w : World} (r : law23_awake.vc  R w) : Calls Tryz.prog 6 #[] w (Ret R) := by
 refine go _ Tryz.func6 Tryz.ntmps6 r ?_
 refine gS <| gR <| gN <| ge <| tn <| gS <| gR ?_
 refine gbu ti_25 Tryz.underlying25 pl_25 (OPs.of rfl) ?_
 refine gbK #[.int .i64 2, .int .i64 0, .int .i64 0, .int .i64 0, .int .i64 0, .string (Bs []), .string (Bs [])] ti_38 Tryz.underlying38 pl_38 ?_
 refine ns [.int .i64 2, .int .i64 0, .int .i64 0, .int .i64 0, .int .i64 0, .string (Bs []), .string (Bs [])] tU26 ti_38 fun b g => gT1 ?_
 refine gX 0 ?_
 refine gC [] Tryz.func8 fun _ i => gE fun l => gE fun m => gE fun n => gE fun o => gE fun p => gE fun c => gE fun d => gQ ?_
 refine gM ?_
 refine gx1 ?_
 refine gx1 ?_
 refine gx1 ?_
 refine na ti_25 fun s q => ?_
 refine wn 0 0 ti_25 fun a => ?_
 refine gN ?_
 refine gN <| ge <| tn <| gS <| gR ?_
 refine gM ?_
 refine g2 r_eql ?_
 refine gM ?_
 refine G1 r_move ?_
 refine G2 r_eql ?_
 refine gpa ?_
 refine gM ?_
 refine Gbu ti_38 Tryz.underlying38 pl_38 (.cons .nil) <| gT1 ?_
 refine gE fun h => GC Tryz.func12 (fun hg => ⟨(dT (aT (g_t hg)).1), (dT (aT (g_t hg)).2)⟩) fun f => ?_
 refine gpa ?_
 refine gM ?_
 refine Gbu ti_38 Tryz.underlying38 pl_38 (.cons (.cons .nil)) ?_
 refine gE fun j => GC Tryz.func12 (fun hg => ⟨⟨(dT (aT (aT (g_t hg)).1).1), (dT (aT (aT (g_t hg)).1).2)⟩, (aT (g_t hg)).2⟩) fun k => ?_
 refine G1 r_not ?_
 refine gpa ?_
 refine gN <| ge <| tn <| gr ?_
 exact gz1
end Go.Proofs.YtghmgfkdnolcdaaGreat
