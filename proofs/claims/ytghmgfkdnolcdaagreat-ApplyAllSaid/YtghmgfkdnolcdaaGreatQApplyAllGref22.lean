/-
  PRINTED BY PROGRAM: for each function its condition (vc), and that this suffices (ok).
-/
import Derived.Test.YtghmgfkdnolcdaaGreatQApplyAllGT
namespace Go.Proofs.YtghmgfkdnolcdaaGreat
open Go.RowKit
set_option linter.unusedVariables false
set_option maxHeartbeats 1000000
set_option maxRecDepth 10000
def ref22_Do.vc (d : Addr) (c : Int) (f : Int) (i : Int) (j : Int) (k : Int) (g : Str) (h : Str) (R : Value → World → Prop) (w : World) : Prop :=
((c = 1) →
∀ (a : World) (b : Nat), New w b a → Chg [] w a →
CallK Tryz.prog 51 #[.pointer (some d), .int .i64 f, .int .i64 i, .int .i64 j, .agg #[.int .i64 k, .string (Bs g), .string (Bs h), Sl.v Sl.nil, Sl.v Sl.nil]] a [b] (fun v r => ∃ (l : Int), v = .int .i64 l ∧
R (.int .i64 l) r)) ∧
((¬ (c = 1)) →
((c = 2) →
∀ (a : World) (b : Nat), New w b a → Chg [] w a →
CallK Tryz.prog 52 #[.pointer (some d), .int .i64 f] a [b] (fun v s => ∃ (m : Int), v = .int .i64 m ∧
R (.int .i64 m) s)) ∧
((¬ (c = 2)) →
((c = 3) →
∀ (a : World) (b : Nat), New w b a → Chg [] w a →
CallK Tryz.prog 53 #[.pointer (some d), .int .i64 f, .int .i64 i, .int .i64 j] a [b] (fun v t => ∃ (n : Int), v = .int .i64 n ∧
R (.int .i64 n) t)) ∧
((¬ (c = 3)) →
((c = 4) →
∀ (a : World) (b : Nat), New w b a → Chg [] w a →
CallK Tryz.prog 54 #[.pointer (some d), .int .i64 f, .string (Bs g), .string (Bs h)] a [b] (fun v u => ∃ (o : Int), v = .int .i64 o ∧
R (.int .i64 o) u)) ∧
((¬ (c = 4)) →
((c = 5) →
∀ (a : World) (b : Nat), New w b a → Chg [] w a →
CallK Tryz.prog 55 #[.pointer (some d), .int .i64 f, .string (Bs g)] a [b] (fun v x => ∃ (p : Int), v = .int .i64 p ∧
R (.int .i64 p) x)) ∧
((¬ (c = 5)) →
((c = 6) →
∀ (a : World) (b : Nat), New w b a → Chg [] w a →
CallK Tryz.prog 56 #[.pointer (some d), .int .i64 f, .string (Bs h)] a [b] (fun v y => ∃ (q : Int), v = .int .i64 q ∧
R (.int .i64 q) y)) ∧
((¬ (c = 6)) →
∀ (a : World) (b : Nat), New w b a → Chg [] w a →
R (.int .i64 15) a))))))
theorem ref22_Do.ok (d : Addr) (c : Int) (f : Int) (i : Int) (j : Int) (k : Int) (g : Str) (h : Str) {R : Value → World → Prop} {w : World} (z : ref22_Do.vc d c f i j k g h R w) : Calls Tryz.prog 25 #[.pointer (some d), .agg #[.int .i64 c, .int .i64 f, .int .i64 i, .int .i64 j, .int .i64 k, .string (Bs g), .string (Bs h)]] w (Ret R) := by
 refine go _ Tryz.func25 Tryz.ntmps25 z ?_
 refine gS <| gR <| nb fun a b => ?_
 refine gN <| ge <| tn <| gS <| gS <| gR ?_
 refine gF 0 Tryz.underlying38 ti_3 ?_
 refine gB 0 tU3 <| ge <| tn <| gb <| gS <| gR ?_
 refine g2 r_eql ?_
 refine gN <| ge <| tn ?_
 refine gi dT dF ?_ ?_
 ·refine gS <| gR <| gM ?_
  refine gF 1 Tryz.underlying38 ti_3 ?_
  refine gB 0 tU3 ?_
  refine gF 2 Tryz.underlying38 ti_3 ?_
  refine gB 0 tU3 ?_
  refine gF 3 Tryz.underlying38 ti_3 ?_
  refine gB 0 tU3 ?_
  refine gF 4 Tryz.underlying38 ti_3 ?_
  refine gB 0 tU3 ?_
  refine gF 5 Tryz.underlying38 ti_9 ?_
  refine gB 0 tU9 ?_
  refine gF 6 Tryz.underlying38 ti_9 ?_
  refine gB 0 tU9 ?_
  refine gbu ti_25 Tryz.underlying25 pl_25 (OPs.of rfl) <| gT1 ?_
  refine gC [0] Tryz.func51 fun _ r => gE fun l => gQ ?_
  refine gN <| ge <| tn <| gr <| br <| tr ?_
  exact gz1
 ·refine gS <| gR <| g2 r_eql ?_
  refine gN <| ge <| tn ?_
  refine gi dT dF ?_ ?_
  ·refine gS <| gR <| gM ?_
   refine gF 1 Tryz.underlying38 ti_3 ?_
   refine gB 0 tU3 <| gT1 ?_
   refine gC [0] Tryz.func52 fun _ s => gE fun m => gQ ?_
   refine gN <| ge <| tn <| gr <| br <| tr ?_
   exact gz1
  ·refine gS <| gR <| g2 r_eql ?_
   refine gN <| ge <| tn ?_
   refine gi dT dF ?_ ?_
   ·refine gS <| gR <| gM ?_
    refine gF 1 Tryz.underlying38 ti_3 ?_
    refine gB 0 tU3 ?_
    refine gF 2 Tryz.underlying38 ti_3 ?_
    refine gB 0 tU3 ?_
    refine gF 3 Tryz.underlying38 ti_3 ?_
    refine gB 0 tU3 <| gT1 ?_
    refine gC [0] Tryz.func53 fun _ t => gE fun n => gQ ?_
    refine gN <| ge <| tn <| gr <| br <| tr ?_
    exact gz1
   ·refine gS <| gR <| g2 r_eql ?_
    refine gN <| ge <| tn ?_
    refine gi dT dF ?_ ?_
    ·refine gS <| gR <| gM ?_
     refine gF 1 Tryz.underlying38 ti_3 ?_
     refine gB 0 tU3 ?_
     refine gF 5 Tryz.underlying38 ti_9 ?_
     refine gB 0 tU9 ?_
     refine gF 6 Tryz.underlying38 ti_9 ?_
     refine gB 0 tU9 <| gT1 ?_
     refine gC [0] Tryz.func54 fun _ u => gE fun o => gQ ?_
     refine gN <| ge <| tn <| gr <| br <| tr ?_
     exact gz1
    ·refine gS <| gR <| g2 r_eql ?_
     refine gN <| ge <| tn ?_
     refine gi dT dF ?_ ?_
     ·refine gS <| gR <| gM ?_
      refine gF 1 Tryz.underlying38 ti_3 ?_
      refine gB 0 tU3 ?_
      refine gF 5 Tryz.underlying38 ti_9 ?_
      refine gB 0 tU9 <| gT1 ?_
      refine gC [0] Tryz.func55 fun _ x => gE fun p => gQ ?_
      refine gN <| ge <| tn <| gr <| br <| tr ?_
      exact gz1
     ·refine gS <| gR <| g2 r_eql ?_
      refine gN <| ge <| tn ?_
      refine gi dT dF ?_ ?_
      ·refine gS <| gR <| gM ?_
       refine gF 1 Tryz.underlying38 ti_3 ?_
       refine gB 0 tU3 ?_
       refine gF 6 Tryz.underlying38 ti_9 ?_
       refine gB 0 tU9 <| gT1 ?_
       refine gC [0] Tryz.func56 fun _ y => gE fun q => gQ ?_
       refine gN <| ge <| tn <| gr <| br <| tr ?_
       exact gz1
      ·refine gk <| bn <| tn <| gS <| gR <| gN <| ge <| tn <| gr <| gT1 ?_
       exact gz1
end Go.Proofs.YtghmgfkdnolcdaaGreat
