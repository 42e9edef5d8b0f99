/-
  PRINTED BY PROGRAM: for each function its condition (vc), and that this suffices (ok).
-/
import Derived.Test.YtenokfdkckhhiaaGreatDoorQBuildNestsGT
namespace Go.Proofs.YtenokfdkckhhiaaGreatDoor
open Go.RowKit
set_option linter.unusedVariables false
set_option maxHeartbeats 1000000
set_option maxRecDepth 10000
def ref11_All.vc (q : Str) (R : Value → World → Prop) (w : World) : Prop :=
CallK Tryz.prog 28 #[.string (Bs q)] w [] (fun v w4 => ∃ (aa : Str),v = .string (Bs aa) ∧
∃ (r : Sl → Str → Int → World → Prop) (s : Sl → Str → Int → World → Nat),
r Sl.nil ([] : Str) 0 w4 ∧
(∀ (d : Sl) (b : Str) (f : Int) (k : World),r d b f k →
CallK Tryz.prog 29 #[.string (Bs aa),.int .i64 f,.string (Bs b)] k [] (fun v g => ∃ (a : Int) (c : Str) (t : Str) (u : Sl) (x : Bool) (h : Int) (y : Bool),v = .tuple #[.agg #[.int .i64 a,.string (Bs c),.string (Bs t),Sl.v u,.bool x],.int .i64 h,.bool y] ∧
((y = false) →
∀ (l : World) (i : Nat),New g i l → Chg [] g l →
r d b h l ∧ s d b h l < s d b f k) ∧
((y = true) →
∀ (j : World) (i : Nat) (m : Nat),New g i j → New g m j → i ≠ m → Chg [] g j →
∀ (_ : Box j m 51 [.int .i64 a,.string (Bs c),.string (Bs t),Sl.v u,.bool x]),
RunK Tryz.prog (Builtin.append_ #[22,22] 22 #[Sl.v d,Sl.v (Sl.mk (some ⟨m,0,none⟩) 1 1)]) j [i] (fun v n => ∃ (o : Sl),v = Sl.v o ∧
((a = 6) →
R (Sl.v o) n) ∧
((¬ (a = 6)) →
∃ (p : Int),(((a = 1)) → Calls Tryz.prog 30 #[.string (Bs c)] n (Ret fun v w' => Ext n w' ∧ v = .int .i64 p)) ∧
(∀ z : World,Ext n z →
r o (bif ((decide (a = 1)) && (decide (0 < p))) then c else (bif ((decide (a = 1)) || ((decide (a = 2)) && (decide (c = b)))) then ([] : Str) else b)) h z ∧ s o (bif ((decide (a = 1)) && (decide (0 < p))) then c else (bif ((decide (a = 1)) || ((decide (a = 2)) && (decide (c = b)))) then ([] : Str) else b)) h z < s d b f k)))))))
theorem ref11_All.ok (q : Str) {R : Value → World → Prop} {w : World} (ad : ref11_All.vc q R w) : Calls Tryz.prog 16 #[.string (Bs q)] w (Ret R) := by
 refine go _ Tryz.func16 Tryz.ntmps16 ad ?_
 refine gS <| gR <| gN <| ge <| tn <| gS <| gR ?_
 refine gM ?_
 refine gC [] Tryz.func28 fun _ w4 => gE fun aa => gQ ?_
 refine gN <| ge <| tn <| gS <| gR ?_
 refine gN <| ge <| tn <| gS <| gR ?_
 refine gN <| ge <| tn <| gS <| gR ?_
 refine gN <| ge <| tn <| gb <| gE fun _ => gE fun mu => ?_
 refine l3 mu (fun d b f => [(4,Sl.v d),(5,.string (Bs b)),(6,.int .i64 f)]) [(3,_)] (fun _ _ _ => []) [] [] fun d b f k _ => gb <| gS <| gR ?_
 refine gM ?_
 refine gM ?_
 refine gM ?_
 refine gC [] Tryz.func29 fun _ g => gE fun a => gE fun c => gE fun t => gE fun u => gE fun x => gE fun h => gE fun y => gQ ?_
 refine gM ?_
 refine gx1 ?_
 refine gx1 ?_
 refine gx1 ?_
 refine na ti_51 fun af i => ?_
 refine wn 0 0 ti_51 fun l => ?_
 refine gN ?_
 refine gN <| ge <| tn <| gS <| gR ?_
 refine gM ?_
 refine gN <| ge <| tn <| gS <| gS <| gR ?_
 refine gM ?_
 refine g1 r_not <| ge <| tn ?_
 refine gi nT nF ?_ ?_
 ·exact gx <| te <| bh <| gT1 <| k3 []
 ·refine gk <| tn <| gS <| gR <| gM ?_
  refine gBN 0 5 Tryz.underlying51 ti_51 ?_
  refine ns [.int .i64 a,.string (Bs c),.string (Bs t),Sl.v u,.bool x] tU22 ti_51 fun j m => gT2 ?_
  refine gX 0 ?_
  refine gR2 [1] r_append fun _ n => gE fun o => gQ ?_
  refine gN <| ge <| tn <| gb <| gS <| gR ?_
  refine gF 0 Tryz.underlying51 ti_3 ?_
  refine gB 0 tU3 ?_
  refine g2 r_eql ?_
  refine gN <| ge <| tn ?_
  refine gi dT dF ?_ ?_
  ·refine gS <| gR <| gM ?_
   refine gN <| ge <| tn <| gr <| br <| br <| tr <| br ?_
   exact gz1
  ·refine gS <| gR <| gF 0 Tryz.underlying51 ti_3 ?_
   refine gB 0 tU3 ?_
   refine g2 r_eql ?_
   refine gM ?_
   refine GF 1 Tryz.underlying51 ti_9 ?_
   refine GB 0 tU9 ?_
   refine gE fun p => GC Tryz.func30 (fun hg => (dT (g_t hg))) fun z => ?_
   refine G2 r_gtr ?_
   refine gpa ?_
   refine gN <| ge <| tn ?_
   refine gp [(5,.string (Bs (bif ((decide (a = 1)) && (decide (0 < p))) then c else (bif ((decide (a = 1)) || ((decide (a = 2)) && (decide (c = b)))) then ([] : Str) else b))))] [(3,_),(4,_),(6,_)] (fun hc => ?_) (fun hc => ?_) ?_
   ·refine gR <| gF 1 Tryz.underlying51 ti_9 ?_
    refine gB 0 tU9 ?_
    refine gN <| ge ?_
    exact gp' ⟨by rw [hc]; rfl,trivial⟩
   ·refine gS <| gS <| gR <| gF 0 Tryz.underlying51 ti_3 ?_
    refine gB 0 tU3 ?_
    refine g2 r_eql ?_
    refine gN <| ge <| tn ?_
    refine gp [(44,.bool ((decide (a = 1)) || ((decide (a = 2)) && (decide (c = b)))))] [(3,_),(4,_),(5,_),(6,_)] (fun hc => ?_) (fun hc => ?_) ?_
    ·exact gk <| gp' ⟨by rw [hc]; rfl,trivial⟩
    ·refine gR <| gF 0 Tryz.underlying51 ti_3 ?_
     refine gB 0 tU3 ?_
     refine g2 r_eql ?_
     refine gM ?_
     refine GF 1 Tryz.underlying51 ti_9 ?_
     refine GB 0 tU9 ?_
     refine G1 r_move ?_
     refine G2 r_seql ?_
     refine gpa ?_
     refine gN <| ge ?_
     exact gp' ⟨by rw [hc]; rfl,trivial⟩
    ·refine tn ?_
     refine gp [(5,.string (Bs (bif ((decide (a = 1)) || ((decide (a = 2)) && (decide (c = b)))) then ([] : Str) else b)))] [(3,_),(4,_),(6,_)] (fun hc => ?_) (fun hc => ?_) ?_
     ·refine gR <| gN <| ge ?_
      exact gp' ⟨by rw [hc]; rfl,trivial⟩
     ·exact gk <| gp' ⟨by rw [hc]; rfl,trivial⟩
     ·exact gp' ⟨by rw [hc]; rfl,trivial⟩
   ·exact bn <| bn <| k3 []
end Go.Proofs.YtenokfdkckhhiaaGreatDoor
