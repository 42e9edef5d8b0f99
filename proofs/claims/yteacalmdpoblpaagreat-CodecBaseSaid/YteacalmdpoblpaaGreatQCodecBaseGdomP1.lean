/-
  PRINTED BY PROGRAM: for each function its condition (vc), and that this suffices (ok).
-/
import Derived.Test.YteacalmdpoblpaaGreatQCodecBaseGT
namespace Go.Proofs.YteacalmdpoblpaaGreat
open Go.RowKit
set_option linter.unusedVariables false
set_option maxHeartbeats 1000000
set_option maxRecDepth 10000
def dom_Dom_Tree.vc (b : Addr) (R : Value → World → Prop) (w : World) : Prop :=
∀ (c : World) (a : Nat), New w a c → Chg [] w c →
CallK Tryz.prog 116 #[.pointer (some b), .int .i64 0] c [a] (fun v k => ∃ (d : Int) (f : Str) (g : Str) (h : Sl) (i : Sl), v = .agg #[.int .i64 d, .string (Bs f), .string (Bs g), Sl.v h, Sl.v i] ∧
∀ (j : World), Chg [a] k j →
R (.agg #[.int .i64 d, .string (Bs f), .string (Bs g), Sl.v h, Sl.v i]) j)
theorem dom_Dom_Tree.ok (b : Addr) {R : Value → World → Prop} {w : World} (m : dom_Dom_Tree.vc b R w) : Calls Tryz.prog 66 #[.pointer (some b)] w (Ret R) := by
 refine enter [.pointer (some b)] Tryz.func66 rfl Tryz.ntmps66 rfl ?_
 intro a0 r
 unfold dom_Dom_Tree.vc at m
 refine wp_seq (wp_region_lit ?_)
 refine sq (opk_new (fun B => .pointer (some ⟨B, 0, none⟩)) r rfl (r_alloc (cs := [.int .i64 0, .string (Bs []), .string (Bs []), Sl.v Sl.nil, Sl.v Sl.nil]) ti_39 rfl) fun a4 c a s t u x _ => ?_)
 have y : New w a c := t
 have z : Chg [] w c := s
 refine sq_end ?_
 have n := x.kp [(0, .pointer (some b)), (2, .pointer (some (⟨a, 0, none⟩ : Addr)))] rfl
 refine then_normal (wp_seq (wp_region_lit ?_))
 refine sqv n rfl (r_move (n.get rfl)) fun _ o => ?_
 have aa := m c a y  z
 refine sq (opk_call o rfl (r_call (args := #[.pointer (some b), .int .i64 0]) Tryz.func116 (by decide) rfl (map_arr (ml_cons (o.get rfl) (ml_cons rfl ml_nil))) rfl) aa fun ao ap k l _ ab aq ad => ?_)
 obtain ⟨d, f, g, h, i, rfl, af⟩ := ad
 have p := u.kept ab (.head _)
 refine sq (opk_store l p (r_store (vs := [.int .i64 d, .string (Bs f), .string (Bs g), Sl.v h, Sl.v i]) (l.get rfl) (l.get rfl) rfl ti_39 p rfl (ones_all _ rfl)) fun ar j ag ah ai => ?_)
 have aj : Box j a 39 [.int .i64 d, .string (Bs f), .string (Bs g), Sl.v h, Sl.v i] := ah
 have ak : Chg [a] k j := ag
 refine sq_end ?_
 have q := ai.kp [(2, .pointer (some (⟨a, 0, none⟩ : Addr)))] rfl
 refine then_normal ?_
 refine wp_ret ?_
 have al := af j    ak
 exact res_all (vs := [.agg #[.int .i64 d, .string (Bs f), .string (Bs g), Sl.v h, Sl.v i]]) rfl q ⟨res_of_cell q rfl aj Tryz.underlying39 rfl ti_39, trivial⟩ al
end Go.Proofs.YteacalmdpoblpaaGreat
