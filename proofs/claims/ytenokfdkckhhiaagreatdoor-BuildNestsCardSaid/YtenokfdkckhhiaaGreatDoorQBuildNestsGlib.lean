/-
  PRINTED BY PROGRAM: for each function its condition (vc), and that this suffices (ok).
-/
import Derived.Test.YtenokfdkckhhiaaGreatDoorQBuildNestsGT
namespace Go.Proofs.YtenokfdkckhhiaaGreatDoor
open Go.RowKit
set_option linter.unusedVariables false
set_option maxHeartbeats 1000000
set_option maxRecDepth 10000
def slices_Clone__api_Attr_api_Attr_.vc (b : Sl) (R : Value → World → Prop) (w : World) : Prop :=
((b.a.isNone = true) →
R (Sl.v Sl.nil) w) ∧
((b.a.isNone = false) →
∀ (c : World) (d : Nat),New w d c → Chg [] w c →
∀ (_ : Box c d 79 []),
RunK Tryz.prog (Builtin.append_ #[25,25] 25 #[Sl.v (Sl.mk (some ⟨d,0,none⟩) 0 0),Sl.v b]) c [] (fun v g => ∃ (f : Sl),v = Sl.v f ∧
R (Sl.v f) g))
theorem slices_Clone__api_Attr_api_Attr_.ok (b : Sl) {R : Value → World → Prop} {w : World} (h : slices_Clone__api_Attr_api_Attr_.vc b R w) : Calls Tryz.prog 35 #[Sl.v b] w (Ret R) := by
 refine go _ Tryz.func35 Tryz.ntmps35 h ?_
 refine gS <| gR <| gN <| ge <| tn <| gS <| gS <| gR ?_
 refine gM ?_
 refine g2 (fun i j => r_slnil i j tU25) <| ge <| tn ?_
 refine gi id id ?_ ?_
 ·refine gS <| gR <| gN <| ge <| tn <| gr <| tr ?_
  exact gz1
 ·refine gk <| tn <| gS <| gR <| gn (cs := []) (fun B => .slice (some ⟨B,0,none⟩) 0 0) (fun _ _ => r_buildSlice0 tU25 ti_79) fun c d => ?_
  refine gM <| gT1 ?_
  refine gX 0 ?_
  refine gR2 [] r_append fun _ g => gE fun f => gQ ?_
  refine gN <| ge <| tn <| gr ?_
  exact gz1
def slices_IndexFunc__build_node_build_node_.vc (c : Sl) (f : Value) (R : Value → World → Prop) (w : World) : Prop :=
∃ (k : Int → World → Prop) (q : Int → World → Nat),
k 0 w ∧
(∀ (b : Int) (d : World),k b d →
((b < (c.n : Int)) →
((0 : Int) ≤ b ∧ b < (c.n : Int)) ∧ ∃ l : Addr,c.a = some l ∧
∃ (m : Option Addr),(d.cell? (l.add (b.toNat * 1)) = some (.pointer m)) ∧
∃ (g : FuncId) (o p : Array Value),(f = .func (.func g) o p) ∧
Body Tryz.prog g ∧
CallK Tryz.prog g (o ++ #[.pointer m] ++ p) d [] (fun v i => ∃ (j : Bool),v = .bool j ∧
((j = true) →
R (.int .i64 b) i) ∧
((j = false) →
(I64 (b + 1)) ∧
k (b + 1) i ∧ q (b + 1) i < q b d))) ∧
((¬ (b < (c.n : Int))) →
R (.int .i64 (-1)) d))
theorem slices_IndexFunc__build_node_build_node_.ok (c : Sl) (f : Value) {R : Value → World → Prop} {w : World} (r : slices_IndexFunc__build_node_build_node_.vc c f R w) : Calls Tryz.prog 130 #[Sl.v c,f] w (Ret R) := by
 refine go _ Tryz.func130 Tryz.ntmps130 r ?_
 refine gS <| gR <| gN <| ge <| tn <| gS <| gS <| gR ?_
 refine gM ?_
 refine g1 (fun s => r_len s tU54) ?_
 refine gM <| ge <| tn <| gb <| gE fun _ => gE fun mu => ?_
 refine l1 mu (fun b => [(8,.int .i64 b)]) [(0,_),(1,_),(7,_)] (fun _ => []) [] [] fun b d _ => gS <| gR ?_
 refine g2 r_lss <| ge <| tn <| gS ?_
 refine gi dT dF ?_ ?_
 ·refine gk <| tn <| gS <| gb <| gS <| gR <| gM ?_
  refine gN <| ge <| tn <| gS <| gR ?_
  refine gM ?_
  refine gM ?_
  refine gM ?_
  refine gI1 tU54 ti_53 fun l => ?_
  refine gE fun m => gL tU53 <| gE fun g => gE fun o => gE fun p => gA fun hp => ?_
  refine gA fun hb => gCo [] hb (fun _ h => ((h.opv rfl).trans hp)) fun _ i => gE fun j => gQ <| ge <| tn ?_
  refine gi id id ?_ ?_
  ·refine gS <| gR <| gM ?_
   refine gN <| ge <| tn <| gr <| br <| tr <| tr <| br <| tr ?_
   exact gz1
  ·refine gk <| bn <| tn <| gR <| g2s r_addI ?_
   refine gM <| ge ?_
   exact k1 []
 ·refine gx <| te <| te <| bh <| tn <| gS <| gR <| gN <| ge <| tn <| gr ?_
  exact gz1
def slices_IndexFunc__format_slot_format_slot_.vc (c : Sl) (f : Value) (R : Value → World → Prop) (w : World) : Prop :=
∃ (k : Int → World → Prop) (t : Int → World → Nat),
k 0 w ∧
(∀ (b : Int) (d : World),k b d →
((b < (c.n : Int)) →
((0 : Int) ≤ b ∧ b < (c.n : Int)) ∧ ∃ l : Addr,c.a = some l ∧
∃ (m : Int) (o : Str) (p : Sl) (q : Bool),(Cells d (l.add (b.toNat * 4)) [.int .i64 m,.string (Bs o),Sl.v p,.bool q]) ∧
∃ (g : FuncId) (r s : Array Value),(f = .func (.func g) r s) ∧
Body Tryz.prog g ∧
CallK Tryz.prog g (r ++ #[.agg #[.int .i64 m,.string (Bs o),Sl.v p,.bool q]] ++ s) d [] (fun v i => ∃ (j : Bool),v = .bool j ∧
((j = true) →
R (.int .i64 b) i) ∧
((j = false) →
(I64 (b + 1)) ∧
k (b + 1) i ∧ t (b + 1) i < t b d))) ∧
((¬ (b < (c.n : Int))) →
R (.int .i64 (-1)) d))
theorem slices_IndexFunc__format_slot_format_slot_.ok (c : Sl) (f : Value) {R : Value → World → Prop} {w : World} (u : slices_IndexFunc__format_slot_format_slot_.vc c f R w) : Calls Tryz.prog 174 #[Sl.v c,f] w (Ret R) := by
 refine go _ Tryz.func174 Tryz.ntmps174 u ?_
 refine gS <| gR <| gN <| ge <| tn <| gS <| gS <| gR ?_
 refine gM ?_
 refine g1 (fun x => r_len x tU71) ?_
 refine gM <| ge <| tn <| gb <| gE fun _ => gE fun mu => ?_
 refine l1 mu (fun b => [(8,.int .i64 b)]) [(0,_),(1,_),(7,_)] (fun _ => []) [] [] fun b d _ => gS <| gR ?_
 refine g2 r_lss <| ge <| tn <| gS ?_
 refine gi dT dF ?_ ?_
 ·refine gk <| tn <| gS <| gb <| gS <| gR <| gM ?_
  refine gN <| ge <| tn <| gS <| gR ?_
  refine gM ?_
  refine gM ?_
  refine gM ?_
  refine gI1 tU71 ti_125 fun l => ?_
  refine gE fun m => gE fun o => gE fun p => gE fun q => gLN Tryz.underlying125 ti_125 <| gE fun g => gE fun r => gE fun s => gA fun hp => ?_
  refine gA fun hb => gCo [] hb (fun _ h => ((h.opv rfl).trans hp)) fun _ i => gE fun j => gQ <| ge <| tn ?_
  refine gi id id ?_ ?_
  ·refine gS <| gR <| gM ?_
   refine gN <| ge <| tn <| gr <| br <| tr <| tr <| br <| tr ?_
   exact gz1
  ·refine gk <| bn <| tn <| gR <| g2s r_addI ?_
   refine gM <| ge ?_
   exact k1 []
 ·refine gx <| te <| te <| bh <| tn <| gS <| gR <| gN <| ge <| tn <| gr ?_
  exact gz1
def slices_Delete__format_slot_format_slot_.vc (a : Sl) (d : Int) (f : Int) (R : Value → World → Prop) (w : World) : Prop :=
((0 : Int) ≤ d ∧ (d : Int) ≤ f ∧ f ≤ (a.n : Int) ∧ (a.n : Int) ≤ (a.c : Int)) ∧
((d = f) →
R (Sl.v a) w) ∧
((¬ (d = f)) →
∀ (j : World),Chg [] w j →
((0 : Int) ≤ d ∧ d ≤ (a.c : Int)) ∧
((0 : Int) ≤ f ∧ f ≤ (a.n : Int)) ∧
∀ (k : World),Chg [] j k →
RunK Tryz.prog (Builtin.append_ #[71,71] 71 #[Sl.v (Sl.cut a 4 0 d.toNat a.c),Sl.v (Sl.cut a 4 f.toNat a.n a.c)]) k [] (fun v o => ∃ (g : Sl),v = Sl.v g ∧
((0 : Int) ≤ (g.n : Int) ∧ ((g.n : Int) : Int) ≤ (a.n : Int) ∧ (a.n : Int) ≤ (g.c : Int)) ∧
∀ (l : World),Chg [] o l →
RunN Tryz.prog (Builtin.clear_ #[71] 0 #[Sl.v (Sl.cut g 4 (g.n : Int).toNat (a.n : Int).toNat g.c)]) l [] (fun p =>
R (Sl.v g) p)))
theorem slices_Delete__format_slot_format_slot_.ok (a : Sl) (d : Int) (f : Int) {R : Value → World → Prop} {w : World} (q : slices_Delete__format_slot_format_slot_.vc a d f R w) : Calls Tryz.prog 179 #[Sl.v a,.int .i64 d,.int .i64 f] w (Ret R) := by
 refine go _ Tryz.func179 Tryz.ntmps179 q ?_
 refine gS <| gR <| gN <| ge <| tn <| gS <| gR ?_
 refine gM ?_
 refine gM ?_
 refine gM ?_
 refine gM ?_
 refine g1 (fun b => r_len b tU71) ?_
 refine g4s (fun b i m r h => r_slice3 b i m r tU71 ti_125 h) <| ge <| tn <| gS <| gS <| gR ?_
 refine gM ?_
 refine gM ?_
 refine g2 r_eql <| ge <| tn ?_
 refine gi dT dF ?_ ?_
 ·refine gS <| gR <| gM ?_
  refine gN <| ge <| tn <| gr <| tr ?_
  exact gz1
 ·refine gk <| tn <| gS <| gR <| gM ?_
  refine g1 (fun b => r_len b tU71) ?_
  refine gN <| ge <| tn <| gS ?_
  refine gD fun j => gT0 ?_
  refine gW 0 6 [] ?_
  refine gM ?_
  refine gM ?_
  refine g2s (fun b i h => r_sliceH b i tU71 ti_125 h) ?_
  refine gM ?_
  refine gM ?_
  refine g2s (fun b i h => r_sliceL b i tU71 ti_125 h) <| geT fun k => ?_
  refine gO 6 <| gT0 ?_
  refine gR2 [] r_append fun _ o => gE fun g => gQ <| geO ?_
  refine gW 7 1 [] ?_
  refine gN <| geT fun l => ?_
  refine gZ <| tn <| gS <| gR ?_
  refine gM ?_
  refine gM ?_
  refine g1 (fun b => r_len b tU71) ?_
  refine gM ?_
  refine g3s (fun b i m h => r_slice2 b i m tU71 ti_125 h) <| gT0 ?_
  refine gN1 [] r_clear fun p => ge <| tn <| gS <| gR ?_
  refine gM ?_
  refine gN <| ge <| tn <| gr ?_
  exact gz1
end Go.Proofs.YtenokfdkckhhiaaGreatDoor
