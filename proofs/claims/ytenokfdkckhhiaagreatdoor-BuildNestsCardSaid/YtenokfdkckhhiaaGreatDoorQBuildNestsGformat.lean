/-
  PRINTED BY PROGRAM: for each function its condition (vc), and that this suffices (ok).
-/
import Derived.Test.YtenokfdkckhhiaaGreatDoorQBuildNestsGT
namespace Go.Proofs.YtenokfdkckhhiaaGreatDoor
open Go.RowKit
set_option linter.unusedVariables false
set_option maxHeartbeats 1000000
set_option maxRecDepth 10000
def format_New.vc  (R : Value → World → Prop) (w : World) : Prop :=
∀ (a : World) (b : Nat),New w b a → Chg [] w a →
∀ (_ : Box a b 73 [Sl.v Sl.nil]),
R (.pointer (some (⟨b,0,none⟩ : Addr))) a
theorem format_New.ok  {R : Value → World → Prop} {w : World} (c : format_New.vc  R w) : Calls Tryz.prog 19 #[] w (Ret R) := by
 refine go _ Tryz.func19 Tryz.ntmps19 c ?_
 refine gS <| gR <| gN <| ge <| tn <| gS <| gR ?_
 refine gbu ti_73 Tryz.underlying73 pl_73 (OPs.of rfl) ?_
 refine nb fun a b => ?_
 refine gN <| ge <| tn <| gr <| gT1 ?_
 refine gX 0 ?_
 exact gz1
def format_List_from.vc (d : Addr) (R : Value → World → Prop) (w : World) : Prop :=
∃ (i : Sl),(w.cell? (d.add 0) = some (Sl.v i)) ∧
∃ (j : Int → World → Prop) (l : Int → World → Nat),
j (i.n : Int) w ∧
(∀ (b : Int) (c : World),j b c →
∃ (f : Sl),(((0 < b)) → c.cell? (d.add 0) = some (Sl.v f)) ∧
(((0 < b)) → I64 (b - 1)) ∧
∃ k : Addr,(((0 < b)) → ((0 : Int) ≤ b - 1 ∧ b - 1 < (f.n : Int)) ∧  f.a = some k) ∧
∃ (g : Bool),(((0 < b)) → c.cell? ((k.add ((b - 1).toNat * 4)).add 3) = some (.bool g)) ∧
(((0 < b) ∧ (g = false)) →
(I64 (b - 1)) ∧
j (b - 1) c ∧ l (b - 1) c < l b c) ∧
(((¬ (0 < b)) ∨ (g = true)) →
R (.int .i64 b) c))
theorem format_List_from.ok (d : Addr) {R : Value → World → Prop} {w : World} (m : format_List_from.vc d R w) : Calls Tryz.prog 135 #[.pointer (some d)] w (Ret R) := by
 refine go _ Tryz.func135 Tryz.ntmps135 m ?_
 refine gS <| gR <| gN <| ge <| tn <| gS <| gR ?_
 refine gM ?_
 refine g1 r_nilCheck ?_
 refine gF 0 Tryz.underlying73 ti_71 ?_
 refine gE fun i => gL tU71 ?_
 refine g1 (fun o => r_len o tU71) ?_
 refine gN <| ge <| tn <| gS <| gb <| gE fun _ => gE fun mu => ?_
 refine l1 mu (fun b => [(3,.int .i64 b)]) [(0,_)] (fun _ => []) [] [] fun b c _ => gS <| gS <| gR ?_
 refine gM ?_
 refine g2 r_gtr ?_
 refine gM ?_
 refine G1 r_move ?_
 refine G1 r_nilCheck ?_
 refine GF 0 Tryz.underlying73 ti_71 ?_
 refine gE fun f => GLd tU71 (fun hg => (dT (g_t hg))) ?_
 refine G1 r_move ?_
 refine G2s r_subI (fun hg => (dT (g_t hg))) ?_
 refine GI2 tU71 ti_125 (fun hg => (dT (g_t hg))) fun k => ?_
 refine GF 3 Tryz.underlying125 ti_4 ?_
 refine gE fun g => GLd tU4 (fun hg => (dT (g_t hg))) ?_
 refine G1 r_not ?_
 refine gpa <| ge <| tn ?_
 refine gi (fun h => ⟨(dT (aT h).1),(nT (aT h).2)⟩) (fun h => ((aF h).imp (fun h => (dF h)) (fun h => (nF h)))) ?_ ?_
 ·refine gk <| tn <| gb <| gR <| gM ?_
  refine g2s r_subI ?_
  refine gN <| ge <| bn ?_
  exact k1 []
 ·refine gx <| te <| te <| bh <| tn <| gS <| gR <| gM ?_
  refine gN <| ge <| tn <| gr ?_
  exact gz1
def format_List_Len.vc (a : Addr) (R : Value → World → Prop) (w : World) : Prop :=
∃ (b : Sl),(w.cell? (a.add 0) = some (Sl.v b)) ∧
R (.int .i64 (b.n : Int)) w
theorem format_List_Len.ok (a : Addr) {R : Value → World → Prop} {w : World} (c : format_List_Len.vc a R w) : Calls Tryz.prog 136 #[.pointer (some a)] w (Ret R) := by
 refine go _ Tryz.func136 Tryz.ntmps136 c ?_
 refine gS <| gR <| gN <| ge <| tn <| gS <| gR ?_
 refine gM ?_
 refine g1 r_nilCheck ?_
 refine gF 0 Tryz.underlying73 ti_71 ?_
 refine gE fun b => gL tU71 ?_
 refine g1 (fun d => r_len d tU71) ?_
 refine gN <| ge <| tn <| gr ?_
 exact gz1
def format_List_At.vc (d : Addr) (b : Int) (R : Value → World → Prop) (w : World) : Prop :=
∀ (c : World) (f : Nat),New w f c → Chg [] w c →
∃ (g : Sl),(((¬ (b < 0))) → c.cell? (d.add 0) = some (Sl.v g)) ∧
(((b < 0) ∨ ((g.n : Int) ≤ b)) →
∀ (m : World),Chg [f] c m →
R (.tuple #[.agg #[.int .i64 0,.string (Bs []),Sl.v Sl.nil],.bool false]) m) ∧
(((¬ (b < 0)) ∧ (¬ ((g.n : Int) ≤ b))) →
∃ (i : Sl),(c.cell? (d.add 0) = some (Sl.v i)) ∧
((0 : Int) ≤ b ∧ b < (i.n : Int)) ∧ ∃ o : Addr,i.a = some o ∧
∃ (p : Int) (q : Str) (r : Sl),(Cells c ((o.add (b.toNat * 4)).add 0) [.int .i64 p,.string (Bs q),Sl.v r]) ∧
CallK Tryz.prog 158 #[.agg #[.int .i64 p,.string (Bs q),Sl.v r]] c [f] (fun v u => ∃ (j : Int) (k : Str) (l : Sl),v = .agg #[.int .i64 j,.string (Bs k),Sl.v l] ∧
∀ (t : World),Chg [f] u t →
R (.tuple #[.agg #[.int .i64 j,.string (Bs k),Sl.v l],.bool true]) t))
theorem format_List_At.ok (d : Addr) (b : Int) {R : Value → World → Prop} {w : World} (x : format_List_At.vc d b R w) : Calls Tryz.prog 138 #[.pointer (some d),.int .i64 b] w (Ret R) := by
 refine go _ Tryz.func138 Tryz.ntmps138 x ?_
 refine gS <| gR <| na ti_123 fun c f => ?_
 refine gN <| ge <| tn <| gS <| gS <| gR ?_
 refine gM ?_
 refine g2 r_lss ?_
 refine gM ?_
 refine G1 r_move ?_
 refine G1 r_move ?_
 refine G1 r_nilCheck ?_
 refine GF 0 Tryz.underlying73 ti_71 <| gT1 ?_
 refine gE fun g => GLd tU71 (fun hg => (dF (g_f hg))) ?_
 refine G1 (fun y => r_len y tU71) ?_
 refine G2 r_geq ?_
 refine gpo <| ge <| tn ?_
 refine gi (fun h => ((oT h).imp (fun h => (dT h)) (fun h => (dT h)))) (fun h => ⟨(dF (oF h).1),(dF (oF h).2)⟩) ?_ ?_
 ·refine gS <| gR <| gbu ti_123 Tryz.underlying123 pl_123 (OPs.of rfl) ?_
  refine wo 0 ti_123 fun m => ?_
  refine gN <| ge <| tn <| gr <| tr <| gT0 ?_
  exact gz [.agg #[.int .i64 0,.string (Bs []),Sl.v Sl.nil],.bool false] rfl (fun _ s => ⟨res_of_cell s.ag rfl (s.bx 0 rfl) Tryz.underlying123 rfl ti_123,res_of_tmp s.ag rfl,trivial⟩)
 ·refine gk <| tn <| gS <| gR <| gM ?_
  refine g1 r_nilCheck ?_
  refine gF 0 Tryz.underlying73 ti_71 ?_
  refine gE fun i => gL tU71 ?_
  refine gM ?_
  refine gI1 tU71 ti_125 fun o => ?_
  refine gF 0 Tryz.underlying125 ti_123 ?_
  refine gE fun p => gE fun q => gE fun r => gLN Tryz.underlying123 ti_123 ?_
  refine gC [0] Tryz.func158 fun _ u => gE fun j => gE fun k => gE fun l => gQ ?_
  refine wo 0 ti_123 fun t => ?_
  refine gN <| ge <| tn <| gr <| gT0 ?_
  exact gz [.agg #[.int .i64 j,.string (Bs k),Sl.v l],.bool true] rfl (fun _ s => ⟨res_of_cell s.ag rfl (s.bx 0 rfl) Tryz.underlying123 rfl ti_123,res_of_tmp s.ag rfl,trivial⟩)
def format_Entry_clone.vc (d : Int) (f : Str) (g : Sl) (R : Value → World → Prop) (w : World) : Prop :=
∀ (a : World) (b : Nat) (c : Nat),New w b a → New w c a → b ≠ c → Chg [] w a →
CallK Tryz.prog 35 #[Sl.v g] a [b,c] (fun v j => ∃ (h : Sl),v = Sl.v h ∧
∀ (i : World),Chg [c,b] j i →
R (.agg #[.int .i64 d,.string (Bs f),Sl.v h]) i)
theorem format_Entry_clone.ok (d : Int) (f : Str) (g : Sl) {R : Value → World → Prop} {w : World} (k : format_Entry_clone.vc d f g R w) : Calls Tryz.prog 158 #[.agg #[.int .i64 d,.string (Bs f),Sl.v g]] w (Ret R) := by
 refine go _ Tryz.func158 Tryz.ntmps158 k ?_
 refine gS <| gR <| nb fun l b => ?_
 refine na ti_123 fun a c => ge <| tn <| gS <| gR ?_
 refine gF 2 Tryz.underlying123 ti_25 ?_
 refine gB 1 tU25 <| gT2 ?_
 refine gC [1,0] Tryz.func35 fun _ j => gE fun h => gQ ?_
 refine gF 2 Tryz.underlying123 ti_25 ?_
 refine wo 1 ti_25 fun m => ge <| tn <| gS <| gR ?_
 refine gBN 1 3 Tryz.underlying123 ti_123 ?_
 refine wo 0 ti_123 fun i => ge <| tn <| gr <| gT0 ?_
 exact gzB 0 Tryz.underlying123 ti_123
def format_List_Place.vc (d : Addr) (g : Int) (R : Value → World → Prop) (w : World) : Prop :=
∀ (a : World) (b : Nat),New w b a → Chg [] w a →
∃ (h : Sl),(a.cell? (d.add 0) = some (Sl.v h)) ∧
∀ (_ : Box a b 3 [.int .i64 g]),
CallK Tryz.prog 174 #[Sl.v h,.func (.func 175) #[] #[.pointer (some (⟨b,0,none⟩ : Addr))]] a [] (fun v j => ∃ (i : Int),v = .int .i64 i ∧
R (.int .i64 i) j)
theorem format_List_Place.ok (d : Addr) (g : Int) {R : Value → World → Prop} {w : World} (k : format_List_Place.vc d g R w) : Calls Tryz.prog 159 #[.pointer (some d),.int .i64 g] w (Ret R) := by
 refine go _ Tryz.func159 Tryz.ntmps159 k ?_
 refine gS <| gR <| nb fun a b => ?_
 refine gN <| ge <| tn <| gS <| gR ?_
 refine gM ?_
 refine g1 r_nilCheck ?_
 refine gF 0 Tryz.underlying73 ti_71 <| gT1 ?_
 refine gE fun h => gL tU71 ?_
 refine g1 (fun l => r_makeFunc (f := #[]) (c := #[pB b 0]) (map_arr ml_nil) (map_arr (ml_cons l ml_nil))) ?_
 refine gX 0 ?_
 refine gC [] Tryz.func174 fun _ j => gE fun i => gQ ?_
 refine gN <| ge <| tn <| gr ?_
 exact gz1
def format_List_Last.vc (d : Addr) (g : Str) (R : Value → World → Prop) (w : World) : Prop :=
∀ (h : World) (f : Nat),New w f h → Chg [] w h →
∃ (i : Sl),(h.cell? (d.add 0) = some (Sl.v i)) ∧
(I64 ((i.n : Int) - 1)) ∧
∃ (t : Int → World → Prop) (af : Int → World → Nat),
t ((i.n : Int) - 1) h ∧
(∀ (b : Int) (j : World),t b j →
CallK Tryz.prog 135 #[.pointer (some d)] j [f] (fun v c => ∃ (k : Int),v = .int .i64 k ∧
((k ≤ b) →
∃ (l : Sl),(c.cell? (d.add 0) = some (Sl.v l)) ∧
((0 : Int) ≤ b ∧ b < (l.n : Int)) ∧ ∃ u : Addr,l.a = some u ∧
∃ (m : Str),(c.cell? (((u.add (b.toNat * 4)).add 0).add 1) = some (.string (Bs m))) ∧
((m = g) →
∃ (o : Sl),(c.cell? (d.add 0) = some (Sl.v o)) ∧
((0 : Int) ≤ b ∧ b < (o.n : Int)) ∧ ∃ x : Addr,o.a = some x ∧
∃ (y : Int) (z : Str) (aa : Sl),(Cells c ((x.add (b.toNat * 4)).add 0) [.int .i64 y,.string (Bs z),Sl.v aa]) ∧
CallK Tryz.prog 158 #[.agg #[.int .i64 y,.string (Bs z),Sl.v aa]] c [f] (fun v ah => ∃ (p : Int) (q : Str) (r : Sl),v = .agg #[.int .i64 p,.string (Bs q),Sl.v r] ∧
∀ (ab : World),Chg [f] ah ab →
R (.tuple #[.agg #[.int .i64 p,.string (Bs q),Sl.v r],.bool true]) ab)) ∧
((¬ (m = g)) →
(I64 (b - 1)) ∧
t (b - 1) c ∧ af (b - 1) c < af b j)) ∧
((¬ (k ≤ b)) →
∀ (ad : World),Chg [f] c ad →
R (.tuple #[.agg #[.int .i64 0,.string (Bs []),Sl.v Sl.nil],.bool false]) ad)))
theorem format_List_Last.ok (d : Addr) (g : Str) {R : Value → World → Prop} {w : World} (ai : format_List_Last.vc d g R w) : Calls Tryz.prog 164 #[.pointer (some d),.string (Bs g)] w (Ret R) := by
 refine go _ Tryz.func164 Tryz.ntmps164 ai ?_
 refine gS <| gR <| na ti_123 fun h f => ?_
 refine gN <| ge <| tn <| gS <| gS <| gR ?_
 refine gM ?_
 refine g1 r_nilCheck ?_
 refine gF 0 Tryz.underlying73 ti_71 <| gT1 ?_
 refine gE fun i => gL tU71 ?_
 refine g1 (fun aj => r_len aj tU71) ?_
 refine g2s r_subI ?_
 refine gN <| ge <| tn <| gb <| gE fun _ => gE fun mu => ?_
 refine l1 mu (fun b => [(6,.int .i64 b)]) [(0,_),(1,_),(4,_)] (fun _ => []) [(f,_,_)] [0] fun b j _ => gS <| gS <| gR ?_
 refine gM ?_
 refine gM ?_
 refine gC [0] Tryz.func135 fun _ c => gE fun k => gQ ?_
 refine g2 r_geq <| ge <| tn ?_
 refine gi dT dF ?_ ?_
 ·refine gk <| tn <| gS <| gb <| gS <| gR <| gM ?_
  refine g1 r_nilCheck ?_
  refine gF 0 Tryz.underlying73 ti_71 ?_
  refine gE fun l => gL tU71 ?_
  refine gM ?_
  refine gI1 tU71 ti_125 fun u => ?_
  refine gF 0 Tryz.underlying125 ti_123 ?_
  refine gF 1 Tryz.underlying123 ti_9 ?_
  refine gE fun m => gL tU9 ?_
  refine gM ?_
  refine g2 r_seql <| ge <| tn ?_
  refine gi dT dF ?_ ?_
  ·refine gS <| gR <| gM ?_
   refine g1 r_nilCheck ?_
   refine gF 0 Tryz.underlying73 ti_71 ?_
   refine gE fun o => gL tU71 ?_
   refine gM ?_
   refine gI1 tU71 ti_125 fun x => ?_
   refine gF 0 Tryz.underlying125 ti_123 ?_
   refine gE fun y => gE fun z => gE fun aa => gLN Tryz.underlying123 ti_123 ?_
   refine gC [0] Tryz.func158 fun _ ah => gE fun p => gE fun q => gE fun r => gQ ?_
   refine wo 0 ti_123 fun ab => ?_
   refine gN <| ge <| tn <| gr <| br <| tr <| tr <| br <| tr <| gT0 ?_
   exact gz [.agg #[.int .i64 p,.string (Bs q),Sl.v r],.bool true] rfl (fun _ s => ⟨res_of_cell s.ag rfl (s.bx 0 rfl) Tryz.underlying123 rfl ti_123,res_of_tmp s.ag rfl,trivial⟩)
  ·refine gk <| bn <| tn <| gR <| gM ?_
   refine g2s r_subI ?_
   refine gN <| ge ?_
   exact k1 [0]
 ·refine gx <| te <| te <| bh <| tn <| gS <| gR <| gbu ti_123 Tryz.underlying123 pl_123 (OPs.of rfl) ?_
  refine wo 0 ti_123 fun ad => ?_
  refine gN <| ge <| tn <| gr <| gT0 ?_
  exact gz [.agg #[.int .i64 0,.string (Bs []),Sl.v Sl.nil],.bool false] rfl (fun _ s => ⟨res_of_cell s.ag rfl (s.bx 0 rfl) Tryz.underlying123 rfl ti_123,res_of_tmp s.ag rfl,trivial⟩)
def format_List_Remove.vc (c : Addr) (f : Int) (R : Value → World → Prop) (w : World) : Prop :=
CallK Tryz.prog 159 #[.pointer (some c),.int .i64 f] w [] (fun v g => ∃ (a : Int),v = .int .i64 a ∧
((0 ≤ a) →
∃ (k : Sl),(g.cell? (c.add 0) = some (Sl.v k)) ∧
(I64 (a + 1)) ∧
CallK Tryz.prog 179 #[Sl.v k,.int .i64 a,.int .i64 (a + 1)] g [] (fun v l => ∃ (m : Sl),v = Sl.v m ∧
∃ (d h : Nat) (n : TypeId) (i : List Value),(c.add 0) = ⟨d,h,none⟩ ∧ Box l d n i ∧ h + 1 ≤ i.length ∧ (∀ b ∈ [],b ≠ d) ∧
(∀ j : World,Chg [d] l j → Box j d n (putAt i h [Sl.v m]) →
R (.bool (decide (0 ≤ a))) j))) ∧
((¬ (0 ≤ a)) →
R (.bool (decide (0 ≤ a))) g))
theorem format_List_Remove.ok (c : Addr) (f : Int) {R : Value → World → Prop} {w : World} (o : format_List_Remove.vc c f R w) : Calls Tryz.prog 165 #[.pointer (some c),.int .i64 f] w (Ret R) := by
 refine go _ Tryz.func165 Tryz.ntmps165 o ?_
 refine gS <| gR <| gN <| ge <| tn <| gS <| gR ?_
 refine gM ?_
 refine gM ?_
 refine gC [] Tryz.func159 fun _ g => gE fun a => gQ ?_
 refine gN <| ge <| tn <| gS <| gS <| gR ?_
 refine gM ?_
 refine g2 r_geq <| ge <| tn ?_
 refine gi dT dF ?_ ?_
 ·refine gR <| gM ?_
  refine gM ?_
  refine g1 r_nilCheck ?_
  refine gF 0 Tryz.underlying73 ti_71 ?_
  refine gE fun k => gL tU71 ?_
  refine gM ?_
  refine gM ?_
  refine g2s r_addI ?_
  refine gC [] Tryz.func179 fun _ l => gE fun m => gQ ?_
  refine g1 r_nilCheck ?_
  refine gF 0 Tryz.underlying73 ti_71 ?_
  refine wx [] ti_71 fun d h n i j => ge <| tn <| gS <| gR ?_
  refine gM ?_
  refine g2 r_geq ?_
  refine gN <| ge <| tn <| gr ?_
  exact gz1
 ·refine gk <| tn <| gS <| gR <| gM ?_
  refine g2 r_geq ?_
  refine gN <| ge <| tn <| gr ?_
  exact gz1
def format_List_Push.vc (j : Addr) (ab : Int) (ad : Str) (af : Sl) (R : Value → World → Prop) (w : World) : Prop :=
∀ (w4 : World) (k : Nat),New w k w4 → Chg [] w w4 →
CallK Tryz.prog 180 #[.agg #[.int .i64 ab,.string (Bs ad),Sl.v af]] w4 [k] (fun v w7 => ∃ (x : Str) (y : Str),v = .agg #[.string (Bs x),.string (Bs y)] ∧
∀ (aG : World) (u : Nat),New w7 u aG → Chg [] w7 aG →
RunK Tryz.prog (Instr.makeMap 172 none) aG [k,u] (fun v bC => ∃ (o : Option Nat),v = .map o ∧
CallK Tryz.prog 135 #[.pointer (some j)] bC [k,u] (fun v bD => ∃ (a0 : Int),v = .int .i64 a0 ∧
∃ (a1 : Int → Int → World → Prop) (bF : Int → Int → World → Nat),
a1 (-1) a0 bD ∧
(∀ (m : Int) (l : Int) (z : World),a1 m l z →
∃ (aH : Sl),(z.cell? (j.add 0) = some (Sl.v aH)) ∧
((l < (aH.n : Int)) →
∃ (aI : Sl),(z.cell? (j.add 0) = some (Sl.v aI)) ∧
((0 : Int) ≤ l ∧ l < (aI.n : Int)) ∧ ∃ a2 : Addr,aI.a = some a2 ∧
∃ (a3 : Int) (a4 : Str) (a5 : Sl),(Cells z ((a2.add (l.toNat * 4)).add 0) [.int .i64 a3,.string (Bs a4),Sl.v a5]) ∧
CallK Tryz.prog 180 #[.agg #[.int .i64 a3,.string (Bs a4),Sl.v a5]] z [k,u] (fun v a6 => ∃ (p : Str) (q : Str),v = .agg #[.string (Bs p),.string (Bs q)] ∧
∀ (ap : World) (ah : Nat),New a6 ah ap → Chg [] a6 ap →
∃ (aa : Int),(∀ w' : World,Ext ap w' → (Instr.lookup 172 (.map o) (.agg #[.string (Bs p),.string (Bs q)]) false).run Tryz.prog w' = .ok (.int .i64 aa) w') ∧
(I64 (aa + 1)) ∧
RunK Tryz.prog (Instr.mapEntry 172 (.map o) (.agg #[.string (Bs p),.string (Bs q)])) ap [k,u,ah] (fun v aJ => ∃ (aK : Int) (al : Int),v = .tuple #[.int .i64 aK,.int .i64 al] ∧
(∀ w' : World,Ext aJ w' → (Instr.lookup 172 (.map o) (.agg #[.string (Bs p),.string (Bs q)]) false).run Tryz.prog w' = .ok (.int .i64 aa) w') ∧
∀ (aL : World),Chg [] aJ aL →
RunU Tryz.prog (Instr.entryStore 172 (.map o) (.int .i64 al) (.int .i64 (aa + 1))) aL [k,u,ah] (fun a7 =>
(I64 (l + 1)) ∧
a1 (bif ((decide (p = x ∧ q = y)) && (decide (m < 0))) then l else m) (l + 1) a7 ∧ bF (bif ((decide (p = x ∧ q = y)) && (decide (m < 0))) then l else m) (l + 1) a7 < bF m l z)))) ∧
((¬ (l < (aH.n : Int))) →
∃ (aM : Int),((Instr.lookup 172 (.map o) (.agg #[.string (Bs x),.string (Bs y)]) false).run Tryz.prog z = .ok (.int .i64 aM) z) ∧
∃ a8 : World → Prop,
(((3 ≤ aM) →
∃ (a9 : Sl),(z.cell? (j.add 0) = some (Sl.v a9)) ∧
(I64 (m + 1)) ∧
CallK Tryz.prog 179 #[Sl.v a9,.int .i64 m,.int .i64 (m + 1)] z [k] (fun v ba => ∃ (bb : Sl),v = Sl.v bb ∧
∃ (aq aN : Nat) (bd : TypeId) (aO : List Value),(j.add 0) = ⟨aq,aN,none⟩ ∧ Box ba aq bd aO ∧ aN + 1 ≤ aO.length ∧ (∀ b ∈ [k],b ≠ aq) ∧
(∀ aP : World,Chg [aq] ba aP → Box aP aq bd (putAt aO aN [Sl.v bb]) →
a8 aP))) ∧
((¬ (3 ≤ aM)) →
a8 z)) ∧
(∀ (aQ : World),a8 aQ →
∀ (ai : World),Chg [] aQ ai →
∃ (ao : Sl),(ai.cell? (j.add 0) = some (Sl.v ao)) ∧
∃ am : Int → Str → Sl → World → Prop,(∀ d : Int,∀ f : Str,∀ g : Sl,∀ w' w'' : World,Ext w' w'' → am d f g w' → am d f g w'') ∧
(∀ w' : World,Ext ai w' → Calls Tryz.prog 158 #[.agg #[.int .i64 ab,.string (Bs ad),Sl.v af]] w' (Ret fun v w'' => Ext w' w'' ∧ ∃ d : Int,∃ f : Str,∃ g : Sl,v = .agg #[.int .i64 d,.string (Bs f),Sl.v g] ∧ am d f g w'')) ∧
∀ (an : World) (d : Int) (f : Str) (g : Sl) (r : Nat),Ext ai an → am d f g an → ai.heap.size ≤ r → Box an r 125 [.int .i64 d,.string (Bs f),Sl.v g,.bool false] → 
∀ (_ : Box an r 125 [.int .i64 d,.string (Bs f),Sl.v g,.bool false]),
RunK Tryz.prog (Builtin.append_ #[71,71] 71 #[Sl.v ao,Sl.v (Sl.mk (some ⟨r,0,none⟩) 1 1)]) an [k] (fun v bf => ∃ (ar : Sl),v = Sl.v ar ∧
∀ (au : World),Chg [] bf au →
∀ (av : World),Chg [] au av →
∃ (ax aR : Nat) (bg : TypeId) (aS : List Value),(j.add 0) = ⟨ax,aR,none⟩ ∧ Box av ax bg aS ∧ aR + 1 ≤ aS.length ∧ (∀ b ∈ [k],b ≠ ax) ∧
(∀ az : World,Chg [ax] av az → Box az ax bg (putAt aS aR [Sl.v ar]) →
R (.tuple #[]) az))))))))
theorem format_List_Push.ok (j : Addr) (ab : Int) (ad : Str) (af : Sl) {R : Value → World → Prop} {w : World} (bZ : format_List_Push.vc j ab ad af R w) : Calls Tryz.prog 166 #[.pointer (some j),.agg #[.int .i64 ab,.string (Bs ad),Sl.v af]] w (Ret R) := by
 refine go _ Tryz.func166 Tryz.ntmps166 bZ ?_
 refine gS <| gR <| nb fun w4 k => ge <| tn <| gS <| gR ?_
 refine gBN 0 3 Tryz.underlying123 ti_123 <| gT1 ?_
 refine gC [0] Tryz.func180 fun _ w7 => gE fun x => gE fun y => gQ ?_
 refine na ti_170 fun w9 u => ?_
 refine wn 0 0 ti_170 fun aG => ge <| tn <| gS <| gR <| gT1 ?_
 refine gR0 [1,0] r_makeMap fun _ bC => gE fun o => gQ ?_
 refine gN <| ge <| tn <| gS <| gR ?_
 refine gN <| ge <| tn <| gS <| gS <| gR ?_
 refine gM ?_
 refine gC [1,0] Tryz.func135 fun _ bD => gE fun a0 => gQ ?_
 refine gN <| ge <| tn <| gb <| gE fun _ => gE fun mu => ?_
 refine l2 mu (fun m l => [(6,.int .i64 m),(7,.int .i64 l)]) [(0,_),(3,_),(4,_),(5,_)] (fun _ _ => []) [(k,_,_),(u,_,_)] [1,0] fun m l z _ => gS <| gS <| gR ?_
 refine gM ?_
 refine gM ?_
 refine g1 r_nilCheck ?_
 refine gF 0 Tryz.underlying73 ti_71 ?_
 refine gE fun aH => gL tU71 ?_
 refine g1 (fun bi => r_len bi tU71) ?_
 refine g2 r_lss <| ge <| tn ?_
 refine gi dT dF ?_ ?_
 ·refine gk <| tn <| gS <| gb <| gS <| gR <| gM ?_
  refine g1 r_nilCheck ?_
  refine gF 0 Tryz.underlying73 ti_71 ?_
  refine gE fun aI => gL tU71 ?_
  refine gM ?_
  refine gI1 tU71 ti_125 fun a2 => ?_
  refine gF 0 Tryz.underlying125 ti_123 ?_
  refine gE fun a3 => gE fun a4 => gE fun a5 => gLN Tryz.underlying123 ti_123 ?_
  refine gC [0,1] Tryz.func180 fun _ a6 => gE fun p => gE fun q => gQ ?_
  refine na ti_170 fun d8 ah => ?_
  refine wn 0 0 ti_170 fun d9 => ge <| tn <| gS <| gS <| gR ?_
  refine gBN 0 2 Tryz.underlying170 ti_170 ?_
  refine gBN 2 2 Tryz.underlying170 ti_170 ?_
  refine g2 (fun bi b0 => r_aeql bi b0 (eq_170 _ _ _ _)) ?_
  refine gM ?_
  refine G1 r_move ?_
  refine G2 r_lss ?_
  refine gpa <| ge <| tn ?_
  refine gp [(6,.int .i64 (bif ((decide (p = x ∧ q = y)) && (decide (m < 0))) then l else m))] [(0,_),(3,_),(4,_),(5,_),(7,_),(8,_)] (fun hc => ?_) (fun hc => ?_) ?_
  ·refine gR <| gM ?_
   refine gN <| ge ?_
   exact gp' ⟨by rw [hc]; rfl,trivial⟩
  ·exact gk <| gp' ⟨by rw [hc]; rfl,trivial⟩
  ·refine tn ?_
   intro fa ak b1
   have ay := ak.ag
   have b2 := ak.bx 1 rfl
   have b3 := ak.bx 2 rfl
   have b4 := ak.bx 0 rfl
   have b5 := ak.chg
   have b6 := ak.new ah (by simp)
   have b7 : k ≠ u := ak.ne 1 2
   have fb : k ≠ ah := ak.ne 1 0
   have fc : u ≠ ah := ak.ne 2 0
   let bj : List (List Nat) := [[],[],[0,1],[0,1,2],[0,1],[0,1,4],[0,1,2,3,4,5]]
   refine draw' (by kernel_rfl) fun ap aA => ?_
   have b8 := b2.ext aA
   have b9 := b3.ext aA
   have bG := b4.ext aA
   have ca := b5.more aA
   have cb := b6.up aA.size
   have cc := b1 ap ah cb  ca
   obtain ⟨aa,cd,cf⟩ := cc
   obtain ⟨bk,cg⟩ := cf
   refine startF (D := bj) (Fs := [0,1,2,3]) (Ef := [(0,fun v _ => v = .map o),(1,fun v _ => v = .agg #[.string (Bs p),.string (Bs q)]),(2,fun v _ => v = .int .i64 aa),(3,fun v _ => v = .int .i64 (aa + 1))]) (by kernel_rfl) ?_
   refine oneF (c := 4) ay rfl (by kernel_rfl) (constF ⟨fun _ _ _ h => h,fun _ _ _ h => h,fun _ _ _ h => h,fun _ _ _ h => h,trivial⟩) ⟨?_,?_,?_,?_,trivial⟩ ?_
   ·intro a hT
    have hAp := hT.ag ay [(5,.map o)] ⟨rfl,trivial⟩ (by kernel_rfl)
    exact opk_val hAp rfl (r_move (hAp.get rfl)) fun _ _ e => ⟨_,e,rfl,fun _ => Eq.refl _⟩
   ·intro a hT
    have hAp := hT.ag ay [(8,pB ah 0)] ⟨rfl,trivial⟩ (by kernel_rfl)
    exact opk_val hAp rfl (r_loadN (cs := [.string (Bs p),.string (Bs q)]) Tryz.underlying170 rfl ti_170 (hAp.get rfl) ((bG.ext hT.chg).part 0 _ rfl)) fun _ _ e => ⟨_,e,rfl,fun _ => Eq.refl _⟩
   ·intro a hT
    have hAp := hT.ag ay [] trivial (by kernel_rfl)
    have hAp := hAp.add (t := 40) (v := .map o) (hT.vals 0 rfl 40 rfl)
    have hAp := hAp.add (t := 41) (v := .agg #[.string (Bs p),.string (Bs q)]) (hT.vals 1 rfl 41 rfl)
    exact opk_val hAp rfl (r_lookup (hAp.get rfl) (hAp.get rfl) (cd _ hT.chg)) fun _ _ e => ⟨_,e,rfl,fun _ => Eq.refl _⟩
   ·intro a hT
    have hAp := hT.ag ay [] trivial (by kernel_rfl)
    have hAp := hAp.add (t := 42) (v := .int .i64 aa) (hT.vals 2 rfl 42 rfl)
    exact opk_val hAp rfl (r_addI (hAp.get rfl) rfl bk) fun _ _ e => ⟨_,e,rfl,fun _ => Eq.refl _⟩
   ·intro bH hT
    have ch := hT.ag ay [(0,.pointer (some j)),(3,pB k 0),(4,pB u 0),(5,.map o),(6,.int .i64 (bif ((decide (p = x ∧ q = y)) && (decide (m < 0))) then l else m)),(7,.int .i64 l),(8,pB ah 0)] ⟨rfl,rfl,rfl,rfl,rfl,rfl,rfl,trivial⟩ (by kernel_rfl)
    have ci : bH.tmps.getD 40 undef = .map o := hT.vals 0 rfl 40 rfl
    have cj := ch.add ci
    have ck : bH.tmps.getD 41 undef = .agg #[.string (Bs p),.string (Bs q)] := hT.vals 1 rfl 41 rfl
    have bl := cj.add ck
    refine (opk_run bl rfl (fun _ _ hr => r_mapEntry (bl.get rfl) (bl.get rfl) hr) cg fun fd ff aJ cl cm bo fg cn => ?_)
    refine ⟨_,cm,?_⟩
    obtain ⟨aK,al,rfl,co⟩ := cn
    have cp := b8.kept bo (.head _)
    have cq := b9.kept bo (.tail _ (.head _))
    have cr := bG.kept bo (.tail _ (.tail _ (.head _)))
    obtain ⟨bI,ct⟩ := co
    refine PRF_drop (X := [0,1]) (Fs' := [2,3]) cl (by kernel_rfl) fun bJ cu bK => ?_
    have cv := cu [(0,.pointer (some j)),(3,pB k 0),(4,pB u 0),(5,.map o),(6,.int .i64 (bif ((decide (p = x ∧ q = y)) && (decide (m < 0))) then l else m)),(7,.int .i64 l),(44,.tuple #[.int .i64 aK,.int .i64 al])] ⟨rfl,rfl,rfl,rfl,rfl,rfl,rfl,trivial⟩ (by kernel_rfl)
    have cx : bJ.tmps.getD 40 undef = .map o := bK 0 rfl 40 rfl
    have cy := cv.add cx
    have cz : bJ.tmps.getD 41 undef = .agg #[.string (Bs p),.string (Bs q)] := bK 1 rfl 41 rfl
    have aU := cy.add cz
    refine parF (D := bj) (S := [5]) (F := []) (KE := [5]) (E := [(5,fun v _ => v = .int .i64 al)]) aU rfl (by kernel_rfl) ⟨fun _ _ _ _ h => h,fun _ _ _ _ h => h,fun _ _ _ _ h => h,trivial⟩ ⟨?_,?_,?_,trivial⟩ ?_
    ·intro a w hT
     have hAp := hT.ag aU [(44,.tuple #[.int .i64 aK,.int .i64 al])] ⟨rfl,trivial⟩ (by kernel_rfl)
     exact ovr hAp rfl (r_extract (hAp.get rfl) rfl) fun _ => Eq.refl _
    ·intro a w hT
     have hAp := hT.ag aU [(40,.map o),(41,.agg #[.string (Bs p),.string (Bs q)])] ⟨rfl,rfl,trivial⟩ (by kernel_rfl)
     exact ovr hAp rfl (r_lookup (hAp.get rfl) (hAp.get rfl) (bI _ hT.chg)) fun _ => Eq.refl _
    ·intro a w hT
     have hAp := hT.ag aU [] trivial (by kernel_rfl)
     have hAp := hAp.add (t := 42) (v := .int .i64 aa) (hT.vals 2 rfl 42 rfl)
     exact ovr hAp rfl (r_addI (hAp.get rfl) rfl bk) fun _ => Eq.refl _
    ·intro cA cB aB cD cF
     have cH := cD [(0,.pointer (some j)),(3,pB k 0),(4,pB u 0),(5,.map o),(6,.int .i64 (bif ((decide (p = x ∧ q = y)) && (decide (m < 0))) then l else m)),(7,.int .i64 l),(40,.map o),(41,.agg #[.string (Bs p),.string (Bs q)])] ⟨rfl,rfl,rfl,rfl,rfl,rfl,rfl,rfl,trivial⟩ (by kernel_rfl)
     have cI : cA.tmps.getD 45 undef = .int .i64 al := cF 5 rfl 45 rfl
     have bp := cH.add cI
     have cJ := cp.ext aB
     have cK := cq.ext aB
     have cL := cr.ext aB
     have cM : Chg [] aJ cB := aB
     have bL := fun w' h => bI w' (Chg.trans aB h)
     refine joinF bp (by kernel_rfl) ⟨fun _ _ _ _ h => h,fun _ _ _ _ h => h,trivial⟩ ⟨?_,?_,trivial⟩ ?_
     ·intro a w hT
      have hAp := hT.ag bp [(40,.map o),(41,.agg #[.string (Bs p),.string (Bs q)])] ⟨rfl,rfl,trivial⟩ (by kernel_rfl)
      exact ovr hAp rfl (r_lookup (hAp.get rfl) (hAp.get rfl) (bL _ hT.chg)) fun _ => Eq.refl _
     ·intro a w hT
      have hAp := hT.ag bp [] trivial (by kernel_rfl)
      have hAp := hAp.add (t := 42) (v := .int .i64 aa) (hT.vals 2 rfl 42 rfl)
      exact ovr hAp rfl (r_addI (hAp.get rfl) rfl bk) fun _ => Eq.refl _
     ·intro cN aL aC cO cP
      have cQ := cO [(0,.pointer (some j)),(3,pB k 0),(4,pB u 0),(5,.map o),(6,.int .i64 (bif ((decide (p = x ∧ q = y)) && (decide (m < 0))) then l else m)),(7,.int .i64 l),(40,.map o),(45,.int .i64 al)] ⟨rfl,rfl,rfl,rfl,rfl,rfl,rfl,rfl,trivial⟩ (by kernel_rfl)
      have cS : cN.tmps.getD 43 undef = .int .i64 (aa + 1) := cP 3 rfl 43 rfl
      have aV := cQ.add cS
      have cU := cJ.ext aC
      have cY := cK.ext aC
      have cZ := cL.ext aC
      have c0 := cM.more aC
      have fh := fun w' h => bL w' (Chg.trans aC h)
      have c1 := ct aL    c0
      refine one (D := bj) (i := 6) rfl (by kernel_rfl) (opk_runU aV (fun _ hr => r_entryStore (aV.get rfl) (aV.get rfl) (aV.get rfl) hr) c1 fun fi a7 c2 bq fj c3 => ?_)
      have c4 := cU.kept bq (.head _)
      have c5 := cY.kept bq (.tail _ (.head _))
      have fk := cZ.kept bq (.tail _ (.tail _ (.head _)))
      refine PR_end (by kernel_rfl) ?_
      have c6 := c2.kp [(0,.pointer (some j)),(3,pB k 0),(4,pB u 0),(5,.map o),(6,.int .i64 (bif ((decide (p = x ∧ q = y)) && (decide (m < 0))) then l else m)),(7,.int .i64 l)] rfl
      refine gK (bs := [(u,170,[.string (Bs x),.string (Bs y)]),(k,123,[.int .i64 ab,.string (Bs ad),Sl.v af])]) (N := []) c6 (Chg.refl [] _) ⟨c5,c4,trivial⟩ (by simp [(Ne.symm b7)]) trivial (by simp) c3 ?_
      refine bn <| tn <| gR <| gM ?_
      refine g2s r_addI ?_
      refine gN <| ge ?_
      exact k2 [1,0]
 ·refine gx <| te <| te <| bh <| tn <| gS <| gS <| gR <| gM ?_
  refine gBN 1 2 Tryz.underlying170 ti_170 ?_
  refine gE fun aM => gA fun hx => ev (fun _ s => r_lookup (s.ag.opv rfl) (s.ag.opv rfl) hx) ?_
  refine g2 r_geq <| ge <| tn <| gE fun J => ?_
  refine m0 [] [(0,_),(3,_)] [] [(k,_,_)] [0] ?_ fun  aQ _ => ?_
  ·refine gi dT dF ?_ ?_
   ·refine gR <| gM ?_
    refine gM ?_
    refine g1 r_nilCheck ?_
    refine gF 0 Tryz.underlying73 ti_71 ?_
    refine gE fun a9 => gL tU71 ?_
    refine gM ?_
    refine gM ?_
    refine g2s r_addI ?_
    refine gC [0] Tryz.func179 fun _ ba => gE fun bb => gQ ?_
    refine g1 r_nilCheck ?_
    refine gF 0 Tryz.underlying73 ti_71 ?_
    refine wx [0] ti_71 fun aq aN bd aO aP => ge ?_
    exact j0 [0]
   ·exact gk <| j0 [0]
  ·refine tn ?_
   intro fl bM c7
   have aj := bM.ag
   have c8 := bM.bx 0 rfl
   let aX : List (List Nat) := [[],[],[1],[1,2],[1,2,3],[],[5],[5,6],[5,6,7],[1,2,3,4,5,6,7,8],[0,1,2,3,4,5,6,7,8,9],[0,1,2,3,4,5,6,7,8,9,10],[0,1,2,3,4,5,6,7,8,9,10,11]]
   refine draw' (by kernel_rfl) fun ai bN => ?_
   have bt := c8.ext bN
   have c9 : Chg [] aQ ai := bN
   have da := c7 ai    c9
   refine startF (D := aX) (Fs := [0,1,5]) (Ef := [(0,fun v _ => v = .pointer (some j)),(1,fun v _ => v = .pointer (some j)),(5,fun v _ => v = .agg #[.int .i64 ab,.string (Bs ad),Sl.v af])]) (by kernel_rfl) ?_
   obtain ⟨ao,db,dc⟩ := da
   obtain ⟨am,aY,dd,df⟩ := dc
   refine parF (D := aX) (S := [2,3,4,6,7,8]) (F := []) (KE := [2,3,4,6,7,8]) (E := [(2,fun v _ => v = .pointer (some j)),(3,fun v _ => v = .pointer (some (j.add 0))),(4,fun v _ => v = Sl.v ao),(6,fun v w' => ∃ d : Int,∃ f : Str,∃ g : Sl,am d f g w' ∧ v = .agg #[.int .i64 d,.string (Bs f),Sl.v g]),(7,fun v w' => ∃ d : Int,∃ f : Str,∃ g : Sl,am d f g w' ∧ v = .agg #[.int .i64 d,.string (Bs f),Sl.v g,.bool false]),(8,fun v w' => ∃ d : Int,∃ f : Str,∃ g : Sl,∃ r : Nat,am d f g w' ∧ ai.heap.size ≤ r ∧ Box w' r 125 [.int .i64 d,.string (Bs f),Sl.v g,.bool false] ∧ v = Sl.v (Sl.mk (some ⟨r,0,none⟩) 1 1))]) aj rfl (by kernel_rfl) ⟨fun _ _ _ _ h => h,fun _ _ _ _ h => h,fun _ _ _ _ h => h,fun _ _ _ hE ⟨d,f,g,h0_,e⟩ => ⟨d,f,g,(aY d f g _ _ hE h0_),e⟩,fun _ _ _ hE ⟨d,f,g,h0_,e⟩ => ⟨d,f,g,(aY d f g _ _ hE h0_),e⟩,fun _ _ _ hE ⟨d,f,g,r,h0_,h1_,h2_,e⟩ => ⟨d,f,g,r,(aY d f g _ _ hE h0_),h1_,(h2_.ext hE),e⟩,fun _ _ _ _ h => h,fun _ _ _ _ h => h,fun _ _ _ _ h => h,trivial⟩ ⟨?_,?_,?_,?_,?_,?_,?_,?_,?_,trivial⟩ ?_
   ·intro a w hT
    have hAp := hT.ag aj [] trivial (by kernel_rfl)
    have hAp := hAp.add (t := 62) (v := .pointer (some j)) (hT.vals 1 rfl 62 rfl)
    exact ovr hAp rfl (r_nilCheck (hAp.get rfl)) fun _ => Eq.refl _
   ·intro a w hT
    have hAp := hT.ag aj [] trivial (by kernel_rfl)
    have hAp := hAp.add (t := 63) (v := .pointer (some j)) (hT.vals 2 rfl 63 rfl)
    exact ovr hAp rfl (r_fieldAddr (hAp.get rfl) Tryz.underlying73 rfl ti_71 (by decide)) fun _ => Eq.refl _
   ·intro a w hT
    have hAp := hT.ag aj [] trivial (by kernel_rfl)
    have hAp := hAp.add (t := 64) (v := .pointer (some (j.add 0))) (hT.vals 3 rfl 64 rfl)
    exact ovr hAp rfl (r_load1 tU71 rfl (hAp.get rfl) (Ext.cell hT.chg db)) fun _ => Eq.refl _
   ·intro a w hT
    have hAp := hT.ag aj [] trivial (by kernel_rfl)
    have hAp := hAp.add (t := 66) (v := .agg #[.int .i64 ab,.string (Bs ad),Sl.v af]) (hT.vals 5 rfl 66 rfl)
    exact opk_callX hAp rfl (r_call (args := #[.agg #[.int .i64 ab,.string (Bs ad),Sl.v af]]) Tryz.func158 (by decide) rfl (map_arr (ml_cons (hAp.get rfl) ml_nil)) rfl) (dd w hT.chg) fun _ _ _ _ e ⟨hE,d,f,g,he,hV⟩ => ⟨_,e,hE,fun _ => ⟨d,f,g,hV,he⟩⟩
   ·intro a w hT
    have hAp := hT.ag aj [] trivial (by kernel_rfl)
    obtain ⟨d,f,g,dg,dh⟩ := hT.vals 6 rfl 67 rfl
    have hAp := hAp.add dh
    exact opk_val hAp rfl (r_build (vs := #[(0,.agg #[.int .i64 d,.string (Bs f),Sl.v g])]) (cells := #[.int .i64 d,.string (Bs f),Sl.v g,.bool false]) (map_arr2 (ml2_cons (hAp.get rfl) (ml2_nil))) ti_125 Tryz.underlying125 pl_125 (by kernel_rfl)) fun _ _ e => ⟨_,e,Chg.refl _ _,fun _ => ⟨d,f,g,dg,rfl⟩⟩
   ·intro a w hT
    have hAp := hT.ag aj [] trivial (by kernel_rfl)
    obtain ⟨d,f,g,di,dj⟩ := hT.vals 7 rfl 68 rfl
    have hAp := hAp.add dj
    exact opk_new (fun B => .slice (some ⟨B,0,none⟩) 1 1) hAp rfl (r_buildSlice (vs := #[(0,.agg #[.int .i64 d,.string (Bs f),Sl.v g,.bool false])]) (cs := [.int .i64 d,.string (Bs f),Sl.v g,.bool false]) (map_arr2 (ml2_cons (hAp.get rfl) (ml2_nil))) tU71 ti_125 rfl rfl (by kernel_rfl)) fun _ fm r bO dk dl _ e => ⟨_,e,bO,fun _ => ⟨d,f,g,r,(aY d f g _ _ bO di),Nat.le_trans hT.chg.size dk.ge,dl,rfl⟩⟩
   ·intro a w hT
    have hAp := hT.ag aj [(0,.pointer (some j))] ⟨rfl,trivial⟩ (by kernel_rfl)
    exact ovr hAp rfl (r_move (hAp.get rfl)) fun _ => Eq.refl _
   ·intro a w hT
    have hAp := hT.ag aj [(0,.pointer (some j))] ⟨rfl,trivial⟩ (by kernel_rfl)
    exact ovr hAp rfl (r_move (hAp.get rfl)) fun _ => Eq.refl _
   ·intro a w hT
    have hAp := hT.ag aj [(3,pB k 0)] ⟨rfl,trivial⟩ (by kernel_rfl)
    exact ovr hAp rfl (r_loadN (cs := [.int .i64 ab,.string (Bs ad),Sl.v af]) Tryz.underlying123 rfl ti_123 (hAp.get rfl) ((bt.ext hT.chg).part 0 _ rfl)) fun _ => Eq.refl _
   ·intro dm an bu dn bP
    have dp := dn [(0,.pointer (some j)),(3,pB k 0)] ⟨rfl,rfl,trivial⟩ (by kernel_rfl)
    have dq : dm.tmps.getD 65 undef = Sl.v ao := bP 4 rfl 65 rfl
    have dr := dp.add dq
    obtain ⟨d,f,g,r,ds,bQ,bR,dt⟩ := bP 8 rfl 69 rfl
    have du := dr.add dt
    have dv := bt.ext bu
    have fn : Chg [] ai an := bu
    have dx := df an d f g r bu ds bQ bR
    have fo : k ≠ r := Nat.ne_of_lt (Nat.lt_of_lt_of_le bt.lt bQ)
    refine PRF_drop (X := [1,5]) (Fs' := [0]) du (by kernel_rfl) fun fp dy fq => ?_
    have bv := dy [(0,.pointer (some j)),(65,Sl.v ao),(69,Sl.v (Sl.mk (some ⟨r,0,none⟩) 1 1))] ⟨rfl,rfl,rfl,trivial⟩ (by kernel_rfl)
    refine oneF (c := 9) bv rfl (by kernel_rfl) (constF ⟨fun _ _ _ h => h,trivial⟩) ⟨?_,trivial⟩ ?_
    ·intro a hT
     have hAp := hT.ag bv [(0,.pointer (some j))] ⟨rfl,trivial⟩ (by kernel_rfl)
     exact opk_val hAp rfl (r_move (hAp.get rfl)) fun _ _ e => ⟨_,e,rfl,fun _ => Eq.refl _⟩
    ·intro fr hT
     have bz := hT.ag bv [(0,.pointer (some j)),(65,Sl.v ao),(69,Sl.v (Sl.mk (some ⟨r,0,none⟩) 1 1))] ⟨rfl,rfl,rfl,trivial⟩ (by kernel_rfl)
     have dz := dx bR
     refine (opk_run bz rfl (fun _ _ hr => r_append (bz.get rfl) (bz.get rfl) hr) dz fun fs ft bf bS dA dB fu dC => ?_)
     refine ⟨_,dA,?_⟩
     obtain ⟨ar,rfl,dD⟩ := dC
     have dG := dv.kept dB (.head _)
     refine joinF bS (by kernel_rfl) ⟨fun _ _ _ _ h => h,trivial⟩ ⟨?_,trivial⟩ ?_
     ·intro a w hT
      have hAp := hT.ag bS [(0,.pointer (some j))] ⟨rfl,trivial⟩ (by kernel_rfl)
      exact ovr hAp rfl (r_move (hAp.get rfl)) fun _ => Eq.refl _
     ·intro dH au bT dI dJ
      have dK := dI [(70,Sl.v ar)] ⟨rfl,trivial⟩ (by kernel_rfl)
      have dL : dH.tmps.getD 61 undef = .pointer (some j) := dJ 0 rfl 61 rfl
      have bA := dK.add dL
      have dM := dG.ext bT
      have dN : Chg [] bf au := bT
      have dO := dD au    dN
      refine par (D := aX) (S := [10,11]) (F := []) (V := VL [(10,fun v _ => v = .pointer (some j)),(11,fun v _ => v = .pointer (some (j.add 0)))]) bA (by kernel_rfl) ⟨fun _ _ _ _ h => h,fun _ _ _ _ h => h,trivial⟩ ⟨?_,?_,trivial⟩ ?_
      ·intro a w hT
       have hAp := hT.ag bA [(61,.pointer (some j))] ⟨rfl,trivial⟩ (by kernel_rfl)
       exact ovr hAp rfl (r_nilCheck (hAp.get rfl)) fun _ => Eq.refl _
      ·intro a w hT
       have hAp := hT.ag bA [] trivial (by kernel_rfl)
       have hAp := hAp.add (t := 71) (v := .pointer (some j)) (hT.vals 10 rfl 71 rfl)
       exact ovr hAp rfl (r_fieldAddr (hAp.get rfl) Tryz.underlying73 rfl ti_71 (by decide)) fun _ => Eq.refl _
      ·intro dP av bU dQ dR
       have dS := dQ [(70,Sl.v ar)] ⟨rfl,trivial⟩ (by kernel_rfl)
       have dU : dP.tmps.getD 72 undef = .pointer (some (j.add 0)) := dR 11 rfl 72 rfl
       have bB := dS.add dU
       have dV := dM.ext bU
       have dX : Chg [] au av := bU
       have dY := dO av    dX
       obtain ⟨ax,aR,bg,aS,dZ,bX,d0,d1,d2⟩ := dY
       refine one (D := aX) (i := 12) rfl (by kernel_rfl) (opk_store bB bX (r_store (vs := [Sl.v ar]) (((bB.get rfl)).trans (congrArg (fun a => Value.pointer (some a)) dZ)) (bB.get rfl) rfl ti_71 bX (Nat.ble_eq_true_of_le d0) (ones_all _ rfl)) fun fv az bY d3 d4 => ?_)
       have fx := dV.keep bY (by have := d1 k (by simp); simpa using this)
       have d5 := d2 az bY d3
       refine PR_end (by kernel_rfl) ?_
       have d6 := d4.kp [] rfl
       refine gK (bs := []) (N := []) d6 (Chg.refl [] _) trivial (by simp) trivial (by simp) d5 ?_
       exact gze <| gz0
def format_List_Place_1.vc (c : Int) (f : Str) (g : Sl) (a : Bool) (d : Addr) (R : Value → World → Prop) (w : World) : Prop :=
∀ (b : World) (i : Nat),New w i b → Chg [] w b →
∃ (h : Int),(((a = false)) → b.cell? d = some (.int .i64 h)) ∧
R (.bool ((!a) && (decide (c = h)))) b
theorem format_List_Place_1.ok (c : Int) (f : Str) (g : Sl) (a : Bool) (d : Addr) {R : Value → World → Prop} {w : World} (j : format_List_Place_1.vc c f g a d R w) : Calls Tryz.prog 175 #[.agg #[.int .i64 c,.string (Bs f),Sl.v g,.bool a],.pointer (some d)] w (Ret R) := by
 refine go _ Tryz.func175 Tryz.ntmps175 j ?_
 refine gS <| gR <| nb fun b i => ?_
 refine gN <| ge <| tn <| gS <| gR ?_
 refine gF 3 Tryz.underlying125 ti_4 ?_
 refine gB 0 tU4 ?_
 refine g1 r_not ?_
 refine gM ?_
 refine GF 0 Tryz.underlying125 ti_123 ?_
 refine GF 0 Tryz.underlying123 ti_3 ?_
 refine GB 0 tU3 <| gT1 ?_
 refine gE fun h => GLd tU3 (fun hg => (nT (g_t hg))) ?_
 refine G2 r_eql ?_
 refine gpa ?_
 refine gN <| ge <| tn <| gr ?_
 exact gz1
def format_Entry_key.vc (ai : Int) (f : Str) (p : Sl) (R : Value → World → Prop) (w : World) : Prop :=
∀ (q : World) (d : Nat) (b : Nat) (m : Nat),New w d q → New w b q → New w m q → d ≠ b → d ≠ m → b ≠ m → Chg [] w q →
∀ (_ : Box q m 183 [.pointer none,Sl.v Sl.nil]),
∃ (aj : Int → World → Prop) (ay : Int → World → Nat),
aj 0 q ∧
(∀ (j : Int) (o : World),aj j o →
((j < (p.n : Int)) →
((0 : Int) ≤ j ∧ j < (p.n : Int)) ∧ ∃ ak : Addr,p.a = some ak ∧
∃ (r : Str) (u : Str),(Cells o (ak.add (j.toNat * 2)) [.string (Bs r),.string (Bs u)]) ∧
∀ (ab : World) (az : Nat),New o az ab → Chg [] o ab →
∃ (al : Int → World → Prop) (aA : Int → World → Nat),
al 0 ab ∧
(∀ (g : Int) (x : World),al g x →
((g < 2) →
((0 : Int) ≤ g ∧ g < 2) ∧
CallK Tryz.prog 190 #[.int .i64 ((([r,u] : List Str).getD g.toNat []).length : Int)] x [d,b] (fun v aB => ∃ (am : Str),v = .string (Bs am) ∧
CallK Tryz.prog 189 #[.pointer (some (⟨m,0,none⟩ : Addr)),.string (Bs am)] aB [d,b] (fun v aC => ∃ (aD : Int) (aG : Value),v = .tuple #[.int .i64 aD,aG] ∧
CallK Tryz.prog 191 #[.pointer (some (⟨m,0,none⟩ : Addr)),.int .u8 58] aC [d,b] (fun v aH => ∃ (aI : Value),v = aI ∧
CallK Tryz.prog 189 #[.pointer (some (⟨m,0,none⟩ : Addr)),.string (Bs (([r,u] : List Str).getD g.toNat []))] aH [d,b] (fun v an => ∃ (aJ : Int) (aK : Value),v = .tuple #[.int .i64 aJ,aK] ∧
(I64 (g + 1)) ∧
al (g + 1) an ∧ aA (g + 1) an < aA g x))))) ∧
((¬ (g < 2)) →
(I64 (j + 1)) ∧
aj (j + 1) x ∧ ay (j + 1) x < ay j o))) ∧
((¬ (j < (p.n : Int))) →
∀ (z : World),Chg [] o z →
CallK Tryz.prog 192 #[.pointer (some (⟨m,0,none⟩ : Addr))] z [d,b] (fun v ao => ∃ (k : Str),v = .string (Bs k) ∧
∀ (y : World),Chg [] ao y →
∀ (ad : World),Chg [b] y ad →
R (.agg #[.string (Bs f),.string (Bs k)]) ad)))
theorem format_Entry_key.ok (ai : Int) (f : Str) (p : Sl) {R : Value → World → Prop} {w : World} (aS : format_Entry_key.vc ai f p R w) : Calls Tryz.prog 180 #[.agg #[.int .i64 ai,.string (Bs f),Sl.v p]] w (Ret R) := by
 refine go _ Tryz.func180 Tryz.ntmps180 aS ?_
 refine gS <| gR <| nb fun w3 d => ?_
 refine na ti_170 fun w5 b => ge <| tn <| gS <| gR ?_
 refine na ti_183 fun q m => ge <| tn <| gS <| gS <| gR ?_
 refine gF 2 Tryz.underlying123 ti_25 ?_
 refine gB 2 tU25 ?_
 refine g1 (fun aa => r_len aa tU25) ?_
 refine gM <| ge <| tn <| gb <| gT3 ?_
 refine gX 0 <| gE fun _ => gE fun mu => ?_
 refine l1 mu (fun j => [(11,.int .i64 j)]) [(1,_),(2,_),(3,_),(9,_),(10,_)] (fun _ => []) [(d,_,_),(b,_,_)] [2,1] fun j o _ => gS <| gR ?_
 refine g2 r_lss <| ge <| tn <| gS ?_
 refine gi dT dF ?_ ?_
 ·refine gk <| tn <| gS <| gb <| gS <| gR <| gI1 tU25 ti_79 fun ak => ?_
  refine gE fun r => gE fun u => gLN Tryz.underlying79 ti_79 ?_
  refine na ti_79 fun bG az => ?_
  refine wn 0 0 ti_79 fun ab => ge <| tn <| gS <| gR ?_
  refine gF 0 Tryz.underlying79 ti_9 ?_
  refine gB 0 tU9 ?_
  refine gF 1 Tryz.underlying79 ti_9 ?_
  refine gB 0 tU9 ?_
  refine gv (fun _ _ s _ => r_buildA (cells := #[.string (Bs r),.string (Bs u)]) (map_arr2 (ml2_cons (s.ag.opv rfl) (ml2_cons (s.ag.opv rfl) (ml2_nil)))) ti_184 Tryz.underlying184 ti_9 (by kernel_rfl)) ?_
  refine gM <| ge <| tn <| gb <| gT1 <| gE fun _ => gE fun mu => ?_
  refine l1 mu (fun g => [(20,.int .i64 g)]) [(1,_),(2,_),(3,_),(9,_),(10,_),(11,_),(19,_)] (fun _ => []) [(d,_,_),(b,_,_)] [1,2] fun g x _ => gS <| gR ?_
  refine g2 r_lss <| ge <| tn <| gS ?_
  refine gi dT dF ?_ ?_
  ·refine gk <| tn <| gS <| gb <| gS <| gR <| g2s (fun aa aU h => r_aindexS (l := ([r,u] : List Str)) aa rfl aU Tryz.underlying184 tU9 ti_9 rfl h) ?_
   refine gN <| ge <| tn <| gS <| gR ?_
   refine gM ?_
   refine g1 (fun aa => r_slen aa tU9) ?_
   refine gC [0,1] Tryz.func190 fun _ aB => gE fun am => gQ ?_
   refine gC [0,1] Tryz.func189 fun _ aC => gE fun aD => gE fun aG => gQ <| ge <| tn <| gS <| gR ?_
   refine gC [0,1] Tryz.func191 fun _ aH => gE fun aI => gQ <| ge <| tn <| gR ?_
   refine gM ?_
   refine gC [0,1] Tryz.func189 fun _ an => gE fun aJ => gE fun aK => gQ <| ge <| bn <| tn <| gR ?_
   refine g2s r_addI ?_
   refine gM <| ge ?_
   exact k1 [0,1]
  ·refine gx <| te <| te <| bh <| bn <| tn <| gR <| g2s r_addI ?_
   refine gM <| ge ?_
   exact k1 [0,1]
 ·refine gx <| te <| te <| bh <| tn <| gS ?_
  intro bH af aV
  have ah := af.ag
  have aX := af.bx 0 rfl
  have aY := af.bx 1 rfl
  have aZ : d ≠ b := af.ne 0 1
  let ap : List (List Nat) := [[],[0],[],[0,1,2],[0,1,2,3]]
  refine draw' (by kernel_rfl) fun z aq => ?_
  have aL := aX.ext aq
  have a0 := aY.ext aq
  have a1 : Chg [] o z := aq
  have a2 := aV z    a1
  refine startF (D := ap) (Fs := [0,1]) (Ef := [(0,fun v _ => v = pB d 1),(1,fun v _ => v = .string (Bs f))]) (by kernel_rfl) ?_
  refine oneF (c := 2) ah rfl (by kernel_rfl) (constF ⟨fun _ _ _ h => h,fun _ _ _ h => h,trivial⟩) ⟨?_,?_,trivial⟩ ?_
  ·intro a hT
   have hAp := hT.ag ah [(1,pB d 0)] ⟨rfl,trivial⟩ (by kernel_rfl)
   exact opk_val hAp rfl (r_fieldAddr (hAp.get rfl) Tryz.underlying123 rfl ti_9 (by decide)) fun _ _ e => ⟨_,e,rfl,fun _ => Eq.refl _⟩
  ·intro a hT
   have hAp := hT.ag ah [] trivial (by kernel_rfl)
   have hAp := hAp.add (t := 32) (v := pB d 1) (hT.vals 0 rfl 32 rfl)
   exact opk_val hAp rfl (r_load1 tU9 rfl (hAp.get rfl) ((aL.ext hT.chg).cell 1 _ rfl)) fun _ _ e => ⟨_,e,rfl,fun _ => Eq.refl _⟩
  ·intro bI hT
   have aM := hT.ag ah [(1,pB d 0),(2,pB b 0),(3,pB m 0)] ⟨rfl,rfl,rfl,trivial⟩ (by kernel_rfl)
   refine (opk_call aM rfl (r_call (args := #[pB m 0]) Tryz.func192 (by decide) rfl (map_arr (ml_cons (aM.get rfl) ml_nil)) rfl) a2 fun bJ bK ao ar a3 aN bL a4 => ?_)
   refine ⟨_,a3,?_⟩
   obtain ⟨k,rfl,a5⟩ := a4
   have aO := aL.kept aN (.head _)
   have a6 := a0.kept aN (.tail _ (.head _))
   refine joinF ar (by kernel_rfl) ⟨fun _ _ _ _ h => h,fun _ _ _ _ h => h,trivial⟩ ⟨?_,?_,trivial⟩ ?_
   ·intro a w hT
    have hAp := hT.ag ar [(1,pB d 0)] ⟨rfl,trivial⟩ (by kernel_rfl)
    exact ovr hAp rfl (r_fieldAddr (hAp.get rfl) Tryz.underlying123 rfl ti_9 (by decide)) fun _ => Eq.refl _
   ·intro a w hT
    have hAp := hT.ag ar [] trivial (by kernel_rfl)
    have hAp := hAp.add (t := 32) (v := pB d 1) (hT.vals 0 rfl 32 rfl)
    exact ovr hAp rfl (r_load1 tU9 rfl (hAp.get rfl) ((aO.ext hT.chg).cell 1 _ rfl)) fun _ => Eq.refl _
   ·intro a7 y au a8 a9
    have ba := a8 [(2,pB b 0),(34,.string (Bs k))] ⟨rfl,rfl,trivial⟩ (by kernel_rfl)
    have bb : a7.tmps.getD 33 undef = .string (Bs f) := a9 1 rfl 33 rfl
    have aP := ba.add bb
    have bd := aO.ext au
    have bf := a6.ext au
    have bg : Chg [] ao y := au
    have bi := a5 y    bg
    refine par (D := ap) (S := [3]) (F := []) (V := VL [(3,fun v _ => v = .agg #[.string (Bs f),.string (Bs k)])]) aP (by kernel_rfl) ⟨fun _ _ _ _ h => h,trivial⟩ ⟨?_,trivial⟩ ?_
    ·intro a w hT
     have hAp := hT.ag aP [(33,.string (Bs f)),(34,.string (Bs k))] ⟨rfl,rfl,trivial⟩ (by kernel_rfl)
     exact ovr hAp rfl (r_build (vs := #[(0,.string (Bs f)),(1,.string (Bs k))]) (cells := #[.string (Bs f),.string (Bs k)]) (map_arr2 (ml2_cons (hAp.get rfl) (ml2_cons (hAp.get rfl) (ml2_nil)))) ti_170 Tryz.underlying170 pl_170 (by kernel_rfl)) fun _ => Eq.refl _
    ·intro bj bk av bl bo
     have bp := bl [(2,pB b 0)] ⟨rfl,trivial⟩ (by kernel_rfl)
     have bq : bj.tmps.getD 35 undef = .agg #[.string (Bs f),.string (Bs k)] := bo 3 rfl 35 rfl
     have ax := bp.add bq
     have bt := bd.ext av
     have aQ := bf.ext av
     have bu : Chg [] y bk := av
     refine one (D := ap) (i := 4) rfl (by kernel_rfl) (opk_store ax aQ (r_store (vs := [.string (Bs f),.string (Bs k)]) (ax.get rfl) (ax.get rfl) rfl ti_170 aQ rfl (ones_all _ rfl)) fun bM ad aR bv bz => ?_)
     have bA : Box ad b 170 [.string (Bs f),.string (Bs k)] := bv
     have bN := bt.keep aR (by simpa using aZ)
     have bB := bu.storeOld aR
     refine PR_end (by kernel_rfl) ?_
     have bC := bz.kp [(2,pB b 0)] rfl
     refine gK (bs := [(b,170,[.string (Bs f),.string (Bs k)])]) (N := []) bC bB ⟨bA,trivial⟩ (by simp) trivial (by simp) bi ?_
     exact tn <| gr <| gT0 <| gzB 0 Tryz.underlying170 ti_170
end Go.Proofs.YtenokfdkckhhiaaGreatDoor
