/-
  PRINTED BY PROGRAM: for each function its condition (vc), and that this suffices (ok).
-/
import Derived.Test.YtenokfdkckhhiaaGreatDoorQBuildNestsGT
namespace Go.Proofs.YtenokfdkckhhiaaGreatDoor
open Go.RowKit
set_option linter.unusedVariables false
set_option maxHeartbeats 1000000
set_option maxRecDepth 10000
def build_builder_current.vc (b : Addr) (R : Value → World → Prop) (w : World) : Prop :=
∃ (f : Sl),(w.cell? (b.add 3) = some (Sl.v f)) ∧
(((f.n : Int) = 0) →
∃ (h : Option Addr),(w.cell? (b.add 0) = some (.pointer h)) ∧
R (.pointer h) w) ∧
((¬ ((f.n : Int) = 0)) →
∀ (c : World),Chg [] w c →
∃ (g : Sl),(c.cell? (b.add 3) = some (Sl.v g)) ∧
∃ (d : Sl),(c.cell? (b.add 3) = some (Sl.v d)) ∧
(I64 ((d.n : Int) - 1)) ∧
∃ i : Addr,(((0 : Int) ≤ (d.n : Int) - 1 ∧ (d.n : Int) - 1 < (g.n : Int)) ∧ g.a = some i) ∧
∃ (j : Option Addr),(c.cell? (i.add (((d.n : Int) - 1).toNat * 1)) = some (.pointer j)) ∧
∀ (k : World),Chg [] c k →
R (.pointer j) k)
theorem build_builder_current.ok (b : Addr) {R : Value → World → Prop} {w : World} (m : build_builder_current.vc b R w) : Calls Tryz.prog 58 #[.pointer (some b)] w (Ret R) := by
 refine go _ Tryz.func58 Tryz.ntmps58 m ?_
 refine gS <| gR <| gN <| ge <| tn <| gS <| gS <| gR ?_
 refine gM ?_
 refine g1 r_nilCheck ?_
 refine gF 3 Tryz.underlying60 ti_54 ?_
 refine gE fun f => gL tU54 ?_
 refine g1 (fun l => r_len l tU54) ?_
 refine g2 r_eql <| ge <| tn ?_
 refine gi dT dF ?_ ?_
 ·refine gS <| gR <| gM ?_
  refine g1 r_nilCheck ?_
  refine gF 0 Tryz.underlying60 ti_53 ?_
  refine gE fun h => gL tU53 ?_
  refine gN <| ge <| tn <| gr <| tr ?_
  exact gz1
 ·refine gk <| tn <| gS <| gD fun c => gT0 ?_
  refine gW 0 13 [] ?_
  refine gM ?_
  refine g1 r_nilCheck ?_
  refine gF 3 Tryz.underlying60 ti_54 ?_
  refine gE fun g => gL tU54 ?_
  refine gM ?_
  refine g1 r_nilCheck ?_
  refine gF 3 Tryz.underlying60 ti_54 ?_
  refine gE fun d => gL tU54 ?_
  refine g1 (fun l => r_len l tU54) ?_
  refine g2s r_subI ?_
  refine gI2 tU54 ti_53 fun i => ?_
  refine gE fun j => gL tU53 ?_
  refine gN <| geT fun k => ?_
  refine gZ <| tn <| gr <| gT0 ?_
  exact gz1
def build_builder_pop.vc (d : Addr) (a : Int) (R : Value → World → Prop) (w : World) : Prop :=
∀ (i : World),Chg [] w i →
∃ (j : Sl),(i.cell? (d.add 3) = some (Sl.v j)) ∧
∃ (f : Sl),(i.cell? (d.add 3) = some (Sl.v f)) ∧
(I64 ((f.n : Int) - a)) ∧
((0 : Int) ≤ max 0 ((f.n : Int) - a) ∧ max 0 ((f.n : Int) - a) ≤ (j.c : Int)) ∧
∀ (k : World),Chg [] i k →
∃ (g l : Nat) (p : TypeId) (m : List Value),(d.add 3) = ⟨g,l,none⟩ ∧ Box k g p m ∧ l + 1 ≤ m.length ∧ (∀ b ∈ [],b ≠ g) ∧
(∀ o : World,Chg [g] k o → Box o g p (putAt m l [Sl.v (Sl.cut j 1 0 (max 0 ((f.n : Int) - a)).toNat j.c)]) →
R (.tuple #[]) o)
theorem build_builder_pop.ok (d : Addr) (a : Int) {R : Value → World → Prop} {w : World} (r : build_builder_pop.vc d a R w) : Calls Tryz.prog 62 #[.pointer (some d),.int .i64 a] w (Ret R) := by
 refine go _ Tryz.func62 Tryz.ntmps62 r ?_
 refine gD fun i => gT0 ?_
 refine gW 0 16 [] ?_
 refine gM ?_
 refine gM ?_
 refine g1 r_nilCheck ?_
 refine gF 3 Tryz.underlying60 ti_54 ?_
 refine gE fun j => gL tU54 ?_
 refine gM ?_
 refine g1 r_nilCheck ?_
 refine gF 3 Tryz.underlying60 ti_54 ?_
 refine gE fun f => gL tU54 ?_
 refine g1 (fun q => r_len q tU54) ?_
 refine gM ?_
 refine g2s r_subI ?_
 refine g2 r_max ?_
 refine g2s (fun q s h => r_sliceH q s tU54 ti_53 h) ?_
 refine g1 r_nilCheck ?_
 refine gF 3 Tryz.underlying60 ti_54 <| geT fun k => ?_
 refine gO 16 <| gT0 ?_
 refine wx [] ti_54 fun g l p m o => geO ?_
 refine gZ <| gze ?_
 exact gz0
def build_builder_at.vc (d : Addr) (g : Int) (R : Value → World → Prop) (w : World) : Prop :=
∀ (a : World) (b : Nat),New w b a → Chg [] w a →
∃ (h : Sl),(a.cell? (d.add 3) = some (Sl.v h)) ∧
∀ (_ : Box a b 3 [.int .i64 g]),
CallK Tryz.prog 130 #[Sl.v h,.func (.func 131) #[] #[.pointer (some (⟨b,0,none⟩ : Addr))]] a [] (fun v j => ∃ (i : Int),v = .int .i64 i ∧
R (.int .i64 i) j)
theorem build_builder_at.ok (d : Addr) (g : Int) {R : Value → World → Prop} {w : World} (k : build_builder_at.vc d g R w) : Calls Tryz.prog 101 #[.pointer (some d),.int .i64 g] w (Ret R) := by
 refine go _ Tryz.func101 Tryz.ntmps101 k ?_
 refine gS <| gR <| nb fun a b => ?_
 refine gN <| ge <| tn <| gS <| gR ?_
 refine gM ?_
 refine g1 r_nilCheck ?_
 refine gF 3 Tryz.underlying60 ti_54 <| gT1 ?_
 refine gE fun h => gL tU54 ?_
 refine g1 (fun l => r_makeFunc (f := #[]) (c := #[pB b 0]) (map_arr ml_nil) (map_arr (ml_cons l ml_nil))) ?_
 refine gX 0 ?_
 refine gC [] Tryz.func130 fun _ j => gE fun i => gQ ?_
 refine gN <| ge <| tn <| gr ?_
 exact gz1
def build_builder_rebuild.vc (b : Addr) (R : Value → World → Prop) (w : World) : Prop :=
∃ (l : Option Addr),(w.cell? (b.add 4) = some (.pointer l)) ∧
CallK Tryz.prog 136 #[.pointer l] w [] (fun v q => ∃ (m : Int),v = .int .i64 m ∧
∃ (n : Int → World → Prop) (r : Int → World → Nat),
n m q ∧
(∀ (a : Int) (d : World),n a d →
(((0 < a)) → I64 (a - 1)) ∧
∃ (g : Bool),(((0 < a)) → Calls Tryz.prog 137 #[.pointer (some b),.int .i64 (a - 1)] d (Ret fun v w' => Ext d w' ∧ v = .bool g)) ∧
(∀ f : World,Ext d f →
(((0 < a) ∧ (g = false)) →
(I64 (a - 1)) ∧
n (a - 1) f ∧ r (a - 1) f < r a d) ∧
(((¬ (0 < a)) ∨ (g = true)) →
∃ (s : Int → World → Prop) (ab : Int → World → Nat),
s a f ∧
(∀ (c : Int) (i : World),s c i →
∃ (o : Option Addr),(i.cell? (b.add 4) = some (.pointer o)) ∧
CallK Tryz.prog 136 #[.pointer o] i [] (fun v j => ∃ (k : Int),v = .int .i64 k ∧
((c < k) →
∃ (p : Option Addr),(j.cell? (b.add 4) = some (.pointer p)) ∧
CallK Tryz.prog 138 #[.pointer p,.int .i64 c] j [] (fun v z => ∃ (t : Int) (u : Str) (x : Sl) (y : Bool),v = .tuple #[.agg #[.int .i64 t,.string (Bs u),Sl.v x],.bool y] ∧
False)) ∧
((¬ (c < k)) →
R (.tuple #[]) j)))))))
theorem build_builder_rebuild.ok (b : Addr) {R : Value → World → Prop} {w : World} (aa : build_builder_rebuild.vc b R w) : Calls Tryz.prog 114 #[.pointer (some b)] w (Ret R) := by
 refine go _ Tryz.func114 Tryz.ntmps114 aa ?_
 refine gS <| gR <| gM ?_
 refine g1 r_nilCheck ?_
 refine gF 4 Tryz.underlying60 ti_57 ?_
 refine gE fun l => gL tU57 ?_
 refine gC [] Tryz.func136 fun _ q => gE fun m => gQ ?_
 refine gN <| ge <| tn <| gS <| gb <| gE fun _ => gE fun mu => ?_
 refine l1 mu (fun a => [(2,.int .i64 a)]) [(0,_)] (fun _ => []) [] [] fun a d _ => gS <| gS <| gR ?_
 refine gM ?_
 refine g2 r_gtr ?_
 refine gM ?_
 refine G1 r_move ?_
 refine G1 r_move ?_
 refine G2s r_subI (fun hg => (dT (g_t hg))) ?_
 refine gE fun g => GC Tryz.func137 (fun hg => (dT (g_t hg))) fun f => ?_
 refine G1 r_not ?_
 refine gpa <| ge <| tn ?_
 refine gi (fun h => ⟨(dT (aT h).1),(nT (aT h).2)⟩) (fun h => ((aF h).imp (fun h => (dF h)) (fun h => (nF h)))) ?_ ?_
 ·refine gk <| tn <| gb <| gR <| gM ?_
  refine g2s r_subI ?_
  refine gN <| ge <| bn ?_
  exact k1 []
 ·refine gx <| te <| te <| bh <| tn <| gb <| gE fun _ => gE fun mu => l1 mu (fun c => [(2,.int .i64 c)]) [(0,_)] (fun _ => []) [] [] fun c i _ => gS <| gS <| gR ?_
  refine gM ?_
  refine gM ?_
  refine g1 r_nilCheck ?_
  refine gF 4 Tryz.underlying60 ti_57 ?_
  refine gE fun o => gL tU57 ?_
  refine gC [] Tryz.func136 fun _ j => gE fun k => gQ ?_
  refine g2 r_lss <| ge <| tn ?_
  refine gi dT dF ?_ ?_
  ·refine gk <| tn <| gS <| gb <| gS <| gR <| gM ?_
   refine g1 r_nilCheck ?_
   refine gF 4 Tryz.underlying60 ti_57 ?_
   refine gE fun p => gL tU57 ?_
   refine gM ?_
   refine gC [] Tryz.func138 fun _ z => gE fun t => gE fun u => gE fun x => gE fun y => gQ ?_
   refine gM ?_
   refine gx1 ?_
   refine gx1 ?_
   refine na ti_123 fun ad af => ?_
   refine wn 0 0 ti_123 fun ag => ?_
   refine gN <| ge <| tn ?_
   exact gNo
  ·exact gx <| te <| te <| bh <| gze <| gz0
def build_builder_at_1.vc (b : Addr) (c : Addr) (R : Value → World → Prop) (w : World) : Prop :=
∀ (a : World),Chg [] w a →
∃ (d : Int),(a.cell? (b.add 0) = some (.int .i64 d)) ∧
∃ (f : Int),(a.cell? c = some (.int .i64 f)) ∧
∀ (g : World),Chg [] a g →
R (.bool (decide (d = f))) g
theorem build_builder_at_1.ok (b : Addr) (c : Addr) {R : Value → World → Prop} {w : World} (h : build_builder_at_1.vc b c R w) : Calls Tryz.prog 131 #[.pointer (some b),.pointer (some c)] w (Ret R) := by
 refine go _ Tryz.func131 Tryz.ntmps131 h ?_
 refine gS <| gR <| gN <| ge <| tn <| gS ?_
 refine gD fun a => gT0 ?_
 refine gW 0 7 [] ?_
 refine gM ?_
 refine g1 r_nilCheck ?_
 refine gF 0 Tryz.underlying56 ti_3 ?_
 refine gE fun d => gL tU3 ?_
 refine gE fun f => gL tU3 ?_
 refine g2 r_eql ?_
 refine gN <| geT fun g => ?_
 refine gZ <| tn <| gr <| gT0 ?_
 exact gz1
def build_builder_held.vc (b : Addr) (d : Int) (R : Value → World → Prop) (w : World) : Prop :=
∃ (f : Option Addr),(w.cell? (b.add 4) = some (.pointer f)) ∧
CallK Tryz.prog 138 #[.pointer f,.int .i64 d] w [] (fun v g => ∃ (c : Int) (j : Str) (k : Sl) (l : Bool),v = .tuple #[.agg #[.int .i64 c,.string (Bs j),Sl.v k],.bool l] ∧
∀ (a : World) (m : Nat),New g m a → Chg [] g a →
∃ (h : Int),(((¬ (c = 0))) → Calls Tryz.prog 101 #[.pointer (some b),.int .i64 c] a (Ret fun v w' => Ext a w' ∧ v = .int .i64 h)) ∧
(∀ i : World,Ext a i →
R (.bool ((decide (c = 0)) || (decide (0 ≤ h)))) i))
theorem build_builder_held.ok (b : Addr) (d : Int) {R : Value → World → Prop} {w : World} (n : build_builder_held.vc b d R w) : Calls Tryz.prog 137 #[.pointer (some b),.int .i64 d] w (Ret R) := by
 refine go _ Tryz.func137 Tryz.ntmps137 n ?_
 refine gS <| gR <| gN <| ge <| tn <| gS <| gR ?_
 refine gM ?_
 refine g1 r_nilCheck ?_
 refine gF 4 Tryz.underlying60 ti_57 ?_
 refine gE fun f => gL tU57 ?_
 refine gM ?_
 refine gC [] Tryz.func138 fun _ g => gE fun c => gE fun j => gE fun k => gE fun l => gQ ?_
 refine gM ?_
 refine gx1 ?_
 refine gx1 ?_
 refine na ti_123 fun o m => ?_
 refine wn 0 0 ti_123 fun a => ?_
 refine gN <| ge <| tn <| gS <| gR ?_
 refine gF 0 Tryz.underlying123 ti_3 ?_
 refine gB 0 tU3 ?_
 refine g2 r_eql ?_
 refine gM ?_
 refine G1 r_move ?_
 refine GF 0 Tryz.underlying123 ti_3 ?_
 refine GB 0 tU3 <| gT1 ?_
 refine gE fun h => GC Tryz.func101 (fun hg => (dF (g_f hg))) fun i => ?_
 refine G2 r_geq ?_
 refine gpo ?_
 refine gN <| ge <| tn <| gr ?_
 exact gz1
def build_builder_adopt.vc (b : Addr) (j : Str) (R : Value → World → Prop) (w : World) : Prop :=
CallK Tryz.prog 58 #[.pointer (some b)] w [] (fun v w4 => ∃ (aa : Option Addr),v = .pointer aa ∧
∀ (m : World),Chg [] w4 m →
∃ an : Addr,(aa = some an) ∧
∃ (l : Str),(m.cell? (an.add 2) = some (.string (Bs l))) ∧
∃ (ao : Option Addr),(((l = j)) → m.cell? (b.add 4) = some (.pointer ao)) ∧
∃ ap : Addr,(((l = j)) → aa = some ap) ∧
∃ (aq : Int),(((l = j)) → m.cell? (ap.add 0) = some (.int .i64 aq)) ∧
∃ (u : Int),(((l = j)) → ∀ w' : World,Ext m w' → Calls Tryz.prog 159 #[.pointer ao,.int .i64 aq] w' (Ret fun v w'' => Ext w' w'' ∧ v = .int .i64 u)) ∧
(((l = j) ∧ (u < 0)) →
∀ (s : World),Chg [] m s →
CallK Tryz.prog 62 #[.pointer (some b),.int .i64 1] s [] (fun v aP => v = .tuple #[] ∧
R (.tuple #[]) aP)) ∧
(((¬ (l = j)) ∨ (¬ (u < 0))) →
∀ (s : World),Chg [] m s →
∃ (ar : Int → World → Prop) (aQ : Int → World → Nat),
ar 0 s ∧
(∀ (k : Int) (t : World),ar k t →
((k < 8) →
∃ (au : Option Addr),(t.cell? (b.add 4) = some (.pointer au)) ∧
CallK Tryz.prog 164 #[.pointer au,.string (Bs j)] t [] (fun v x => ∃ (y : Int) (aR : Str) (av : Sl) (ab : Bool),v = .tuple #[.agg #[.int .i64 y,.string (Bs aR),Sl.v av],.bool ab] ∧
((ab = false) →
∀ (o : World) (g : Nat),New x g o → Chg [] x o →
CallK Tryz.prog 148 #[.pointer (some b),.string (Bs j)] o [g] (fun v aS => v = .tuple #[] ∧
R (.tuple #[]) aS)) ∧
((ab = true) →
∀ (o : World) (g : Nat),New x g o → Chg [] x o →
CallK Tryz.prog 101 #[.pointer (some b),.int .i64 y] o [g] (fun v ad => ∃ (d : Int),v = .int .i64 d ∧
((d < 0) →
∀ (af : World),Chg [] ad af →
∃ (ax : Option Addr),(af.cell? (b.add 4) = some (.pointer ax)) ∧
∀ (ay : World),Chg [] af ay →
CallK Tryz.prog 165 #[.pointer ax,.int .i64 y] ay [g] (fun v aU => ∃ (aV : Bool),v = .bool aV ∧
R (.tuple #[]) aU)) ∧
((¬ (d < 0)) →
∃ (f : Sl),(ad.cell? (b.add 3) = some (Sl.v f)) ∧
(I64 (d + 1)) ∧
((0 : Int) ≤ d + 1 ∧ d + 1 ≤ (f.n : Int)) ∧
∃ (az : Int → World → Prop) (aX : Int → World → Nat),
az 0 ad ∧
(∀ (i : Int) (p : World),az i p →
((i < ((Sl.cut f 1 (d + 1).toNat f.n f.c).n : Int)) →
((0 : Int) ≤ i ∧ i < ((Sl.cut f 1 (d + 1).toNat f.n f.c).n : Int)) ∧ ∃ aA : Addr,(Sl.cut f 1 (d + 1).toNat f.n f.c).a = some aA ∧
∃ (aB : Option Addr),(p.cell? (aA.add (i.toNat * 1)) = some (.pointer aB)) ∧
∃ aC : Addr,(aB = some aC) ∧
∃ (aD : Str),(p.cell? (aC.add 2) = some (.string (Bs aD))) ∧
CallK Tryz.prog 167 #[.string (Bs aD)] p [g] (fun v ag => ∃ (ah : Bool),v = .bool ah ∧
((ah = true) →
R (.tuple #[]) ag) ∧
((ah = false) →
(I64 (i + 1)) ∧
az (i + 1) ag ∧ aX (i + 1) ag < aX i p))) ∧
((¬ (i < ((Sl.cut f 1 (d + 1).toNat f.n f.c).n : Int))) →
CallK Tryz.prog 168 #[.pointer (some b),.int .i64 d] p [g] (fun v ai => ∃ (q : Int),v = .int .i64 q ∧
((q < 0) →
∃ (aj : Sl),(ai.cell? (b.add 3) = some (Sl.v aj)) ∧
(I64 ((aj.n : Int) - d)) ∧
CallK Tryz.prog 62 #[.pointer (some b),.int .i64 ((aj.n : Int) - d)] ai [g] (fun v aY => v = .tuple #[] ∧
∀ (ak : World),Chg [] aY ak →
∃ (aG : Option Addr),(ak.cell? (b.add 4) = some (.pointer aG)) ∧
∀ (aH : World),Chg [] ak aH →
CallK Tryz.prog 165 #[.pointer aG,.int .i64 y] aH [g] (fun v aZ => ∃ (a0 : Bool),v = .bool a0 ∧
R (.tuple #[]) aZ))) ∧
((¬ (q < 0)) →
∀ (r : World),Chg [] ai r →
∃ (al : Sl),(r.cell? (b.add 3) = some (Sl.v al)) ∧
∃ aI : Addr,(((0 : Int) ≤ d ∧ d < (al.n : Int)) ∧ al.a = some aI) ∧
∃ (aJ : Option Addr),(r.cell? (aI.add (d.toNat * 1)) = some (.pointer aJ)) ∧
∃ (am : Sl),(r.cell? (b.add 3) = some (Sl.v am)) ∧
∃ aK : Addr,(((0 : Int) ≤ q ∧ q < (am.n : Int)) ∧ am.a = some aK) ∧
∃ (aL : Option Addr),(r.cell? (aK.add (q.toNat * 1)) = some (.pointer aL)) ∧
∀ (aM : World),Chg [] r aM →
CallK Tryz.prog 169 #[.pointer (some b),.pointer aJ,.pointer aL,Sl.v av] aM [g] (fun v aN => v = .tuple #[] ∧
(I64 (k + 1)) ∧
ar (k + 1) aN ∧ aQ (k + 1) aN < aQ k t)))))))))) ∧
((¬ (k < 8)) →
R (.tuple #[]) t))))
theorem build_builder_adopt.ok (b : Addr) (j : Str) {R : Value → World → Prop} {w : World} (a1 : build_builder_adopt.vc b j R w) : Calls Tryz.prog 147 #[.pointer (some b),.string (Bs j)] w (Ret R) := by
 refine go _ Tryz.func147 Tryz.ntmps147 a1 ?_
 refine gS <| gS <| gR <| gM ?_
 refine gC [] Tryz.func58 fun _ w4 => gE fun aa => gQ ?_
 refine gN <| ge <| tn <| gS ?_
 refine gD fun m => gT0 <| gE fun an => gA fun a2 => gE fun l => gA fun a3 => gE fun ao => gA fun a4 => gE fun ap => gA fun a5 => gE fun aq => gA fun a6 => gE fun u => gA fun a7 => ?_
 refine gW 0 18 [(15,rsG (true && ((decide (l = j)) == true)) () (fun _ => .int .i64 u) (fun _ _ => True) (fun _ _ _ _ _ => trivial))] ?_
 refine gM ?_
 refine gnx a2 ?_
 refine gF 2 Tryz.underlying56 ti_9 ?_
 refine gP a3 <| gL tU9 ?_
 refine gM ?_
 refine g2 r_seql ?_
 refine gM ?_
 refine G1 r_move ?_
 refine G1 r_nilCheck ?_
 refine GF 4 Tryz.underlying60 ti_57 ?_
 refine gP a4 <| GLd tU57 (fun hg => (dT (g_t hg))) ?_
 refine G1 r_move ?_
 refine Gnx (fun hg => a5 (dT (g_t hg))) ?_
 refine GF 0 Tryz.underlying56 ti_3 ?_
 refine gP a6 <| GLd tU3 (fun hg => (dT (g_t hg))) ?_
 refine YC rfl Tryz.func159 (fun hg w' hE _ => a7 (dT (g_t hg)) w' hE) (fun _ _ h => ⟨(),h,trivial⟩) fun _ => ?_
 refine G2 r_lss ?_
 refine gpa ?_
 refine eT fun s => ?_
 refine gZ <| tn ?_
 refine gi (fun h => ⟨(dT (aT h).1),(dT (aT h).2)⟩) (fun h => ((aF h).imp (fun h => (dF h)) (fun h => (dF h)))) ?_ ?_
 ·refine gS <| gR <| gM <| gT0 ?_
  refine gC [] Tryz.func62 fun _ aP => gQ <| ge <| tn <| gr <| tr ?_
  exact gz0
 ·refine gk <| tn <| gS <| gR <| gM <| ge <| tn <| gb <| gT0 <| gE fun _ => gE fun mu => ?_
  refine l1 mu (fun k => [(33,.int .i64 k)]) [(0,_),(1,_)] (fun _ => []) [] [] fun k t _ => gS <| gR ?_
  refine g2 r_lss <| ge <| tn <| gS ?_
  refine gi dT dF ?_ ?_
  ·refine gk <| tn <| gS <| gb <| gS <| gR <| gM ?_
   refine g1 r_nilCheck ?_
   refine gF 4 Tryz.underlying60 ti_57 ?_
   refine gE fun au => gL tU57 ?_
   refine gM ?_
   refine gC [] Tryz.func164 fun _ x => gE fun y => gE fun aR => gE fun av => gE fun ab => gQ ?_
   refine gM ?_
   refine gx1 ?_
   refine gx1 ?_
   refine na ti_123 fun a9 g => ?_
   refine wn 0 0 ti_123 fun o => ?_
   refine gN <| ge <| tn <| gS <| gS <| gR ?_
   refine gM ?_
   refine g1 r_not <| ge <| tn ?_
   refine gi nT nF ?_ ?_
   ·refine gS <| gR <| gM ?_
    refine gM <| gT1 ?_
    refine gC [0] Tryz.func148 fun _ aS => gQ <| ge <| tn <| gr <| tr <| br <| tr <| tr <| br ?_
    exact gz0
   ·refine gk <| tn <| gS <| gR <| gM ?_
    refine gF 0 Tryz.underlying123 ti_3 ?_
    refine gB 0 tU3 <| gT1 ?_
    refine gC [0] Tryz.func101 fun _ ad => gE fun d => gQ ?_
    refine gN <| ge <| tn <| gS <| gS <| gR ?_
    refine gM ?_
    refine g2 r_lss <| ge <| tn ?_
    refine gi dT dF ?_ ?_
    ·refine gS <| gD fun af => gT0 ?_
     refine gW 0 6 [] ?_
     refine gM ?_
     refine g1 r_nilCheck ?_
     refine gF 4 Tryz.underlying60 ti_57 ?_
     refine gE fun ax => gL tU57 ?_
     refine gF 0 Tryz.underlying123 ti_3 ?_
     refine gB 0 tU3 <| geT fun ay => ?_
     refine gO 6 <| gT0 ?_
     refine gC [0] Tryz.func165 fun _ aU => gE fun aV => gQ <| geO ?_
     refine gZ <| tn <| gr <| tr <| br <| tr <| tr <| br ?_
     exact gz0
    ·refine gk <| tn <| gS <| gS <| gR <| gM ?_
     refine g1 r_nilCheck ?_
     refine gF 3 Tryz.underlying60 ti_54 ?_
     refine gE fun f => gL tU54 ?_
     refine gM ?_
     refine g2s r_addI ?_
     refine g2s (fun z a8 h => r_sliceL z a8 tU54 ti_53 h) ?_
     refine g1 (fun z => r_len z tU54) ?_
     refine gM <| ge <| tn <| gb <| gE fun _ => gE fun mu => ?_
     refine l1 mu (fun i => [(70,.int .i64 i)]) [(0,_),(1,_),(5,_),(7,_),(33,_),(68,_),(69,_)] (fun _ => []) [(g,_,_)] [0] fun i p _ => gS <| gR ?_
     refine g2 r_lss <| ge <| tn <| gS ?_
     refine gi dT dF ?_ ?_
     ·refine gk <| tn <| gS <| gb <| gS <| gR <| gI1 tU54 ti_53 fun aA => ?_
      refine gE fun aB => gL tU53 ?_
      refine gN <| ge <| tn <| gS <| gR ?_
      refine gM ?_
      refine gnP fun aC => ?_
      refine gF 2 Tryz.underlying56 ti_9 ?_
      refine gE fun aD => gL tU9 ?_
      refine gC [0] Tryz.func167 fun _ ag => gE fun ah => gQ <| ge <| tn ?_
      refine gi id id ?_ ?_
      ·exact gr <| br <| tr <| tr <| br <| tr <| br <| tr <| tr <| br <| gz0
      ·refine gk <| bn <| tn <| gR <| g2s r_addI ?_
       refine gM <| ge ?_
       exact k1 [0]
     ·refine gx <| te <| te <| bh <| tn <| gS <| gR <| gM ?_
      refine gM ?_
      refine gC [0] Tryz.func168 fun _ ai => gE fun q => gQ ?_
      refine gN <| ge <| tn <| gS <| gS <| gR ?_
      refine gM ?_
      refine g2 r_lss <| ge <| tn ?_
      refine gi dT dF ?_ ?_
      ·refine gS <| gR <| gM ?_
       refine gM ?_
       refine g1 r_nilCheck ?_
       refine gF 3 Tryz.underlying60 ti_54 ?_
       refine gE fun aj => gL tU54 ?_
       refine g1 (fun z => r_len z tU54) ?_
       refine gM ?_
       refine g2s r_subI ?_
       refine gC [0] Tryz.func62 fun _ aY => gQ <| ge <| tn <| gS ?_
       refine gD fun ak => gT0 ?_
       refine gW 0 6 [] ?_
       refine gM ?_
       refine g1 r_nilCheck ?_
       refine gF 4 Tryz.underlying60 ti_57 ?_
       refine gE fun aG => gL tU57 ?_
       refine gF 0 Tryz.underlying123 ti_3 ?_
       refine gB 0 tU3 <| geT fun aH => ?_
       refine gO 6 <| gT0 ?_
       refine gC [0] Tryz.func165 fun _ aZ => gE fun a0 => gQ <| geO ?_
       refine gZ <| tn <| gr <| tr <| br <| tr <| tr <| br ?_
       exact gz0
      ·refine gk <| tn <| gD fun r => gT0 ?_
       refine gW 0 17 [] ?_
       refine gM ?_
       refine gM ?_
       refine g1 r_nilCheck ?_
       refine gF 3 Tryz.underlying60 ti_54 ?_
       refine gE fun al => gL tU54 ?_
       refine gM ?_
       refine gI2 tU54 ti_53 fun aI => ?_
       refine gE fun aJ => gL tU53 ?_
       refine gM ?_
       refine g1 r_nilCheck ?_
       refine gF 3 Tryz.underlying60 ti_54 ?_
       refine gE fun am => gL tU54 ?_
       refine gM ?_
       refine gI2 tU54 ti_53 fun aK => ?_
       refine gE fun aL => gL tU53 ?_
       refine gF 2 Tryz.underlying123 ti_25 ?_
       refine gB 0 tU25 <| geT fun aM => ?_
       refine gO 17 <| gT0 ?_
       refine gC [0] Tryz.func169 fun _ aN => gQ <| geO ?_
       refine gZ <| bn <| tn <| gR ?_
       refine g2s r_addI ?_
       refine gM <| ge ?_
       exact k1 []
  ·exact gx <| te <| te <| bh <| gze <| gz0
def build_builder_further.vc (d : Addr) (f : Int) (R : Value → World → Prop) (w : World) : Prop :=
(I64 (f + 1)) ∧
∃ (k : Int → World → Prop) (q : Int → World → Nat),
k (f + 1) w ∧
(∀ (b : Int) (c : World),k b c →
∃ (g : Sl),(c.cell? (d.add 3) = some (Sl.v g)) ∧
((b < (g.n : Int)) →
∃ (h : Sl),(c.cell? (d.add 3) = some (Sl.v h)) ∧
((0 : Int) ≤ b ∧ b < (h.n : Int)) ∧ ∃ l : Addr,h.a = some l ∧
∃ (m : Option Addr),(c.cell? (l.add (b.toNat * 1)) = some (.pointer m)) ∧
∃ o : Addr,(m = some o) ∧
∃ (p : Str),(c.cell? (o.add 2) = some (.string (Bs p))) ∧
CallK Tryz.prog 100 #[.string (Bs p),.int .i64 2] c [] (fun v i => ∃ (j : Bool),v = .bool j ∧
((j = true) →
R (.int .i64 b) i) ∧
((j = false) →
(I64 (b + 1)) ∧
k (b + 1) i ∧ q (b + 1) i < q b c))) ∧
((¬ (b < (g.n : Int))) →
R (.int .i64 (-1)) c))
theorem build_builder_further.ok (d : Addr) (f : Int) {R : Value → World → Prop} {w : World} (r : build_builder_further.vc d f R w) : Calls Tryz.prog 168 #[.pointer (some d),.int .i64 f] w (Ret R) := by
 refine go _ Tryz.func168 Tryz.ntmps168 r ?_
 refine gS <| gR <| gN <| ge <| tn <| gS <| gS <| gR ?_
 refine gM ?_
 refine g2s r_addI ?_
 refine gN <| ge <| tn <| gb <| gE fun _ => gE fun mu => ?_
 refine l1 mu (fun b => [(5,.int .i64 b)]) [(0,_)] (fun _ => []) [] [] fun b c _ => gS <| gS <| gR ?_
 refine gM ?_
 refine gM ?_
 refine g1 r_nilCheck ?_
 refine gF 3 Tryz.underlying60 ti_54 ?_
 refine gE fun g => gL tU54 ?_
 refine g1 (fun s => r_len s tU54) ?_
 refine g2 r_lss <| ge <| tn ?_
 refine gi dT dF ?_ ?_
 ·refine gk <| tn <| gS <| gb <| gS <| gR <| gM ?_
  refine g1 r_nilCheck ?_
  refine gF 3 Tryz.underlying60 ti_54 ?_
  refine gE fun h => gL tU54 ?_
  refine gM ?_
  refine gI1 tU54 ti_53 fun l => ?_
  refine gE fun m => gL tU53 ?_
  refine gnP fun o => ?_
  refine gF 2 Tryz.underlying56 ti_9 ?_
  refine gE fun p => gL tU9 ?_
  refine gC [] Tryz.func100 fun _ i => gE fun j => gQ <| ge <| tn ?_
  refine gi id id ?_ ?_
  ·refine gS <| gR <| gM ?_
   refine gN <| ge <| tn <| gr <| br <| tr <| tr <| br <| tr ?_
   exact gz1
  ·refine gk <| bn <| tn <| gR <| gM ?_
   refine g2s r_addI ?_
   refine gN <| ge ?_
   exact k1 []
 ·refine gx <| te <| te <| bh <| tn <| gS <| gR <| gN <| ge <| tn <| gr ?_
  exact gz1
end Go.Proofs.YtenokfdkckhhiaaGreatDoor
