/-
  PRINTED BY PROGRAM: for each function its condition (vc), and that this suffices (ok).
-/
import Derived.Test.YteohbfaechfliaaQSlotsTurnedGT
namespace Go.Proofs.Yteohbfaechfliaa
open Go.RowKit
set_option linter.unusedVariables false
set_option maxHeartbeats 1000000
set_option maxRecDepth 10000
def walk_Flat.vc (t : Int) (u : Str) (x : Str) (y : Sl) (z : Sl) (R : Value → World → Prop) (w : World) : Prop :=
∀ (i : World) (r : Nat) (g : Nat), New w r i → New w g i → r ≠ g → Chg [] w i →
∀ (_ : Box i r 26 [.int .i64 t, .string (Bs u), .string (Bs x), Sl.v y, Sl.v z]),
∀ (_ : Box i g 79 [Sl.v Sl.nil]),
CallK Try.prog 62 #[.pointer (some (⟨r, 0, none⟩ : Addr)), .func (.func 63) #[] #[.pointer (some (⟨g, 0, none⟩ : Addr))]] i [] (fun v ar => v = .tuple #[] ∧
∃ (aa : Sl), (ar.cell? (⟨g, 0, none⟩ : Addr) = some (Sl.v aa)) ∧
(I64 ((aa.n : Int) - 1)) ∧
∃ (au : Int → World → Prop) (aG : Int → World → Nat),
au ((aa.n : Int) - 1) ar ∧
(∀ (d : Int) (j : World), au d j →
((0 < d) →
∀ (k : World), Chg [] j k →
∃ (ab : Sl), (k.cell? (⟨g, 0, none⟩ : Addr) = some (Sl.v ab)) ∧
∃ (ad : Sl), (k.cell? (⟨g, 0, none⟩ : Addr) = some (Sl.v ad)) ∧
∃ av : Addr, (((0 : Int) ≤ d ∧ d < (ad.n : Int)) ∧ ad.a = some av) ∧
∃ (h : Int), (k.cell? ((av.add (d.toNat * 10)).add 0) = some (.int .i64 h)) ∧
∃ l : Addr, (((0 : Int) ≤ h ∧ h < (ab.n : Int)) ∧ ab.a = some l) ∧
∀ (m : World), Chg [] k m →
∃ (af : Int), (m.cell? ((l.add (h.toNat * 10)).add 1) = some (.int .i64 af)) ∧
∃ (ag : Sl), (m.cell? (⟨g, 0, none⟩ : Addr) = some (Sl.v ag)) ∧
∃ ax : Addr, (((0 : Int) ≤ d ∧ d < (ag.n : Int)) ∧ ag.a = some ax) ∧
∃ (ah : Int), (m.cell? ((ax.add (d.toNat * 10)).add 1) = some (.int .i64 ah)) ∧
(I64 (af + ah)) ∧
∀ (ai : World), Chg [] m ai →
∃ (o aj : Nat) (ay : TypeId) (ak : List Value), ((l.add (h.toNat * 10)).add 1) = ⟨o, aj, none⟩ ∧ Box ai o ay ak ∧ aj + 1 ≤ ak.length ∧ (∀ b ∈ [], b ≠ o) ∧
(∀ al : World, Chg [o] ai al → Box al o ay (putAt ak aj [.int .i64 (af + ah)]) →
∀ (p : World), Chg [] al p →
∃ (az : Int), (p.cell? ((l.add (h.toNat * 10)).add 3) = some (.int .i64 az)) ∧
∃ (am : Sl), (p.cell? (⟨g, 0, none⟩ : Addr) = some (Sl.v am)) ∧
∃ aA : Addr, (((0 : Int) ≤ d ∧ d < (am.n : Int)) ∧ am.a = some aA) ∧
∃ (an : Int), (p.cell? ((aA.add (d.toNat * 10)).add 3) = some (.int .i64 an)) ∧
(I64 (an + 1)) ∧
∀ (ao : World), Chg [] p ao →
∃ (q ap : Nat) (aB : TypeId) (aq : List Value), ((l.add (h.toNat * 10)).add 3) = ⟨q, ap, none⟩ ∧ Box ao q aB aq ∧ ap + 1 ≤ aq.length ∧ (∀ b ∈ [], b ≠ q) ∧
(∀ s : World, Chg [q] ao s → Box s q aB (putAt aq ap [.int .i64 (max az (an + 1))]) →
(I64 (d - 1)) ∧
au (d - 1) s ∧ aG (d - 1) s < aG d j))) ∧
((¬ (0 < d)) →
∃ (aC : Sl), (j.cell? (⟨g, 0, none⟩ : Addr) = some (Sl.v aC)) ∧
R (Sl.v aC) j)))
theorem walk_Flat.ok (t : Int) (u : Str) (x : Str) (y : Sl) (z : Sl) {R : Value → World → Prop} {w : World} (aH : walk_Flat.vc t u x y z R w) : Calls Try.prog 37 #[.agg #[.int .i64 t, .string (Bs u), .string (Bs x), Sl.v y, Sl.v z]] w (Ret R) := by
 refine go _ Try.func37 Try.ntmps37 aH ?_
 refine gS <| gR <| nb fun w3 r => ?_
 refine gN <| ge <| tn <| gS <| gR ?_
 refine na ti_79 fun i g => ge <| tn <| gS <| gR ?_
 refine g1 (fun aD => r_makeFunc (f := #[]) (c := #[pB g 0]) (map_arr ml_nil) (map_arr (ml_cons aD ml_nil))) <| gT2 ?_
 refine gX 1 ?_
 refine gX 0 ?_
 refine gC [] Try.func62 fun _ ar => gQ <| ge <| tn <| gS <| gS <| gR ?_
 refine gE fun aa => gL tU79 ?_
 refine g1 (fun aD => r_len aD tU79) ?_
 refine g2s r_subI ?_
 refine gN <| ge <| tn <| gb <| gE fun _ => gE fun mu => ?_
 refine l1 mu (fun d => [(4, .int .i64 d)]) [(3, _)] (fun _ => []) [] [] fun d j _ => gS <| gS <| gR ?_
 refine gM ?_
 refine g2 r_gtr <| ge <| tn ?_
 refine gi dT dF ?_ ?_
 ·refine gk <| tn <| gS <| gb <| gS <| gD fun k => gT0 ?_
  refine gW 0 8 [] ?_
  refine gE fun ab => gL tU79 ?_
  refine gE fun ad => gL tU79 ?_
  refine gM ?_
  refine gI2 tU79 ti_86 fun av => ?_
  refine gF 0 Try.underlying86 ti_3 ?_
  refine gE fun h => gL tU3 ?_
  refine gI2 tU79 ti_86 fun l => ?_
  refine gN <| geT fun aJ => ?_
  refine gZ <| tn <| gS ?_
  refine gD fun m => gT0 ?_
  refine gW 0 12 [] ?_
  refine gM ?_
  refine g1 r_nilCheck ?_
  refine gF 1 Try.underlying86 ti_3 ?_
  refine gE fun af => gL tU3 ?_
  refine gE fun ag => gL tU79 ?_
  refine gM ?_
  refine gI2 tU79 ti_86 fun ax => ?_
  refine gF 1 Try.underlying86 ti_3 ?_
  refine gE fun ah => gL tU3 ?_
  refine g2s r_addI ?_
  refine g1 r_nilCheck ?_
  refine gF 1 Try.underlying86 ti_3 <| geT fun ai => ?_
  refine gO 12 <| gT0 ?_
  refine wx [] ti_3 fun o aj ay ak al => geO ?_
  refine gZ <| tn ?_
  refine gD fun p => gT0 ?_
  refine gW 0 14 [] ?_
  refine gM ?_
  refine gM ?_
  refine g1 r_nilCheck ?_
  refine gF 3 Try.underlying86 ti_3 ?_
  refine gE fun az => gL tU3 ?_
  refine gE fun am => gL tU79 ?_
  refine gM ?_
  refine gI2 tU79 ti_86 fun aA => ?_
  refine gF 3 Try.underlying86 ti_3 ?_
  refine gE fun an => gL tU3 ?_
  refine g2s r_addI ?_
  refine g2 r_max ?_
  refine g1 r_nilCheck ?_
  refine gF 3 Try.underlying86 ti_3 <| geT fun ao => ?_
  refine gO 14 <| gT0 ?_
  refine wx [] ti_3 fun q ap aB aq s => geO ?_
  refine gZ <| bn <| tn <| gR ?_
  refine gM ?_
  refine g2s r_subI ?_
  refine gN <| ge ?_
  exact k1 []
 ·refine gx <| te <| te <| bh <| tn <| gS <| gR <| gE fun aC => gL tU79 ?_
  refine gN <| ge <| tn <| gr ?_
  exact gz1
def walk_each.vc (q : Addr) (x : Value) (R : Value → World → Prop) (w : World) : Prop :=
∀ (r : World) (y : Nat), New w y r → Chg [] w r →
∀ (_ : Box r y 114 [.pointer (some q), .int .i64 (-1), .int .i64 0, .int .i64 0]),
∃ (aj : Sl → Int → World → Prop) (au : Sl → Int → World → Nat),
aj (Sl.mk (some ⟨y, 0, none⟩) 1 1) 0 r ∧
(∀ (d : Sl) (f : Int) (k : World), aj d f k →
((0 < (d.n : Int)) →
(I64 ((d.n : Int) - 1)) ∧
((0 : Int) ≤ (d.n : Int) - 1 ∧ (d.n : Int) - 1 < (d.n : Int)) ∧ ∃ ak : Addr, d.a = some ak ∧
∃ (s : Option Addr) (al : Int) (g : Int) (am : Int), (Cells k (ak.add (((d.n : Int) - 1).toNat * 4)) [.pointer s, .int .i64 al, .int .i64 g, .int .i64 am]) ∧
(I64 ((d.n : Int) - 1)) ∧
((0 : Int) ≤ (d.n : Int) - 1 ∧ (d.n : Int) - 1 ≤ (d.c : Int)) ∧
∃ (z : FuncId) (an ao : Array Value), (x = .func (.func z) an ao) ∧
∀ (aa : World) (t : Nat), New k t aa → Chg [] k aa →
Body Try.prog z ∧
CallK Try.prog z (an ++ #[.int .i64 f, .agg #[.pointer s, .int .i64 al, .int .i64 g, .int .i64 am]] ++ ao) aa [t] (fun v ab => ∃ (ad : Bool), v = .bool ad ∧
((ad = false) →
R (.tuple #[]) ab) ∧
((ad = true) →
∃ ap : Addr, (s = some ap) ∧
∃ (af : Sl), (ab.cell? (ap.add 4) = some (Sl.v af)) ∧
(I64 ((af.n : Int) - 1)) ∧
∃ (aq : Sl → Int → World → Prop) (av : Sl → Int → World → Nat),
aq (Sl.cut d 4 0 ((d.n : Int) - 1).toNat d.c) ((af.n : Int) - 1) ab ∧
(∀ (j : Sl) (b : Int) (o : World), aq j b o →
((0 ≤ b) →
∀ (p : World), Chg [] o p →
∃ ar : Addr, (s = some ar) ∧
∃ (ag : Sl), (p.cell? (ar.add 4) = some (Sl.v ag)) ∧
∃ l : Addr, (((0 : Int) ≤ b ∧ b < (ag.n : Int)) ∧ ag.a = some l) ∧
(I64 (g + 1)) ∧
∀ (u : World) (m : Nat), Ext p u → p.heap.size ≤ m → Box u m 114 [.pointer (some (l.add (b.toNat * 5))), .int .i64 f, .int .i64 (g + 1), .int .i64 b] → 
∀ (_ : Box u m 114 [.pointer (some (l.add (b.toNat * 5))), .int .i64 f, .int .i64 (g + 1), .int .i64 b]),
RunK Try.prog (Builtin.append_ #[133, 133] 133 #[Sl.v j, Sl.v (Sl.mk (some ⟨m, 0, none⟩) 1 1)]) u [t] (fun v ax => ∃ (ah : Sl), v = Sl.v ah ∧
(I64 (b - 1)) ∧
∀ (ai : World), Chg [] ax ai →
aq ah (b - 1) ai ∧ av ah (b - 1) ai < av j b o)) ∧
((¬ (0 ≤ b)) →
(I64 (f + 1)) ∧
aj j (f + 1) o ∧ au j (f + 1) o < au d f k))))) ∧
((¬ (0 < (d.n : Int))) →
R (.tuple #[]) k))
theorem walk_each.ok (q : Addr) (x : Value) {R : Value → World → Prop} {w : World} (ay : walk_each.vc q x R w) : Calls Try.prog 62 #[.pointer (some q), x] w (Ret R) := by
 refine go _ Try.func62 Try.ntmps62 ay ?_
 refine gs <| gS <| gR <| gM ?_
 refine gbu ti_114 Try.underlying114 pl_114 (OPs.of rfl) ?_
 refine ns [.pointer (some q), .int .i64 (-1), .int .i64 0, .int .i64 0] tU133 ti_114 fun r y => ?_
 refine gN <| ge <| tn <| gS <| gR ?_
 refine gN <| ge <| tn <| gS <| gl <| tn <| gb <| gT1 ?_
 refine gX 0 <| gE fun _ => gE fun mu => ?_
 refine l2 mu (fun d f => [(4, Sl.v d), (5, .int .i64 f)]) [(1, _)] (fun _ _ => []) [] [] fun d f k _ => gS <| gS <| gR ?_
 refine gM ?_
 refine g1 (fun i => r_len i tU133) ?_
 refine g2 r_gtr <| ge <| tn ?_
 refine gi dT dF ?_ ?_
 ·refine gk <| tn <| gb <| gS <| gR <| gM ?_
  refine gM ?_
  refine g1 (fun i => r_len i tU133) ?_
  refine g2s r_subI ?_
  refine gI1 tU133 ti_114 fun ak => ?_
  refine gE fun s => gE fun al => gE fun g => gE fun am => gLN Try.underlying114 ti_114 ?_
  refine na ti_114 fun aI t => ?_
  refine wn 0 0 ti_114 fun aa => ge <| tn <| gS <| gR ?_
  refine gM ?_
  refine gM ?_
  refine g1 (fun i => r_len i tU133) ?_
  refine g2s r_subI ?_
  refine g2s (fun i az h => r_sliceH i az tU133 ti_114 h) ?_
  refine gN <| ge <| tn <| gS <| gS <| gR ?_
  refine gM ?_
  refine gM ?_
  refine gBN 0 4 Try.underlying114 ti_114 <| gE fun z => gE fun an => gE fun ao => gA fun hp => gT1 ?_
  refine gA fun hb => gCo [0] hb (fun _ h => ((h.opv rfl).trans hp)) fun _ ab => gE fun ad => gQ ?_
  refine g1 r_not <| ge <| tn ?_
  refine gi nT nF ?_ ?_
  ·refine gx <| te <| bm <| te <| bh <| sn <| gze ?_
   exact gz0
  ·refine gk <| tn <| gS <| gS <| gR <| gF 0 Try.underlying114 ti_112 ?_
   refine gB 0 tU112 ?_
   refine gnP fun ap => ?_
   refine gF 4 Try.underlying26 ti_24 ?_
   refine gE fun af => gL tU24 ?_
   refine g1 (fun i => r_len i tU24) ?_
   refine g2s r_subI ?_
   refine gN <| ge <| tn <| gb <| gE fun _ => gE fun mu => ?_
   refine l2 mu (fun j b => [(4, Sl.v j), (7, .int .i64 b)]) [(1, _), (5, _), (6, _)] (fun _ _ => []) [(t, _, _)] [0] fun j b o _ => gS <| gS <| gR ?_
   refine gM ?_
   refine g2 r_geq <| ge <| tn ?_
   refine gi dT dF ?_ ?_
   ·refine gk <| tn <| gS <| gb <| gD fun p => gT0 <| gE fun ar => gA fun aA => gE fun ag => gA fun aB => gE fun l => gA fun aC => gA fun aD => ?_
    refine gW 0 15 [(14, rsB p (fun B => .slice (some ⟨B, 0, none⟩) 1 1) 114 [.pointer (some (l.add (b.toNat * 5))), .int .i64 f, .int .i64 (g + 1), .int .i64 b])] ?_
    refine gM ?_
    refine gF 0 Try.underlying114 ti_112 ?_
    refine gB 0 tU112 ?_
    refine gnx aA ?_
    refine gF 4 Try.underlying26 ti_24 ?_
    refine gP aB <| gL tU24 ?_
    refine gM ?_
    refine gIx tU24 ti_26 aC ?_
    refine gM ?_
    refine gF 2 Try.underlying114 ti_3 ?_
    refine gB 0 tU3 ?_
    refine gP aD <| g2s r_addI ?_
    refine gM ?_
    refine gbu ti_114 Try.underlying114 pl_114 (OPs.of rfl) ?_
    refine yn (fun B => .slice (some ⟨B, 0, none⟩) 1 1) (cs := [.pointer (some (l.add (b.toNat * 5))), .int .i64 f, .int .i64 (g + 1), .int .i64 b]) rfl (fun _ hA _ => r_buildSlice ((OPs.of rfl : OPs _ true _ _).map hA rfl) tU133 ti_114 rfl rfl (by kernel_rfl)) (fun _ _ B _ _ _ h1 h2 => ⟨B, rfl, h1, h2⟩) fun m => ?_
    refine eB (B := m) (T := 114) (cs := [.pointer (some (l.add (b.toNat * 5))), .int .i64 f, .int .i64 (g + 1), .int .i64 b]) (fun _ hF => ⟨hF.1.1, hF.1.2⟩) (fun v w' hE hF => v w' m hE hF.1.1 hF.1.2) fun u => ?_
    refine gO 15 ?_
    refine gX 0 ?_
    refine gR2 [1] r_append fun _ ax => gE fun ah => gQ <| geO ?_
    refine gW 16 1 [] ?_
    refine gN <| geT fun ai => ?_
    refine gZ <| bn <| tn <| gR ?_
    refine gM ?_
    refine g2s r_subI ?_
    refine gN <| ge <| gT0 ?_
    exact k2 [0]
   ·refine gx <| te <| te <| bh <| tn <| gR <| gM ?_
    refine g2s r_addI ?_
    refine gN <| ge <| bn ?_
    exact k2 []
 ·exact gx <| te <| te <| bh <| sn <| gze <| gz0
def walk_Flat_1.vc (__1 : Int) (q : Option Addr) (a : Int) (c : Int) (d : Int) (i : Addr) (R : Value → World → Prop) (w : World) : Prop :=
∃ y : Addr, (q = some y) ∧
∀ (f : World) (j : Nat), New w j f → Chg [] w f →
∃ (k : Int) (l : Str) (m : Str) (z : Sl) (ag : Sl), (Cells f y [.int .i64 k, .string (Bs l), .string (Bs m), Sl.v z, Sl.v ag]) ∧
∀ (r : World) (g : Nat), New f g r → Chg [] f r →
CallK Try.prog 64 #[Sl.v z] r [j, g] (fun v ah => ∃ (n : Sl), v = Sl.v n ∧
∀ (o : World), Chg [g] ah o →
∃ (aa : Sl), (o.cell? i = some (Sl.v aa)) ∧
∀ (p : World) (s : Nat), New o s p → Chg [] o p →
∀ (_ : Box p s 86 [.int .i64 a, .int .i64 1, .int .i64 c, .int .i64 1, .int .i64 d, .int .i64 k, .string (Bs l), .string (Bs m), Sl.v n, Sl.v Sl.nil]),
RunK Try.prog (Builtin.append_ #[79, 79] 79 #[Sl.v aa, Sl.v (Sl.mk (some ⟨s, 0, none⟩) 1 1)]) p [j, g] (fun v ab => ∃ (ad : Sl), v = Sl.v ad ∧
∃ (h t : Nat) (af : TypeId) (u : List Value), i = ⟨h, t, none⟩ ∧ Box ab h af u ∧ t + 1 ≤ u.length ∧ (∀ b ∈ [j, g], b ≠ h) ∧
(∀ x : World, Chg [h] ab x → Box x h af (putAt u t [Sl.v ad]) →
R (.bool true) x)))
theorem walk_Flat_1.ok (__1 : Int) (q : Option Addr) (a : Int) (c : Int) (d : Int) (i : Addr) {R : Value → World → Prop} {w : World} (ai : walk_Flat_1.vc __1 q a c d i R w) : Calls Try.prog 63 #[.int .i64 __1, .agg #[.pointer q, .int .i64 a, .int .i64 c, .int .i64 d], .pointer (some i)] w (Ret R) := by
 refine go _ Try.func63 Try.ntmps63 ai ?_
 refine gS <| gR <| nb fun f j => ?_
 refine gN <| ge <| tn <| gS <| gR ?_
 refine gF 0 Try.underlying114 ti_112 ?_
 refine gB 0 tU112 ?_
 refine gnP fun y => gT1 ?_
 refine gE fun k => gE fun l => gE fun m => gE fun z => gE fun ag => gLN Try.underlying26 ti_26 ?_
 refine na ti_26 fun aj g => ?_
 refine wn 0 0 ti_26 fun ak => ge <| tn <| gS <| gR ?_
 refine gF 4 Try.underlying26 ti_24 ?_
 refine wn 0 0 ti_24 fun r => ge <| tn <| gS <| gR ?_
 refine gF 3 Try.underlying26 ti_23 ?_
 refine gB 0 tU23 <| gT1 ?_
 refine gC [1, 0] Try.func64 fun _ ah => gE fun n => gQ ?_
 refine gF 3 Try.underlying26 ti_23 ?_
 refine wo 0 ti_23 fun o => ge <| tn <| gS <| gR <| gT0 ?_
 refine gE fun aa => gL tU79 ?_
 refine gF 1 Try.underlying114 ti_3 ?_
 refine gB 1 tU3 ?_
 refine gF 2 Try.underlying114 ti_3 ?_
 refine gB 1 tU3 ?_
 refine gF 3 Try.underlying114 ti_3 ?_
 refine gB 1 tU3 ?_
 refine gBN 0 5 Try.underlying26 ti_26 ?_
 refine gbK #[.int .i64 a, .int .i64 1, .int .i64 c, .int .i64 1, .int .i64 d, .int .i64 k, .string (Bs l), .string (Bs m), Sl.v n, Sl.v Sl.nil] ti_86 Try.underlying86 pl_86 ?_
 refine ns [.int .i64 a, .int .i64 1, .int .i64 c, .int .i64 1, .int .i64 d, .int .i64 k, .string (Bs l), .string (Bs m), Sl.v n, Sl.v Sl.nil] tU79 ti_86 fun p s => gT1 ?_
 refine gX 0 ?_
 refine gR2 [2, 1] r_append fun _ ab => gE fun ad => gQ ?_
 refine wx [0, 1] ti_79 fun h t af u x => ge <| tn <| gS <| gR ?_
 refine gN <| ge <| tn <| gr ?_
 exact gz1
end Go.Proofs.Yteohbfaechfliaa
