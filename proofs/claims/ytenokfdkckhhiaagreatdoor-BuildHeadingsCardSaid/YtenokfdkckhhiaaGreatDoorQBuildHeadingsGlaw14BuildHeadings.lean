/-
  PRINTED BY PROGRAM: for each function its condition (vc), and that this suffices (ok).
-/
import Derived.Test.YtenokfdkckhhiaaGreatDoorQBuildHeadingsGT
namespace Go.Proofs.YtenokfdkckhhiaaGreatDoor
open Go.RowKit
set_option linter.unusedVariables false
set_option maxHeartbeats 1000000
set_option maxRecDepth 10000
def law14_BuildHeadings.vc (k : Sl) (q : Sl) (R : Value → World → Prop) (w : World) : Prop :=
∃ (af : Str → Int → Int → World → Prop) (ag : Str → Int → Int → World → Nat),
af ([60, 98, 111, 100, 121, 62] : Str) 0 0 w ∧
(∀ (f : Str) (g : Int) (b : Int) (x : World), af f g b x →
(((b < (k.n : Int)) ∧ (b < 12)) →
∀ (r : World), Chg [] x r →
(List.length f + List.length ([60, 104] : Str) ≤ 9223372036854775807) ∧
∃ al : Addr, (((0 : Int) ≤ b ∧ b < (k.n : Int)) ∧ k.a = some al) ∧
∃ (am : Int), (r.cell? (al.add (b.toNat * 1)) = some (.int .i64 am)) ∧
∃ (c : Int), (∀ w' : World, Ext r w' → Calls Tryz.prog 15 #[.int .i64 am, .int .i64 6] w' (Ret fun v w'' => Ext w' w'' ∧ v = .int .i64 c)) ∧
∃ an : Addr, (((0 : Int) ≤ b ∧ b < (k.n : Int)) ∧ k.a = some an) ∧
∃ (ao : Int), (r.cell? (an.add (b.toNat * 1)) = some (.int .i64 ao)) ∧
∃ (i : Int), (∀ w' : World, Ext r w' → Calls Tryz.prog 15 #[.int .i64 ao, .int .i64 6] w' (Ret fun v w'' => Ext w' w'' ∧ v = .int .i64 i)) ∧
(I64 (i + 1)) ∧
((0 : Int) ≤ c ∧ (c : Int) ≤ i + 1 ∧ i + 1 ≤ (([49, 50, 51, 52, 53, 54] : Str).length : Int)) ∧
(List.length (f ++ ([60, 104] : Str)) + List.length ((List.drop c.toNat ([49, 50, 51, 52, 53, 54] : Str)).take ((i + 1).toNat - c.toNat)) ≤ 9223372036854775807) ∧
(List.length ((f ++ ([60, 104] : Str)) ++ ((List.drop c.toNat ([49, 50, 51, 52, 53, 54] : Str)).take ((i + 1).toNat - c.toNat))) + List.length ([62, 120] : Str) ≤ 9223372036854775807) ∧
((b < (q.n : Int)) →
∀ (u : World), Chg [] r u →
(List.length (((f ++ ([60, 104] : Str)) ++ ((List.drop c.toNat ([49, 50, 51, 52, 53, 54] : Str)).take ((i + 1).toNat - c.toNat))) ++ ([62, 120] : Str)) + List.length ([60, 47, 104] : Str) ≤ 9223372036854775807) ∧
∃ ap : Addr, (((0 : Int) ≤ b ∧ b < (q.n : Int)) ∧ q.a = some ap) ∧
∃ (aq : Int), (u.cell? (ap.add (b.toNat * 1)) = some (.int .i64 aq)) ∧
∃ (l : Int), (∀ w' : World, Ext u w' → Calls Tryz.prog 15 #[.int .i64 aq, .int .i64 6] w' (Ret fun v w'' => Ext w' w'' ∧ v = .int .i64 l)) ∧
∃ ar : Addr, (((0 : Int) ≤ b ∧ b < (q.n : Int)) ∧ q.a = some ar) ∧
∃ (au : Int), (u.cell? (ar.add (b.toNat * 1)) = some (.int .i64 au)) ∧
∃ (p : Int), (∀ w' : World, Ext u w' → Calls Tryz.prog 15 #[.int .i64 au, .int .i64 6] w' (Ret fun v w'' => Ext w' w'' ∧ v = .int .i64 p)) ∧
(I64 (p + 1)) ∧
((0 : Int) ≤ l ∧ (l : Int) ≤ p + 1 ∧ p + 1 ≤ (([49, 50, 51, 52, 53, 54] : Str).length : Int)) ∧
(List.length ((((f ++ ([60, 104] : Str)) ++ ((List.drop c.toNat ([49, 50, 51, 52, 53, 54] : Str)).take ((i + 1).toNat - c.toNat))) ++ ([62, 120] : Str)) ++ ([60, 47, 104] : Str)) + List.length ((List.drop l.toNat ([49, 50, 51, 52, 53, 54] : Str)).take ((p + 1).toNat - l.toNat)) ≤ 9223372036854775807) ∧
(List.length (((((f ++ ([60, 104] : Str)) ++ ((List.drop c.toNat ([49, 50, 51, 52, 53, 54] : Str)).take ((i + 1).toNat - c.toNat))) ++ ([62, 120] : Str)) ++ ([60, 47, 104] : Str)) ++ ((List.drop l.toNat ([49, 50, 51, 52, 53, 54] : Str)).take ((p + 1).toNat - l.toNat))) + List.length ([62] : Str) ≤ 9223372036854775807) ∧
(I64 (g + 1)) ∧
(I64 (b + 1)) ∧
∀ (ah : World), Chg [] u ah →
af ((((((f ++ ([60, 104] : Str)) ++ ((List.drop c.toNat ([49, 50, 51, 52, 53, 54] : Str)).take ((i + 1).toNat - c.toNat))) ++ ([62, 120] : Str)) ++ ([60, 47, 104] : Str)) ++ ((List.drop l.toNat ([49, 50, 51, 52, 53, 54] : Str)).take ((p + 1).toNat - l.toNat))) ++ ([62] : Str)) (g + 1) (b + 1) ah ∧ ag ((((((f ++ ([60, 104] : Str)) ++ ((List.drop c.toNat ([49, 50, 51, 52, 53, 54] : Str)).take ((i + 1).toNat - c.toNat))) ++ ([62, 120] : Str)) ++ ([60, 47, 104] : Str)) ++ ((List.drop l.toNat ([49, 50, 51, 52, 53, 54] : Str)).take ((p + 1).toNat - l.toNat))) ++ ([62] : Str)) (g + 1) (b + 1) ah < ag f g b x) ∧
((¬ (b < (q.n : Int))) →
(I64 (g + 1)) ∧
(I64 (b + 1)) ∧
∀ (ai : World), Chg [] r ai →
af (((f ++ ([60, 104] : Str)) ++ ((List.drop c.toNat ([49, 50, 51, 52, 53, 54] : Str)).take ((i + 1).toNat - c.toNat))) ++ ([62, 120] : Str)) (g + 1) (b + 1) ai ∧ ag (((f ++ ([60, 104] : Str)) ++ ((List.drop c.toNat ([49, 50, 51, 52, 53, 54] : Str)).take ((i + 1).toNat - c.toNat))) ++ ([62, 120] : Str)) (g + 1) (b + 1) ai < ag f g b x)) ∧
(((¬ (b < (k.n : Int))) ∨ (¬ (b < 12))) →
CallK Tryz.prog 18 #[.string (Bs f)] x [] (fun v av => ∃ (s : Sl) (aj : Bool), v = .tuple #[Sl.v s, .bool aj] ∧
(((aj = false) ∨ ((s.n : Int) ≠ g)) →
R (.bool false) av) ∧
(((aj = true) ∧ (¬ ((s.n : Int) ≠ g))) →
∃ (ax : Int → World → Prop) (aI : Int → World → Nat),
ax 0 av ∧
(∀ (d : Int) (aa : World), ax d aa →
((d < g) →
∀ (t : World), Chg [] aa t →
∃ ay : Addr, (((0 : Int) ≤ d ∧ d < (s.n : Int)) ∧ s.a = some ay) ∧
∃ (y : Str), (t.cell? ((ay.add (d.toNat * 5)).add 1) = some (.string (Bs y))) ∧
∃ az : Addr, (((0 : Int) ≤ d ∧ d < (k.n : Int)) ∧ k.a = some az) ∧
∃ (aA : Int), (t.cell? (az.add (d.toNat * 1)) = some (.int .i64 aA)) ∧
∃ (j : Int), (∀ w' : World, Ext t w' → Calls Tryz.prog 15 #[.int .i64 aA, .int .i64 6] w' (Ret fun v w'' => Ext w' w'' ∧ v = .int .i64 j)) ∧
∃ aB : Addr, (((0 : Int) ≤ d ∧ d < (k.n : Int)) ∧ k.a = some aB) ∧
∃ (aC : Int), (t.cell? (aB.add (d.toNat * 1)) = some (.int .i64 aC)) ∧
∃ (o : Int), (∀ w' : World, Ext t w' → Calls Tryz.prog 15 #[.int .i64 aC, .int .i64 6] w' (Ret fun v w'' => Ext w' w'' ∧ v = .int .i64 o)) ∧
(I64 (o + 1)) ∧
((0 : Int) ≤ j ∧ (j : Int) ≤ o + 1 ∧ o + 1 ≤ (([49, 50, 51, 52, 53, 54] : Str).length : Int)) ∧
(List.length ([104] : Str) + List.length ((List.drop j.toNat ([49, 50, 51, 52, 53, 54] : Str)).take ((o + 1).toNat - j.toNat)) ≤ 9223372036854775807) ∧
∀ (aD : World), Chg [] t aD →
∃ aG : Addr, (((¬ (y ≠ (([104] : Str) ++ ((List.drop j.toNat ([49, 50, 51, 52, 53, 54] : Str)).take ((o + 1).toNat - j.toNat)))))) → ((0 : Int) ≤ d ∧ d < (s.n : Int)) ∧  s.a = some aG) ∧
∀ (z : World), Chg [] aD z →
∃ (ak : Sl), (((¬ (y ≠ (([104] : Str) ++ ((List.drop j.toNat ([49, 50, 51, 52, 53, 54] : Str)).take ((o + 1).toNat - j.toNat)))))) → z.cell? ((aG.add (d.toNat * 5)).add 4) = some (Sl.v ak)) ∧
(((y ≠ (([104] : Str) ++ ((List.drop j.toNat ([49, 50, 51, 52, 53, 54] : Str)).take ((o + 1).toNat - j.toNat)))) ∨ ((ak.n : Int) ≠ 1)) →
R (.bool false) z) ∧
(((¬ (y ≠ (([104] : Str) ++ ((List.drop j.toNat ([49, 50, 51, 52, 53, 54] : Str)).take ((o + 1).toNat - j.toNat))))) ∧ (¬ ((ak.n : Int) ≠ 1))) →
(I64 (d + 1)) ∧
ax (d + 1) z ∧ aI (d + 1) z < aI d aa)) ∧
((¬ (d < g)) →
CallK Tryz.prog 10 #[] aa [] (fun v aJ => ∃ (aH : Bool), v = .bool aH ∧
R (.bool aH) aJ)))))))
theorem law14_BuildHeadings.ok (k : Sl) (q : Sl) {R : Value → World → Prop} {w : World} (aK : law14_BuildHeadings.vc k q R w) : Calls Tryz.prog 8 #[Sl.v k, Sl.v q] w (Ret R) := by
 refine go _ Tryz.func8 Tryz.ntmps8 aK ?_
 refine gS <| gR <| gN <| ge <| tn <| gS <| gR ?_
 refine gN <| ge <| tn <| gS <| gR ?_
 refine gN <| ge <| tn <| gS <| gS <| gR ?_
 refine gN <| ge <| tn <| gb <| gE fun _ => gE fun mu => ?_
 refine l3 mu (fun f g b => [(5, .string (Bs f)), (6, .int .i64 g), (7, .int .i64 b)]) [(0, _), (1, _)] (fun _ _ _ => []) [] [] fun f g b x _ => gS <| gS <| gR ?_
 refine gM ?_
 refine gM ?_
 refine g1 (fun m => r_len m tU42) ?_
 refine g2 r_lss ?_
 refine gM ?_
 refine G1 r_move ?_
 refine G2 r_lss ?_
 refine gpa <| ge <| tn ?_
 refine gi (fun h => ⟨(dT (aT h).1), (dT (aT h).2)⟩) (fun h => ((aF h).imp (fun h => (dF h)) (fun h => (dF h)))) ?_ ?_
 ·refine gk <| tn <| gS <| gb <| gS <| gD fun r => gT0 <| gA fun aL => gE fun al => gA fun aM => gE fun am => gA fun aN => gE fun c => gA fun aO => gE fun an => gA fun aP => gE fun ao => gA fun aQ => gE fun i => gA fun aR => gA fun aS => gA fun aU => ?_
  refine gW 0 14 [(6, rsU (.int .i64 c)), (11, rsU (.int .i64 i))] ?_
  refine gM ?_
  refine gP aL <| g2s r_sadd ?_
  refine gM ?_
  refine gM ?_
  refine gIx tU42 ti_3 aM ?_
  refine gP aN <| gL tU3 ?_
  refine yc rfl Tryz.func15 (fun w' hE _ => aO w' hE) (fun _ _ h => ⟨(), h, trivial⟩) fun _ => ?_
  refine gM ?_
  refine gM ?_
  refine gIx tU42 ti_3 aP ?_
  refine gP aQ <| gL tU3 ?_
  refine yc rfl Tryz.func15 (fun w' hE _ => aR w' hE) (fun _ _ h => ⟨(), h, trivial⟩) fun _ => ?_
  refine gP aS <| g2s r_addI ?_
  refine gP aU <| g3s (fun m ab ad h => r_sslice2 m ab ad tU9 h) ?_
  refine eT fun ai => ?_
  refine gO 14 ?_
  refine g2s r_sadd <| geO ?_
  refine gO 15 ?_
  refine g2s r_sadd <| geO ?_
  refine gO 16 ?_
  refine gN <| geO ?_
  refine gZ <| tn <| gS <| gS <| gR ?_
  refine gM ?_
  refine gM ?_
  refine g1 (fun m => r_len m tU42) ?_
  refine g2 r_lss <| ge <| tn ?_
  refine gi dT dF ?_ ?_
  ·refine gD fun u => gT0 <| gA fun aV => gE fun ap => gA fun aX => gE fun aq => gA fun aY => gE fun l => gA fun aZ => gE fun ar => gA fun a0 => gE fun au => gA fun a1 => gE fun p => gA fun a2 => gA fun a3 => gA fun a4 => ?_
   refine gW 0 14 [(6, rsU (.int .i64 l)), (11, rsU (.int .i64 p))] ?_
   refine gM ?_
   refine gP aV <| g2s r_sadd ?_
   refine gM ?_
   refine gM ?_
   refine gIx tU42 ti_3 aX ?_
   refine gP aY <| gL tU3 ?_
   refine yc rfl Tryz.func15 (fun w' hE _ => aZ w' hE) (fun _ _ h => ⟨(), h, trivial⟩) fun _ => ?_
   refine gM ?_
   refine gM ?_
   refine gIx tU42 ti_3 a0 ?_
   refine gP a1 <| gL tU3 ?_
   refine yc rfl Tryz.func15 (fun w' hE _ => a2 w' hE) (fun _ _ h => ⟨(), h, trivial⟩) fun _ => ?_
   refine gP a3 <| g2s r_addI ?_
   refine gP a4 <| g3s (fun m ab ad h => r_sslice2 m ab ad tU9 h) ?_
   refine eT fun ah => ?_
   refine gO 14 ?_
   refine g2s r_sadd <| geO ?_
   refine gO 15 ?_
   refine g2s r_sadd <| geO ?_
   refine gO 16 ?_
   refine gN <| geO ?_
   refine gZ <| tn <| gR ?_
   refine gM ?_
   refine g2s r_addI ?_
   refine gN <| ge <| bn <| tn <| gR ?_
   refine gM ?_
   refine g2s r_addI ?_
   refine gN <| ge <| gT0 ?_
   exact k3 []
  ·refine gk <| tn <| gR <| gM ?_
   refine g2s r_addI ?_
   refine gN <| ge <| bn <| tn <| gR ?_
   refine gM ?_
   refine g2s r_addI ?_
   refine gN <| ge <| gT0 ?_
   exact k3 []
 ·refine gx <| te <| te <| bh <| tn <| gS <| gR <| gM ?_
  refine gC [] Tryz.func18 fun _ av => gE fun s => gE fun aj => gQ ?_
  refine gM ?_
  refine gx1 ?_
  refine gx1 ?_
  refine gN ?_
  refine gN <| ge <| tn <| gS <| gS <| gR ?_
  refine gM ?_
  refine g1 r_not ?_
  refine gM ?_
  refine G1 r_move ?_
  refine G1 (fun m => r_len m tU26) ?_
  refine G1 r_move ?_
  refine G2 r_neq ?_
  refine gpo <| ge <| tn ?_
  refine gi (fun h => ((oT h).imp (fun h => (nT h)) (fun h => (dT h)))) (fun h => ⟨(nF (oF h).1), (dF (oF h).2)⟩) ?_ ?_
  ·refine gS <| gR <| gN <| ge <| tn <| gr <| tr ?_
   exact gz1
  ·refine gk <| tn <| gS <| gS <| gR <| gN <| ge <| tn <| gb <| gE fun _ => gE fun mu => ?_
   refine l1 mu (fun d => [(10, .int .i64 d)]) [(0, _), (6, _), (8, _)] (fun _ => []) [] [] fun d aa _ => gS <| gS <| gR ?_
   refine gM ?_
   refine gM ?_
   refine g2 r_lss <| ge <| tn ?_
   refine gi dT dF ?_ ?_
   ·refine gk <| tn <| gS <| gb <| gS <| gD fun t => gT0 <| gE fun ay => gA fun a5 => gE fun y => gA fun a6 => gE fun az => gA fun a7 => gE fun aA => gA fun a8 => gE fun j => gA fun a9 => gE fun aB => gA fun ba => gE fun aC => gA fun bb => gE fun o => gA fun bd => gA fun bf => gA fun bg => gA fun bi => ?_
    refine gW 0 18 [(9, rsU (.int .i64 j)), (14, rsU (.int .i64 o))] ?_
    refine gM ?_
    refine gM ?_
    refine gIx tU26 ti_28 a5 ?_
    refine gF 1 Tryz.underlying28 ti_9 ?_
    refine gP a6 <| gL tU9 ?_
    refine gM ?_
    refine gM ?_
    refine gIx tU42 ti_3 a7 ?_
    refine gP a8 <| gL tU3 ?_
    refine yc rfl Tryz.func15 (fun w' hE _ => a9 w' hE) (fun _ _ h => ⟨(), h, trivial⟩) fun _ => ?_
    refine gM ?_
    refine gM ?_
    refine gIx tU42 ti_3 ba ?_
    refine gP bb <| gL tU3 ?_
    refine yc rfl Tryz.func15 (fun w' hE _ => bd w' hE) (fun _ _ h => ⟨(), h, trivial⟩) fun _ => ?_
    refine gP bf <| g2s r_addI ?_
    refine gP bg <| g3s (fun m ab ad h => r_sslice2 m ab ad tU9 h) ?_
    refine gP bi <| g2s r_sadd ?_
    refine eT fun aD => ?_
    refine gO 18 ?_
    refine g2 r_sneq <| geO ?_
    refine gO 19 ?_
    refine gM <| geO <| gT0 ?_
    refine gW 20 2 [] ?_
    refine G1 r_move ?_
    refine G1 r_move <| geT fun z => ?_
    refine gO 22 ?_
    refine GI2 tU26 ti_28 (fun hg => (dF (g_f hg))) fun aG => geO ?_
    refine gO 23 ?_
    refine GF 4 Tryz.underlying28 ti_26 <| geO ?_
    refine gO 24 <| gT0 ?_
    refine gE fun ak => GLd tU26 (fun hg => (dF (g_f hg))) <| geO ?_
    refine gO 25 ?_
    refine G1 (fun m => r_len m tU26) <| geO ?_
    refine gO 26 ?_
    refine G2 r_neq <| geO ?_
    refine gO 27 ?_
    refine gpo <| geO ?_
    refine gZ <| tn ?_
    refine gi (fun h => ((oT h).imp (fun h => (dT h)) (fun h => (dT h)))) (fun h => ⟨(dF (oF h).1), (dF (oF h).2)⟩) ?_ ?_
    ·refine gS <| gR <| gN <| ge <| tn <| gr <| br <| tr <| tr <| br <| tr ?_
     exact gz1
    ·refine gk <| bn <| tn <| gR <| gM ?_
     refine g2s r_addI ?_
     refine gN <| ge ?_
     exact k1 []
   ·refine gx <| te <| te <| bh <| tn <| gS <| gR <| gC [] Tryz.func10 fun _ aJ => gE fun aH => gQ ?_
    refine gN <| ge <| tn <| gr ?_
    exact gz1
end Go.Proofs.YtenokfdkckhhiaaGreatDoor
