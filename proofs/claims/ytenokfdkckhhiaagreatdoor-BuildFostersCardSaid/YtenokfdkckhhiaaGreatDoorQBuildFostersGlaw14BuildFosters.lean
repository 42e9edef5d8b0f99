/-
  PRINTED BY PROGRAM: for each function its condition (vc), and that this suffices (ok).
-/
import Derived.Test.YtenokfdkckhhiaaGreatDoorQBuildFostersGT
namespace Go.Proofs.YtenokfdkckhhiaaGreatDoor
open Go.RowKit
set_option linter.unusedVariables false
set_option maxHeartbeats 1000000
set_option maxRecDepth 10000
def law14_BuildFosters.vc (b : Str) (u : Int) (R : Value → World → Prop) (w : World) : Prop :=
(((b = ([] : Str)) ∨ (30 < (b.length : Int))) →
CallK Tryz.prog 10 #[] w [] (fun v w6 => ∃ (aa : Bool),v = .bool aa ∧
R (.bool aa) w6)) ∧
(((¬ (b = ([] : Str))) ∧ (¬ (30 < (b.length : Int)))) →
∃ (ab : Int → World → Prop) (aA : Int → World → Nat),
ab 0 w ∧
(∀ (d : Int) (m : World),ab d m →
((d < (b.length : Int)) →
((0 : Int) ≤ d ∧ d < (b.length : Int)) ∧
(((¬ (((b.getD d.toNat 0).toNat : Int) < 97))) → (0 : Int) ≤ d ∧ d < (b.length : Int)) ∧
(((((b.getD d.toNat 0).toNat : Int) < 97) ∨ (122 < ((b.getD d.toNat 0).toNat : Int))) →
CallK Tryz.prog 10 #[] m [] (fun v aB => ∃ (ad : Bool),v = .bool ad ∧
R (.bool ad) aB)) ∧
(((¬ (((b.getD d.toNat 0).toNat : Int) < 97)) ∧ (¬ (122 < ((b.getD d.toNat 0).toNat : Int)))) →
(I64 (d + 1)) ∧
ab (d + 1) m ∧ aA (d + 1) m < aA d m)) ∧
((¬ (d < (b.length : Int))) →
CallK Tryz.prog 15 #[.int .i64 u,.int .i64 4] m [] (fun v aC => ∃ (o : Int),v = .int .i64 o ∧
((0 : Int) ≤ o ∧ o < 4) ∧
(List.length (([([60,116,97,98,108,101,62] : Str),([60,116,97,98,108,101,62,60,116,98,111,100,121,62] : Str),([60,116,97,98,108,101,62,60,116,114,62] : Str),([60,116,97,98,108,101,62,60,116,98,111,100,121,62,60,116,114,62] : Str)] : List Str).getD o.toNat []) + List.length b ≤ 9223372036854775807) ∧
(List.length ((([([60,116,97,98,108,101,62] : Str),([60,116,97,98,108,101,62,60,116,98,111,100,121,62] : Str),([60,116,97,98,108,101,62,60,116,114,62] : Str),([60,116,97,98,108,101,62,60,116,98,111,100,121,62,60,116,114,62] : Str)] : List Str).getD o.toNat []) ++ b) + List.length ([60,116,100,62,113,60,47,116,97,98,108,101,62] : Str) ≤ 9223372036854775807) ∧
CallK Tryz.prog 16 #[.string (Bs (((([([60,116,97,98,108,101,62] : Str),([60,116,97,98,108,101,62,60,116,98,111,100,121,62] : Str),([60,116,97,98,108,101,62,60,116,114,62] : Str),([60,116,97,98,108,101,62,60,116,98,111,100,121,62,60,116,114,62] : Str)] : List Str).getD o.toNat []) ++ b) ++ ([60,116,100,62,113,60,47,116,97,98,108,101,62] : Str)))] aC [] (fun v aD => ∃ (af : Sl),v = Sl.v af ∧
CallK Tryz.prog 11 #[Sl.v af] aD [] (fun v ah => ∃ (aG : Int) (aH : Str) (aI : Str) (aJ : Sl) (j : Sl) (q : Int),v = .tuple #[.agg #[.int .i64 aG,.string (Bs aH),.string (Bs aI),Sl.v aJ,Sl.v j],.int .i64 q] ∧
∃ ai : Addr,((((¬ (q ≠ 0)) ∧ (¬ ((j.n : Int) ≠ 1)))) → ((0 : Int) ≤ 0 ∧ 0 < (j.n : Int)) ∧  j.a = some ai) ∧
∀ (g : World) (aK : Nat),New ah aK g → Chg [] ah g →
∃ (x : Sl),((((¬ (q ≠ 0)) ∧ (¬ ((j.n : Int) ≠ 1)))) → g.cell? ((ai.add (0 * 5)).add 4) = some (Sl.v x)) ∧
((((q ≠ 0) ∨ ((j.n : Int) ≠ 1)) ∨ ((x.n : Int) ≠ 2)) →
R (.bool false) g) ∧
((((¬ (q ≠ 0)) ∧ (¬ ((j.n : Int) ≠ 1))) ∧ (¬ ((x.n : Int) ≠ 2))) →
((0 : Int) ≤ 0 ∧ 0 < (j.n : Int)) ∧ ∃ aj : Addr,j.a = some aj ∧
∃ (y : Sl),(g.cell? ((aj.add (0 * 5)).add 4) = some (Sl.v y)) ∧
((0 : Int) ≤ 1 ∧ 1 < (y.n : Int)) ∧ ∃ ak : Addr,y.a = some ak ∧
∃ (c : Sl),(g.cell? ((ak.add (1 * 5)).add 4) = some (Sl.v c)) ∧
∃ al : Addr,((((c.n : Int) = 2)) → ((0 : Int) ≤ 0 ∧ 0 < (c.n : Int)) ∧  c.a = some al) ∧
∃ (i : Int),((((c.n : Int) = 2)) → g.cell? ((al.add (0 * 5)).add 0) = some (.int .i64 i)) ∧
∃ am : Addr,(((((c.n : Int) = 2) ∧ (i = 3))) → ((0 : Int) ≤ 0 ∧ 0 < (c.n : Int)) ∧  c.a = some am) ∧
∃ (k : Str),(((((c.n : Int) = 2) ∧ (i = 3))) → g.cell? ((am.add (0 * 5)).add 2) = some (.string (Bs k))) ∧
∃ an : Addr,((((((c.n : Int) = 2) ∧ (i = 3)) ∧ (k = b))) → ((0 : Int) ≤ 1 ∧ 1 < (c.n : Int)) ∧  c.a = some an) ∧
∃ (p : Str),((((((c.n : Int) = 2) ∧ (i = 3)) ∧ (k = b))) → g.cell? ((an.add (1 * 5)).add 1) = some (.string (Bs p))) ∧
∃ ao : Addr,(((((((c.n : Int) = 2) ∧ (i = 3)) ∧ (k = b)) ∧ (p = ([116,97,98,108,101] : Str)))) → ((0 : Int) ≤ 1 ∧ 1 < (c.n : Int)) ∧  c.a = some ao) ∧
∃ (ap : Int) (aq : Str) (ar : Str) (au : Sl) (av : Sl),(((((((c.n : Int) = 2) ∧ (i = 3)) ∧ (k = b)) ∧ (p = ([116,97,98,108,101] : Str)))) → Cells g (ao.add (1 * 5)) [.int .i64 ap,.string (Bs aq),.string (Bs ar),Sl.v au,Sl.v av]) ∧
∃ (z : Int),(((((((c.n : Int) = 2) ∧ (i = 3)) ∧ (k = b)) ∧ (p = ([116,97,98,108,101] : Str)))) → Calls Tryz.prog 17 #[.agg #[.int .i64 ap,.string (Bs aq),.string (Bs ar),Sl.v au,Sl.v av]] g (Ret fun v w' => Ext g w' ∧ v = .int .i64 z)) ∧
(∀ r : World,Ext g r →
∃ (ax : Bool),((((((((c.n : Int) = 2) ∧ (i = 3)) ∧ (k = b)) ∧ (p = ([116,97,98,108,101] : Str))) ∧ (z = 5))) → Calls Tryz.prog 10 #[] r (Ret fun v w' => Ext r w' ∧ v = .bool ax)) ∧
(∀ ay : World,Ext r ay →
R (.bool ((((((decide ((c.n : Int) = 2)) && (decide (i = 3))) && (decide (k = b))) && (decide (p = ([116,97,98,108,101] : Str)))) && (decide (z = 5))) && ax)) ay)))))))))
theorem law14_BuildFosters.ok (b : Str) (u : Int) {R : Value → World → Prop} {w : World} (aL : law14_BuildFosters.vc b u R w) : Calls Tryz.prog 5 #[.string (Bs b),.int .i64 u] w (Ret R) := by
 refine go _ Tryz.func5 Tryz.ntmps5 aL ?_
 refine gS <| gR <| gN <| ge <| tn <| gS <| gS <| gR ?_
 refine gM ?_
 refine g2 r_seql ?_
 refine gM ?_
 refine G1 r_move ?_
 refine G1 (fun f => r_slen f tU9) ?_
 refine G2 r_gtr ?_
 refine gpo <| ge <| tn ?_
 refine gi (fun h => ((oT h).imp (fun h => (dT h)) (fun h => (dT h)))) (fun h => ⟨(dF (oF h).1),(dF (oF h).2)⟩) ?_ ?_
 ·refine gS <| gR <| gC [] Tryz.func10 fun _ w6 => gE fun aa => gQ ?_
  refine gN <| ge <| tn <| gr <| tr ?_
  exact gz1
 ·refine gk <| tn <| gS <| gS <| gR <| gN <| ge <| tn <| gb <| gE fun _ => gE fun mu => ?_
  refine l1 mu (fun d => [(5,.int .i64 d)]) [(0,_),(1,_)] (fun _ => []) [] [] fun d m _ => gS <| gS <| gR ?_
  refine gM ?_
  refine gM ?_
  refine g1 (fun f => r_slen f tU9) ?_
  refine g2 r_lss <| ge <| tn ?_
  refine gi dT dF ?_ ?_
  ·refine gk <| tn <| gS <| gb <| gS <| gR <| gM ?_
   refine gM ?_
   refine g2s (fun f t h => r_sindex f t tU9 h) ?_
   refine g2 r_lss ?_
   refine gM ?_
   refine G1 r_move ?_
   refine G1 r_move ?_
   refine G2s (fun f t h => r_sindex f t tU9 h) (fun hg => (dF (g_f hg))) ?_
   refine G2 r_gtr ?_
   refine gpo <| ge <| tn ?_
   refine gi (fun h => ((oT h).imp (fun h => (dT h)) (fun h => (dT h)))) (fun h => ⟨(dF (oF h).1),(dF (oF h).2)⟩) ?_ ?_
   ·refine gS <| gR <| gC [] Tryz.func10 fun _ aB => gE fun ad => gQ ?_
    refine gN <| ge <| tn <| gr <| br <| tr <| tr <| br <| tr ?_
    exact gz1
   ·refine gk <| bn <| tn <| gR <| gM ?_
    refine g2s r_addI ?_
    refine gN <| ge ?_
    exact k1 []
  ·refine gx <| te <| te <| bh <| tn <| gS <| gR <| gv (fun _ _ s _ => r_buildA (cells := #[.string (Bs ([60,116,97,98,108,101,62] : Str)),.string (Bs ([60,116,97,98,108,101,62,60,116,98,111,100,121,62] : Str)),.string (Bs ([60,116,97,98,108,101,62,60,116,114,62] : Str)),.string (Bs ([60,116,97,98,108,101,62,60,116,98,111,100,121,62,60,116,114,62] : Str))]) (map_arr2 (ml2_cons (s.ag.opv rfl) (ml2_cons (s.ag.opv rfl) (ml2_cons (s.ag.opv rfl) (ml2_cons (s.ag.opv rfl) (ml2_nil)))))) ti_39 Tryz.underlying39 ti_9 (by kernel_rfl)) ?_
   refine gM ?_
   refine gC [] Tryz.func15 fun _ aC => gE fun o => gQ ?_
   refine g2s (fun f t h => r_aindexS (l := ([([60,116,97,98,108,101,62] : Str),([60,116,97,98,108,101,62,60,116,98,111,100,121,62] : Str),([60,116,97,98,108,101,62,60,116,114,62] : Str),([60,116,97,98,108,101,62,60,116,98,111,100,121,62,60,116,114,62] : Str)] : List Str)) f rfl t Tryz.underlying39 tU9 ti_9 rfl h) ?_
   refine gN <| ge <| tn <| gS <| gR ?_
   refine gM ?_
   refine gM ?_
   refine g2s r_sadd ?_
   refine g2s r_sadd ?_
   refine gC [] Tryz.func16 fun _ aD => gE fun af => gQ ?_
   refine gC [] Tryz.func11 fun _ ah => gE fun aG => gE fun aH => gE fun aI => gE fun aJ => gE fun j => gE fun q => gQ ?_
   refine gM ?_
   refine gx1 ?_
   refine gx1 ?_
   refine na ti_28 fun aM aK => ?_
   refine wn 0 0 ti_28 fun g => ?_
   refine gN <| ge <| tn <| gS <| gS <| gR ?_
   refine gM ?_
   refine g2 r_neq ?_
   refine gM ?_
   refine GF 4 Tryz.underlying28 ti_26 ?_
   refine GB 0 tU26 ?_
   refine G1 (fun f => r_len f tU26) ?_
   refine G2 r_neq ?_
   refine gpo ?_
   refine gM ?_
   refine GF 4 Tryz.underlying28 ti_26 ?_
   refine GB 0 tU26 ?_
   refine GI2 tU26 ti_28 (fun hg => ⟨(dF (oF (g_f hg)).1),(dF (oF (g_f hg)).2)⟩) fun ai => ?_
   refine GF 4 Tryz.underlying28 ti_26 <| gT1 ?_
   refine gE fun x => GLd tU26 (fun hg => ⟨(dF (oF (g_f hg)).1),(dF (oF (g_f hg)).2)⟩) ?_
   refine G1 (fun f => r_len f tU26) ?_
   refine G2 r_neq ?_
   refine gpo <| ge <| tn ?_
   refine gi (fun h => ((oT h).imp (fun h => ((oT h).imp (fun h => (dT h)) (fun h => (dT h)))) (fun h => (dT h)))) (fun h => ⟨⟨(dF (oF (oF h).1).1),(dF (oF (oF h).1).2)⟩,(dF (oF h).2)⟩) ?_ ?_
   ·refine gS <| gR <| gN <| ge <| tn <| gr <| tr ?_
    exact gz1
   ·refine gk <| tn <| gS <| gR <| gF 4 Tryz.underlying28 ti_26 ?_
    refine gB 0 tU26 ?_
    refine gI1 tU26 ti_28 fun aj => ?_
    refine gF 4 Tryz.underlying28 ti_26 ?_
    refine gE fun y => gL tU26 ?_
    refine gI1 tU26 ti_28 fun ak => ?_
    refine gF 4 Tryz.underlying28 ti_26 ?_
    refine gE fun c => gL tU26 ?_
    refine gN <| ge <| tn <| gS <| gR ?_
    refine gM ?_
    refine g1 (fun f => r_len f tU26) ?_
    refine g2 r_eql ?_
    refine gM ?_
    refine G1 r_move ?_
    refine GI2 tU26 ti_28 (fun hg => (dT (g_t hg))) fun al => ?_
    refine GF 0 Tryz.underlying28 ti_3 ?_
    refine gE fun i => GLd tU3 (fun hg => (dT (g_t hg))) ?_
    refine G2 r_eql ?_
    refine gpa ?_
    refine gM ?_
    refine G1 r_move ?_
    refine GI2 tU26 ti_28 (fun hg => ⟨(dT (aT (g_t hg)).1),(dT (aT (g_t hg)).2)⟩) fun am => ?_
    refine GF 2 Tryz.underlying28 ti_9 ?_
    refine gE fun k => GLd tU9 (fun hg => ⟨(dT (aT (g_t hg)).1),(dT (aT (g_t hg)).2)⟩) ?_
    refine G1 r_move ?_
    refine G2 r_seql ?_
    refine gpa ?_
    refine gM ?_
    refine G1 r_move ?_
    refine GI2 tU26 ti_28 (fun hg => ⟨⟨(dT (aT (aT (g_t hg)).1).1),(dT (aT (aT (g_t hg)).1).2)⟩,(dT (aT (g_t hg)).2)⟩) fun an => ?_
    refine GF 1 Tryz.underlying28 ti_9 ?_
    refine gE fun p => GLd tU9 (fun hg => ⟨⟨(dT (aT (aT (g_t hg)).1).1),(dT (aT (aT (g_t hg)).1).2)⟩,(dT (aT (g_t hg)).2)⟩) ?_
    refine G2 r_seql ?_
    refine gpa ?_
    refine gM ?_
    refine G1 r_move ?_
    refine GI2 tU26 ti_28 (fun hg => ⟨⟨⟨(dT (aT (aT (aT (g_t hg)).1).1).1),(dT (aT (aT (aT (g_t hg)).1).1).2)⟩,(dT (aT (aT (g_t hg)).1).2)⟩,(dT (aT (g_t hg)).2)⟩) fun ao => ?_
    refine gE fun ap => gE fun aq => gE fun ar => gE fun au => gE fun av => GLN Tryz.underlying28 ti_28 (fun hg => ⟨⟨⟨(dT (aT (aT (aT (g_t hg)).1).1).1),(dT (aT (aT (aT (g_t hg)).1).1).2)⟩,(dT (aT (aT (g_t hg)).1).2)⟩,(dT (aT (g_t hg)).2)⟩) ?_
    refine gE fun z => GC Tryz.func17 (fun hg => ⟨⟨⟨(dT (aT (aT (aT (g_t hg)).1).1).1),(dT (aT (aT (aT (g_t hg)).1).1).2)⟩,(dT (aT (aT (g_t hg)).1).2)⟩,(dT (aT (g_t hg)).2)⟩) fun r => ?_
    refine G2 r_eql ?_
    refine gpa ?_
    refine gM ?_
    refine gE fun ax => GC Tryz.func10 (fun hg => ⟨⟨⟨⟨(dT (aT (aT (aT (aT (g_t hg)).1).1).1).1),(dT (aT (aT (aT (aT (g_t hg)).1).1).1).2)⟩,(dT (aT (aT (aT (g_t hg)).1).1).2)⟩,(dT (aT (aT (g_t hg)).1).2)⟩,(dT (aT (g_t hg)).2)⟩) fun ay => ?_
    refine gpa ?_
    refine gN <| ge <| tn <| gr ?_
    exact gz1
end Go.Proofs.YtenokfdkckhhiaaGreatDoor
