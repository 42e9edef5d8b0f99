/-
  PRINTED BY PROGRAM: for each function its condition (vc), and that this suffices (ok).
-/
import Derived.Test.YteohbfaechfliaaQSlotsAttrsGT
namespace Go.Proofs.Yteohbfaechfliaa
open Go.RowKit
set_option linter.unusedVariables false
set_option maxHeartbeats 1000000
set_option maxRecDepth 10000
def law25_SlotsAttrs.vc (aJ : Sl) (aK : Sl) (R : Value → World → Prop) (w : World) : Prop :=
CallK Try.prog 8 #[Sl.v aJ] w [] (fun v w5 => ∃ (aa : Int) (ab : Str) (ad : Str) (af : Sl) (ag : Sl), v = .agg #[.int .i64 aa, .string (Bs ab), .string (Bs ad), Sl.v af, Sl.v ag] ∧
∀ (w8 : World) (ap : Nat), New w5 ap w8 → Chg [] w5 w8 →
CallK Try.prog 9 #[.agg #[.int .i64 aa, .string (Bs ab), .string (Bs ad), Sl.v af, Sl.v ag], Sl.v aK] w8 [ap] (fun v a3 => ∃ (aq : Int) (ar : Str) (au : Str) (av : Sl) (ax : Sl), v = .agg #[.int .i64 aq, .string (Bs ar), .string (Bs au), Sl.v av, Sl.v ax] ∧
∀ (aM : World) (aN : Nat), New a3 aN aM → Chg [] a3 aM →
CallK Try.prog 10 #[.agg #[.int .i64 aa, .string (Bs ab), .string (Bs ad), Sl.v af, Sl.v ag], .agg #[.int .i64 aq, .string (Bs ar), .string (Bs au), Sl.v av, Sl.v ax]] aM [ap, aN] (fun v bB => ∃ (g : Sl), v = Sl.v g ∧
∀ (ay : World), Chg [] bB ay →
∃ ah : Sl → World → Prop, (∀ i : Sl, ∀ w' w'' : World, Ext w' w'' → ah i w' → ah i w'') ∧
(∀ w' : World, Ext ay w' → Calls Try.prog 11 #[.agg #[.int .i64 aa, .string (Bs ab), .string (Bs ad), Sl.v af, Sl.v ag]] w' (Ret fun v w'' => Ext w' w'' ∧ ∃ i : Sl, v = Sl.v i ∧ ah i w'')) ∧
∃ ai : Sl → World → Prop, (∀ l : Sl, ∀ w' w'' : World, Ext w' w'' → ai l w' → ai l w'') ∧
(∀ w' : World, Ext ay w' → Calls Try.prog 11 #[.agg #[.int .i64 aq, .string (Bs ar), .string (Bs au), Sl.v av, Sl.v ax]] w' (Ret fun v w'' => Ext w' w'' ∧ ∃ l : Sl, v = Sl.v l ∧ ai l w'')) ∧
∀ (az : World) (i : Sl) (l : Sl), Ext ay az → ah i az → ai l az → 
CallK Try.prog 12 #[.agg #[.int .i64 aa, .string (Bs ab), .string (Bs ad), Sl.v af, Sl.v ag], .agg #[.int .i64 aq, .string (Bs ar), .string (Bs au), Sl.v av, Sl.v ax], Sl.v g] az [ap, aN] (fun v a4 => ∃ (aj : Sl) (aO : Int), v = .tuple #[Sl.v aj, .int .i64 aO] ∧
(((aO ≠ 0) ∨ ((aj.n : Int) ≠ (i.n : Int))) →
R (.bool false) a4) ∧
(((¬ (aO ≠ 0)) ∧ (¬ ((aj.n : Int) ≠ (i.n : Int)))) →
∃ (a5 : Int → World → Prop) (bC : Int → World → Nat),
a5 0 a4 ∧
(∀ (b : Int) (aA : World), a5 b aA →
((b < (g.n : Int)) →
∀ (u : World), Chg [] aA u →
∃ a6 : Addr, (((0 : Int) ≤ b ∧ b < (g.n : Int)) ∧ g.a = some a6) ∧
∃ (aB : Int), (u.cell? ((a6.add (b.toNat * 2)).add 0) = some (.int .i64 aB)) ∧
∃ a7 : Addr, (((0 : Int) ≤ aB ∧ aB < (i.n : Int)) ∧ i.a = some a7) ∧
∃ (aC : Sl), (u.cell? (((a7.add (aB.toNat * 15)).add 5).add 3) = some (Sl.v aC)) ∧
∃ a8 : Addr, (((0 : Int) ≤ b ∧ b < (g.n : Int)) ∧ g.a = some a8) ∧
∃ (aD : Int), (u.cell? ((a8.add (b.toNat * 2)).add 1) = some (.int .i64 aD)) ∧
∃ a9 : Addr, (((0 : Int) ≤ aD ∧ aD < (l.n : Int)) ∧ l.a = some a9) ∧
∃ (k : Sl), (u.cell? (((a9.add (aD.toNat * 15)).add 5).add 3) = some (Sl.v k)) ∧
((0 : Int) ≤ b ∧ b < (g.n : Int)) ∧ ∃ ba : Addr, g.a = some ba ∧
∀ (ak : World), Chg [] u ak →
∃ (aG : Int), (ak.cell? ((ba.add (b.toNat * 2)).add 0) = some (.int .i64 aG)) ∧
((0 : Int) ≤ aG ∧ aG < (aj.n : Int)) ∧ ∃ bb : Addr, aj.a = some bb ∧
∃ (m : Bool) (aP : Bool) (p : Sl) (q : Sl) (bD : Int) (bF : Sl), (Cells ak (bb.add (aG.toNat * 6)) [.bool m, .bool aP, Sl.v p, Sl.v q, .int .i64 bD, Sl.v bF]) ∧
∀ (aQ : World) (r : Nat), New ak r aQ → Chg [] ak aQ →
∃ (aR : Int → Int → World → Prop) (aS : Int → Int → World → Nat),
aR (aC.n : Int) 0 aQ ∧
(∀ (o : Int) (c : Int) (x : World), aR o c x →
((c < (p.n : Int)) →
((0 : Int) ≤ c ∧ c < (p.n : Int)) ∧ ∃ bd : Addr, p.a = some bd ∧
∃ (bf : Str), (x.cell? ((bd.add (c.toNat * 2)).add 0) = some (.string (Bs bf))) ∧
CallK Try.prog 13 #[Sl.v k, .string (Bs bf)] x [r] (fun v bg => ∃ (al : Str) (am : Bool), v = .tuple #[.string (Bs al), .bool am] ∧
((0 : Int) ≤ c ∧ c < (p.n : Int)) ∧ ∃ bi : Addr, p.a = some bi ∧
∃ (bj : Str), (bg.cell? ((bi.add (c.toNat * 2)).add 0) = some (.string (Bs bj))) ∧
CallK Try.prog 13 #[Sl.v aC, .string (Bs bj)] bg [r] (fun v y => ∃ (aU : Str) (an : Bool), v = .tuple #[.string (Bs aU), .bool an] ∧
∃ bk : Addr, (((am = true)) → ((0 : Int) ≤ c ∧ c < (p.n : Int)) ∧  p.a = some bk) ∧
∃ (aV : Str), (((am = true)) → y.cell? ((bk.add (c.toNat * 2)).add 1) = some (.string (Bs aV))) ∧
((((am = false) ∨ (al ≠ aV)) ∨ ((an = true) ∧ (aU = al))) →
R (.bool false) y) ∧
((((am = true) ∧ (¬ (al ≠ aV))) ∧ ((an = false) ∨ (¬ (aU = al)))) →
((an = false) →
(I64 (o + 1)) ∧
(I64 (c + 1)) ∧
aR (o + 1) (c + 1) y ∧ aS (o + 1) (c + 1) y < aS o c x) ∧
((an = true) →
(I64 (c + 1)) ∧
aR o (c + 1) y ∧ aS o (c + 1) y < aS o c x))))) ∧
((¬ (c < (p.n : Int))) →
∃ (bl : Int → Int → World → Prop) (bG : Int → Int → World → Nat),
bl o 0 x ∧
(∀ (d : Int) (f : Int) (ao : World), bl d f ao →
((f < (q.n : Int)) →
((0 : Int) ≤ f ∧ f < (q.n : Int)) ∧ ∃ bo : Addr, q.a = some bo ∧
∃ (bp : Str), (ao.cell? (bo.add (f.toNat * 1)) = some (.string (Bs bp))) ∧
CallK Try.prog 13 #[Sl.v k, .string (Bs bp)] ao [r] (fun v bq => ∃ (bH : Str) (aX : Bool), v = .tuple #[.string (Bs bH), .bool aX] ∧
((0 : Int) ≤ f ∧ f < (q.n : Int)) ∧ ∃ bs : Addr, q.a = some bs ∧
∃ (bt : Str), (bq.cell? (bs.add (f.toNat * 1)) = some (.string (Bs bt))) ∧
CallK Try.prog 13 #[Sl.v aC, .string (Bs bt)] bq [r] (fun v aY => ∃ (bI : Str) (aZ : Bool), v = .tuple #[.string (Bs bI), .bool aZ] ∧
(((aX = true) ∨ (aZ = false)) →
R (.bool false) aY) ∧
(((aX = false) ∧ (aZ = true)) →
(I64 (d - 1)) ∧
(I64 (f + 1)) ∧
bl (d - 1) (f + 1) aY ∧ bG (d - 1) (f + 1) aY < bG d f ao)))) ∧
((¬ (f < (q.n : Int))) →
∀ (t : World), Chg [] ao t →
∃ bu : Addr, ((((¬ (d ≠ (k.n : Int))) ∧ (m = false))) → ((0 : Int) ≤ b ∧ b < (g.n : Int)) ∧ g.a = some bu) ∧
∃ (aH : Int), ((((¬ (d ≠ (k.n : Int))) ∧ (m = false))) → t.cell? ((bu.add (b.toNat * 2)).add 0) = some (.int .i64 aH)) ∧
∃ bv : Addr, ((((¬ (d ≠ (k.n : Int))) ∧ (m = false))) → ((0 : Int) ≤ aH ∧ aH < (i.n : Int)) ∧ i.a = some bv) ∧
∃ (a0 : Str), ((((¬ (d ≠ (k.n : Int))) ∧ (m = false))) → t.cell? (((bv.add (aH.toNat * 15)).add 5).add 2) = some (.string (Bs a0))) ∧
∃ bx : Addr, ((((¬ (d ≠ (k.n : Int))) ∧ (m = false))) → ((0 : Int) ≤ b ∧ b < (g.n : Int)) ∧ g.a = some bx) ∧
∃ (aI : Int), ((((¬ (d ≠ (k.n : Int))) ∧ (m = false))) → t.cell? ((bx.add (b.toNat * 2)).add 1) = some (.int .i64 aI)) ∧
∃ bz : Addr, ((((¬ (d ≠ (k.n : Int))) ∧ (m = false))) → ((0 : Int) ≤ aI ∧ aI < (l.n : Int)) ∧ l.a = some bz) ∧
∃ (a1 : Str), ((((¬ (d ≠ (k.n : Int))) ∧ (m = false))) → t.cell? (((bz.add (aI.toNat * 15)).add 5).add 2) = some (.string (Bs a1))) ∧
((((d ≠ (k.n : Int)) ∨ (m = true)) ∨ ((aP == (decide (a0 ≠ a1))) = false)) →
∀ (z : World), Chg [] t z →
R (.bool false) z) ∧
((((¬ (d ≠ (k.n : Int))) ∧ (m = false)) ∧ ((aP == (decide (a0 ≠ a1))) = true)) →
(I64 (b + 1)) ∧
∀ (z : World), Chg [] t z →
a5 (b + 1) z ∧ bC (b + 1) z < bC b aA)))))) ∧
((¬ (b < (g.n : Int))) →
CallK Try.prog 14 #[] aA [] (fun v bJ => ∃ (bA : Bool), v = .bool bA ∧
R (.bool bA) bJ))))))))
theorem law25_SlotsAttrs.ok (aJ : Sl) (aK : Sl) {R : Value → World → Prop} {w : World} (bK : law25_SlotsAttrs.vc aJ aK R w) : Calls Try.prog 3 #[Sl.v aJ, Sl.v aK] w (Ret R) := by
 refine go _ Try.func3 Try.ntmps3 bK ?_
 refine gS <| gR <| gN <| ge <| tn <| gS <| gR ?_
 refine gM ?_
 refine gC [] Try.func8 fun _ w5 => gE fun aa => gE fun ab => gE fun ad => gE fun af => gE fun ag => gQ ?_
 refine na ti_26 fun w7 ap => ?_
 refine wn 0 0 ti_26 fun w8 => ge <| tn <| gS <| gR ?_
 refine gBN 0 5 Try.underlying26 ti_26 ?_
 refine gM <| gT1 ?_
 refine gC [0] Try.func9 fun _ a3 => gE fun aq => gE fun ar => gE fun au => gE fun av => gE fun ax => gQ ?_
 refine na ti_26 fun bR aN => ?_
 refine wn 0 0 ti_26 fun aM => ge <| tn <| gS <| gR ?_
 refine gBN 1 5 Try.underlying26 ti_26 ?_
 refine gBN 0 5 Try.underlying26 ti_26 <| gT1 ?_
 refine gC [1, 0] Try.func10 fun _ bB => gE fun g => gQ ?_
 refine gN <| ge <| tn <| gS ?_
 refine gD fun ay => gT0 <| gE fun ah => gA fun bL => gA fun bM => gE fun ai => gA fun bN => gA fun bO => ?_
 refine gW 0 6 [(1, ⟨Sl, default, fun s => Sl.v s, fun s w => ah s w, bL⟩), (3, ⟨Sl, default, fun s => Sl.v s, fun s w => ai s w, bN⟩)] ?_
 refine gBN 1 5 Try.underlying26 ti_26 ?_
 refine yc rfl Try.func11 (fun w' hE _ => bM w' hE) (fun _ _ h => h) fun i => ?_
 refine gBN 0 5 Try.underlying26 ti_26 ?_
 refine yc rfl Try.func11 (fun w' hE _ => bO w' hE) (fun _ _ h => h) fun l => ?_
 refine gN ?_
 refine gN ?_
 refine eF (fun v w' hE hF => v w' i l hE hF.2.1 hF.1) fun az => ?_
 refine gZ <| tn <| gS <| gR ?_
 refine gBN 1 5 Try.underlying26 ti_26 ?_
 refine gBN 0 5 Try.underlying26 ti_26 ?_
 refine gM ?_
 refine gC [1, 0] Try.func12 fun _ a4 => gE fun aj => gE fun aO => gQ ?_
 refine gM ?_
 refine gx1 ?_
 refine gx1 ?_
 refine gN ?_
 refine gN <| ge <| tn <| gS <| gS <| gR ?_
 refine gM ?_
 refine g2 r_neq ?_
 refine gM ?_
 refine G1 r_move ?_
 refine G1 (fun j => r_len j tU33) ?_
 refine G1 r_move ?_
 refine G1 (fun j => r_len j tU31) ?_
 refine G2 r_neq ?_
 refine gpo <| ge <| tn ?_
 refine gi (fun h => ((oT h).imp (fun h => (dT h)) (fun h => (dT h)))) (fun h => ⟨(dF (oF h).1), (dF (oF h).2)⟩) ?_ ?_
 ·refine gS <| gR <| gN <| ge <| tn <| gr <| tr ?_
  exact gz1
 ·refine gk <| tn <| gS <| gS <| gR <| gN <| ge <| tn <| gb <| gE fun _ => gE fun mu => ?_
  refine l1 mu (fun b => [(12, .int .i64 b)]) [(7, _), (8, _), (9, _), (10, _)] (fun _ => []) [] [] fun b aA _ => gS <| gS <| gR ?_
  refine gM ?_
  refine gM ?_
  refine g1 (fun j => r_len j tU29) ?_
  refine g2 r_lss <| ge <| tn ?_
  refine gi dT dF ?_ ?_
  ·refine gk <| tn <| gS <| gb <| gS <| gD fun u => gT0 ?_
   refine gW 0 22 [] ?_
   refine gM ?_
   refine gM ?_
   refine gM ?_
   refine gI2 tU29 ti_40 fun a6 => ?_
   refine gF 0 Try.underlying40 ti_3 ?_
   refine gE fun aB => gL tU3 ?_
   refine gI2 tU31 ti_38 fun a7 => ?_
   refine gF 5 Try.underlying38 ti_26 ?_
   refine gF 3 Try.underlying26 ti_23 ?_
   refine gE fun aC => gL tU23 ?_
   refine gM ?_
   refine gM ?_
   refine gM ?_
   refine gI2 tU29 ti_40 fun a8 => ?_
   refine gF 1 Try.underlying40 ti_3 ?_
   refine gE fun aD => gL tU3 ?_
   refine gI2 tU31 ti_38 fun a9 => ?_
   refine gF 5 Try.underlying38 ti_26 ?_
   refine gF 3 Try.underlying26 ti_23 ?_
   refine gE fun k => gL tU23 ?_
   refine gN ?_
   refine gN <| geT fun ak => ?_
   refine gZ <| tn <| gS <| gR ?_
   refine gM ?_
   refine gM ?_
   refine gM ?_
   refine gI1 tU29 ti_40 fun ba => ?_
   refine gF 0 Try.underlying40 ti_3 <| gT0 ?_
   refine gE fun aG => gL tU3 ?_
   refine gI1 tU33 ti_43 fun bb => ?_
   refine gE fun m => gE fun aP => gE fun p => gE fun q => gE fun bD => gE fun bF => gLN Try.underlying43 ti_43 ?_
   refine na ti_43 fun bS r => ?_
   refine wn 0 0 ti_43 fun aQ => ge <| tn <| gS <| gR ?_
   refine gM ?_
   refine g1 (fun j => r_len j tU23) ?_
   refine gN <| ge <| tn <| gS <| gS <| gR ?_
   refine gN <| ge <| tn <| gb <| gT1 <| gE fun _ => gE fun mu => ?_
   refine l2 mu (fun o c => [(16, .int .i64 o), (17, .int .i64 c)]) [(7, _), (8, _), (9, _), (10, _), (12, _), (13, _), (14, _), (15, _)] (fun _ _ => []) [(r, _, _)] [0] fun o c x _ => gS <| gS <| gR ?_
   refine gM ?_
   refine gF 2 Try.underlying43 ti_23 ?_
   refine gB 0 tU23 ?_
   refine g1 (fun j => r_len j tU23) ?_
   refine g2 r_lss <| ge <| tn ?_
   refine gi dT dF ?_ ?_
   ·refine gk <| tn <| gS <| gb <| gS <| gR <| gM ?_
    refine gF 2 Try.underlying43 ti_23 ?_
    refine gB 0 tU23 ?_
    refine gM ?_
    refine gI1 tU23 ti_47 fun bd => ?_
    refine gF 0 Try.underlying47 ti_9 ?_
    refine gE fun bf => gL tU9 ?_
    refine gC [0] Try.func13 fun _ bg => gE fun al => gE fun am => gQ ?_
    refine gM ?_
    refine gx1 ?_
    refine gx1 ?_
    refine gN ?_
    refine gN <| ge <| tn <| gS <| gR ?_
    refine gM ?_
    refine gF 2 Try.underlying43 ti_23 ?_
    refine gB 0 tU23 ?_
    refine gM ?_
    refine gI1 tU23 ti_47 fun bi => ?_
    refine gF 0 Try.underlying47 ti_9 ?_
    refine gE fun bj => gL tU9 ?_
    refine gC [0] Try.func13 fun _ y => gE fun aU => gE fun an => gQ ?_
    refine gM ?_
    refine gx1 ?_
    refine gx1 ?_
    refine gN ?_
    refine gN <| ge <| tn <| gS <| gS <| gR ?_
    refine gM ?_
    refine g1 r_not ?_
    refine gM ?_
    refine G1 r_move ?_
    refine GF 2 Try.underlying43 ti_23 ?_
    refine GB 0 tU23 ?_
    refine G1 r_move ?_
    refine GI2 tU23 ti_47 (fun hg => (nF (g_f hg))) fun bk => ?_
    refine GF 1 Try.underlying47 ti_9 ?_
    refine gE fun aV => GLd tU9 (fun hg => (nF (g_f hg))) ?_
    refine G2 r_sneq ?_
    refine gpo ?_
    refine gM ?_
    refine G1 r_move ?_
    refine G1 r_move ?_
    refine G1 r_move ?_
    refine G1 r_move ?_
    refine G2 r_seql ?_
    refine Gpa ?_
    refine gpo <| ge <| tn ?_
    refine gi (fun h => ((oT h).imp (fun h => ((oT h).imp (fun h => (nT h)) (fun h => (dT h)))) (fun h => ⟨(aT h).1, (dT (aT h).2)⟩))) (fun h => ⟨⟨(nF (oF (oF h).1).1), (dF (oF (oF h).1).2)⟩, ((aF (oF h).2).imp (fun h => h) (fun h => (dF h)))⟩) ?_ ?_
    ·refine gS <| gR <| gN <| ge <| tn <| gr <| tr <| br <| tr <| tr <| br <| tr <| br <| tr <| tr <| br <| tr ?_
     exact gz1
    ·refine gk <| tn <| gS <| gR <| gM ?_
     refine g1 r_not <| ge <| tn ?_
     refine gi nT nF ?_ ?_
     ·refine gR <| gM ?_
      refine g2s r_addI ?_
      refine gN <| ge <| bn <| tn <| gR ?_
      refine gM ?_
      refine g2s r_addI ?_
      refine gN <| ge ?_
      exact k2 [0]
     ·refine gk <| bn <| tn <| gR <| gM ?_
      refine g2s r_addI ?_
      refine gN <| ge ?_
      exact k2 [0]
   ·refine gx <| te <| te <| bh <| tn <| gS <| gS <| gR <| gN <| ge <| tn <| gb <| gE fun _ => gE fun mu => ?_
    refine l2 mu (fun d f => [(16, .int .i64 d), (22, .int .i64 f)]) [(7, _), (8, _), (9, _), (10, _), (12, _), (13, _), (14, _), (15, _)] (fun _ _ => []) [(r, _, _)] [0] fun d f ao _ => gS <| gS <| gR ?_
    refine gM ?_
    refine gF 3 Try.underlying43 ti_41 ?_
    refine gB 0 tU41 ?_
    refine g1 (fun j => r_len j tU41) ?_
    refine g2 r_lss <| ge <| tn ?_
    refine gi dT dF ?_ ?_
    ·refine gk <| tn <| gS <| gb <| gS <| gR <| gM ?_
     refine gF 3 Try.underlying43 ti_41 ?_
     refine gB 0 tU41 ?_
     refine gM ?_
     refine gI1 tU41 ti_9 fun bo => ?_
     refine gE fun bp => gL tU9 ?_
     refine gC [0] Try.func13 fun _ bq => gE fun bH => gE fun aX => gQ ?_
     refine gM ?_
     refine gx1 ?_
     refine gx1 ?_
     refine gN ?_
     refine gN <| ge <| tn <| gS <| gR ?_
     refine gM ?_
     refine gF 3 Try.underlying43 ti_41 ?_
     refine gB 0 tU41 ?_
     refine gM ?_
     refine gI1 tU41 ti_9 fun bs => ?_
     refine gE fun bt => gL tU9 ?_
     refine gC [0] Try.func13 fun _ aY => gE fun bI => gE fun aZ => gQ ?_
     refine gM ?_
     refine gx1 ?_
     refine gx1 ?_
     refine gN ?_
     refine gN <| ge <| tn <| gS <| gS <| gR ?_
     refine gM ?_
     refine gM ?_
     refine G1 r_move ?_
     refine G1 r_not ?_
     refine gpo <| ge <| tn ?_
     refine gi (fun h => ((oT h).imp (fun h => h) (fun h => (nT h)))) (fun h => ⟨(oF h).1, (nF (oF h).2)⟩) ?_ ?_
     ·refine gS <| gR <| gN <| ge <| tn <| gr <| tr <| br <| tr <| tr <| br <| tr <| br <| tr <| tr <| br <| tr ?_
      exact gz1
     ·refine gk <| tn <| gR <| gM ?_
      refine g2s r_subI ?_
      refine gN <| ge <| bn <| tn <| gR ?_
      refine gM ?_
      refine g2s r_addI ?_
      refine gN <| ge ?_
      exact k2 [0]
    ·refine gx <| te <| te <| bh <| tn <| gS <| gD fun t => gT0 ?_
     refine gW 0 34 [] ?_
     refine gM ?_
     refine gM ?_
     refine g1 (fun j => r_len j tU23) ?_
     refine g2 r_neq ?_
     refine gM ?_
     refine GF 0 Try.underlying43 ti_4 ?_
     refine GB 0 tU4 ?_
     refine gpo ?_
     refine gM ?_
     refine GF 1 Try.underlying43 ti_4 ?_
     refine GB 0 tU4 ?_
     refine G1 r_move ?_
     refine G1 r_move ?_
     refine G1 r_move ?_
     refine GI2 tU29 ti_40 (fun hg => ⟨(dF (oF (g_f hg)).1), (oF (g_f hg)).2⟩) fun bu => ?_
     refine GF 0 Try.underlying40 ti_3 ?_
     refine gE fun aH => GLd tU3 (fun hg => ⟨(dF (oF (g_f hg)).1), (oF (g_f hg)).2⟩) ?_
     refine GI2 tU31 ti_38 (fun hg => ⟨(dF (oF (g_f hg)).1), (oF (g_f hg)).2⟩) fun bv => ?_
     refine GF 5 Try.underlying38 ti_26 ?_
     refine GF 2 Try.underlying26 ti_9 ?_
     refine gE fun a0 => GLd tU9 (fun hg => ⟨(dF (oF (g_f hg)).1), (oF (g_f hg)).2⟩) ?_
     refine G1 r_move ?_
     refine G1 r_move ?_
     refine G1 r_move ?_
     refine GI2 tU29 ti_40 (fun hg => ⟨(dF (oF (g_f hg)).1), (oF (g_f hg)).2⟩) fun bx => ?_
     refine GF 1 Try.underlying40 ti_3 ?_
     refine gE fun aI => GLd tU3 (fun hg => ⟨(dF (oF (g_f hg)).1), (oF (g_f hg)).2⟩) ?_
     refine GI2 tU31 ti_38 (fun hg => ⟨(dF (oF (g_f hg)).1), (oF (g_f hg)).2⟩) fun bz => ?_
     refine GF 5 Try.underlying38 ti_26 ?_
     refine GF 2 Try.underlying26 ti_9 ?_
     refine gE fun a1 => GLd tU9 (fun hg => ⟨(dF (oF (g_f hg)).1), (oF (g_f hg)).2⟩) ?_
     refine G2 r_sneq ?_
     refine G2 (fun j bP => r_bneq j bP tU4) ?_
     refine gpo <| geT fun z => ?_
     refine gZ <| tn ?_
     refine gi (fun h => ((oT h).imp (fun h => ((oT h).imp (fun h => (dT h)) (fun h => h))) (fun h => (nT h)))) (fun h => ⟨⟨(dF (oF (oF h).1).1), (oF (oF h).1).2⟩, (nF (oF h).2)⟩) ?_ ?_
     ·refine gS <| gR <| gN <| ge <| tn <| gr <| br <| tr <| tr <| br <| tr <| gT0 ?_
      exact gz1
     ·refine gk <| bn <| tn <| gR <| gM ?_
      refine g2s r_addI ?_
      refine gN <| ge <| gT0 ?_
      exact k1 []
  ·refine gx <| te <| te <| bh <| tn <| gS <| gR <| gC [] Try.func14 fun _ bJ => gE fun bA => gQ ?_
   refine gN <| ge <| tn <| gr ?_
   exact gz1
end Go.Proofs.Yteohbfaechfliaa
