/-
  PRINTED BY PROGRAM: for each function its condition (vc), and that this suffices (ok).
-/
import Derived.Test.YteohbfaechfliaaQSlotsTurnedGT
namespace Go.Proofs.Yteohbfaechfliaa
open Go.RowKit
set_option linter.unusedVariables false
set_option maxHeartbeats 1000000
set_option maxRecDepth 10000
def law25_all.vc (p : Int) (q : Str) (r : Str) (t : Sl) (u : Sl) (f : Sl) (o : Addr) (j : Int) (R : Value → World → Prop) (w : World) : Prop :=
∀ (z : World) (am : Nat), New w am z → Chg [] w z →
∃ (ai : Sl), (z.cell? (o.add 3) = some (Sl.v ai)) ∧
(((f.n : Int) ≠ (ai.n : Int)) →
R (.bool false) z) ∧
((¬ ((f.n : Int) ≠ (ai.n : Int))) →
∃ (an : Int → World → Prop) (aK : Int → World → Nat),
an 0 z ∧
(∀ (b : Int) (x : World), an b x →
((b < (f.n : Int)) →
∀ (d : World), Chg [] x d →
∃ ao : Addr, (((0 : Int) ≤ b ∧ b < (f.n : Int)) ∧ f.a = some ao) ∧
∃ (ap : Bool) (aq : Bool) (ar : Sl) (au : Sl) (av : Int) (ax : Sl), (Cells d (ao.add (b.toNat * 6)) [.bool ap, .bool aq, Sl.v ar, Sl.v au, .int .i64 av, Sl.v ax]) ∧
∃ (aj : Sl), (d.cell? (o.add 3) = some (Sl.v aj)) ∧
∃ ay : Addr, (((0 : Int) ≤ b ∧ b < (aj.n : Int)) ∧ aj.a = some ay) ∧
∃ (az : Bool) (aA : Bool) (aB : Sl) (aC : Sl) (aD : Int) (aG : Sl), (Cells d (ay.add (b.toNat * 6)) [.bool az, .bool aA, Sl.v aB, Sl.v aC, .int .i64 aD, Sl.v aG]) ∧
∃ (c : Bool), (∀ w' : World, Ext d w' → Calls Try.prog 47 #[.agg #[.bool ap, .bool aq, Sl.v ar, Sl.v au, .int .i64 av, Sl.v ax], .agg #[.bool az, .bool aA, Sl.v aB, Sl.v aC, .int .i64 aD, Sl.v aG]] w' (Ret fun v w'' => Ext w' w'' ∧ v = .bool c)) ∧
∃ (g : Bool), (((c = true)) → ∀ w' : World, Ext d w' → Calls Try.prog 16 #[.agg #[.int .i64 p, .string (Bs q), .string (Bs r), Sl.v t, Sl.v u], Sl.v f, .int .i64 b] w' (Ret fun v w'' => Ext w' w'' ∧ v = .bool g)) ∧
∃ (aH : Sl), (((c = true)) → d.cell? (o.add 0) = some (Sl.v aH)) ∧
∃ (aI : Sl), (((c = true)) → d.cell? (o.add 3) = some (Sl.v aI)) ∧
∃ (i : Bool), (((c = true)) → ∀ w' : World, Ext d w' → Calls Try.prog 48 #[Sl.v aH, Sl.v aI, .int .i64 b] w' (Ret fun v w'' => Ext w' w'' ∧ v = .bool i)) ∧
∃ aa : Sl → World → Prop, (∀ l : Sl, ∀ w' w'' : World, Ext w' w'' → aa l w' → aa l w'') ∧
((((c = true) ∧ ((g == i) = true))) → ∀ w' : World, Ext d w' → Calls Try.prog 24 #[.agg #[.int .i64 p, .string (Bs q), .string (Bs r), Sl.v t, Sl.v u], .int .i64 b] w' (Ret fun v w'' => Ext w' w'' ∧ ∃ l : Sl, v = Sl.v l ∧ aa l w'')) ∧
∃ (aJ : Sl), ((((c = true) ∧ ((g == i) = true))) → d.cell? (o.add 0) = some (Sl.v aJ)) ∧
∃ ab : Sl → World → Prop, (∀ m : Sl, ∀ w' w'' : World, Ext w' w'' → ab m w' → ab m w'') ∧
((((c = true) ∧ ((g == i) = true))) → ∀ w' : World, Ext d w' → Calls Try.prog 17 #[Sl.v aJ, .int .i64 b] w' (Ret fun v w'' => Ext w' w'' ∧ ∃ m : Sl, v = Sl.v m ∧ ab m w'')) ∧
∃ (af : Bool), ((((c = true) ∧ ((g == i) = true))) → ∀ l : Sl, ∀ m : Sl, ∀ w' : World, Ext d w' → ((((c = true) ∧ ((g == i) = true))) → aa l w') → ((((c = true) ∧ ((g == i) = true))) → ab m w') → Calls Try.prog 23 #[Sl.v l, Sl.v m] w' (Ret fun v w'' => Ext w' w'' ∧ v = .bool af)) ∧
((((c = false) ∨ ((g == i) = false)) ∨ (af = false)) →
∀ (y : World), Chg [] d y →
R (.bool false) y) ∧
((((c = true) ∧ ((g == i) = true)) ∧ (af = true)) →
(I64 (b + 1)) ∧
∀ (y : World), Chg [] d y →
an (b + 1) y ∧ aK (b + 1) y < aK b x)) ∧
((¬ (b < (f.n : Int))) →
∃ (ag : Bool), ((((¬ (0 ≤ j)) ∨ (¬ (j < (f.n : Int))))) → Calls Try.prog 16 #[.agg #[.int .i64 p, .string (Bs q), .string (Bs r), Sl.v t, Sl.v u], Sl.v f, .int .i64 j] x (Ret fun v w' => Ext x w' ∧ v = .bool ag)) ∧
(∀ ah : World, Ext x ah →
∃ ak : Sl → World → Prop, ((((¬ (0 ≤ j)) ∨ (¬ (j < (f.n : Int)))) ∧ (ag = false)) → Calls Try.prog 24 #[.agg #[.int .i64 p, .string (Bs q), .string (Bs r), Sl.v t, Sl.v u], .int .i64 j] ah (Ret fun v w' => Ext ah w' ∧ ∃ ad : Sl, v = Sl.v ad ∧ ak ad w')) ∧
(∀ (ad : Sl) (al : World), Ext ah al → ((((¬ (0 ≤ j)) ∨ (¬ (j < (f.n : Int)))) ∧ (ag = false)) → ak ad al) →
R (.bool (((decide (0 ≤ j)) && (decide (j < (f.n : Int)))) || ((!ag) && (decide ((ad.n : Int) = 0))))) al)))))
theorem law25_all.ok (p : Int) (q : Str) (r : Str) (t : Sl) (u : Sl) (f : Sl) (o : Addr) (j : Int) {R : Value → World → Prop} {w : World} (aL : law25_all.vc p q r t u f o j R w) : Calls Try.prog 22 #[.agg #[.int .i64 p, .string (Bs q), .string (Bs r), Sl.v t, Sl.v u], Sl.v f, .pointer (some o), .int .i64 j] w (Ret R) := by
 refine go _ Try.func22 Try.ntmps22 aL ?_
 refine gS <| gR <| nb fun z am => ?_
 refine gN <| ge <| tn <| gS <| gS <| gR ?_
 refine gM ?_
 refine g1 (fun k => r_len k tU33) ?_
 refine gM ?_
 refine g1 r_nilCheck ?_
 refine gF 3 Try.underlying91 ti_89 <| gT1 ?_
 refine gE fun ai => gL tU89 ?_
 refine g1 (fun k => r_len k tU89) ?_
 refine g2 r_neq <| ge <| tn ?_
 refine gi dT dF ?_ ?_
 ·refine gS <| gR <| gN <| ge <| tn <| gr <| tr ?_
  exact gz1
 ·refine gk <| tn <| gS <| gS <| gR <| gN <| ge <| tn <| gb <| gE fun _ => gE fun mu => ?_
  refine l1 mu (fun b => [(9, .int .i64 b)]) [(1, _), (2, _), (3, _), (4, _)] (fun _ => []) [(am, _, _)] [0] fun b x _ => gS <| gS <| gR ?_
  refine gM ?_
  refine gM ?_
  refine g1 (fun k => r_len k tU33) ?_
  refine g2 r_lss <| ge <| tn ?_
  refine gi dT dF ?_ ?_
  ·refine gk <| tn <| gS <| gb <| gS <| gD fun d => gT0 <| gE fun ao => gA fun aM => gE fun ap => gE fun aq => gE fun ar => gE fun au => gE fun av => gE fun ax => gA fun aN => gE fun aj => gA fun aO => gE fun ay => gA fun aP => gE fun az => gE fun aA => gE fun aB => gE fun aC => gE fun aD => gE fun aG => gA fun aQ => gE fun c => gA fun aR => gE fun g => gA fun aS => gE fun aH => gA fun aU => gE fun aI => gA fun aV => gE fun i => gA fun aX => gE fun aa => gA fun aY => gA fun aZ => gE fun aJ => gA fun a0 => gE fun ab => gA fun a1 => gA fun a2 => gE fun af => gA fun a3 => ?_
   refine gW 0 43 [(11, rsU (.bool c)), (17, rsG (true && ((!c) == false)) () (fun _ => .bool g) (fun _ _ => True) (fun _ _ _ _ _ => trivial)), (27, rsG (true && ((!c) == false)) () (fun _ => .bool i) (fun _ _ => True) (fun _ _ _ _ _ => trivial)), (33, rsG (true && (((!c) || (!(g == i))) == false)) (α := Sl) default (fun s => Sl.v s) (fun s w => aa s w) (aY)), (39, rsG (true && (((!c) || (!(g == i))) == false)) (α := Sl) default (fun s => Sl.v s) (fun s w => ab s w) (a1)), (40, rsG (true && (((!c) || (!(g == i))) == false)) () (fun _ => .bool af) (fun _ _ => True) (fun _ _ _ _ _ => trivial))] ?_
   refine gM ?_
   refine gM ?_
   refine gIx tU33 ti_43 aM ?_
   refine gP aN <| gLN Try.underlying43 ti_43 ?_
   refine gM ?_
   refine g1 r_nilCheck ?_
   refine gF 3 Try.underlying91 ti_89 ?_
   refine gP aO <| gL tU89 ?_
   refine gM ?_
   refine gIx tU89 ti_93 aP ?_
   refine gP aQ <| gLN Try.underlying93 ti_93 ?_
   refine yc rfl Try.func47 (fun w' hE _ => aR w' hE) (fun _ _ h => ⟨(), h, trivial⟩) fun _ => ?_
   refine g1 r_not ?_
   refine gM ?_
   refine GBN 0 5 Try.underlying26 ti_26 ?_
   refine G1 r_move ?_
   refine G1 r_move ?_
   refine YC rfl Try.func16 (fun hg w' hE _ => aS (nF (g_f hg)) w' hE) (fun _ _ h => ⟨(), h, trivial⟩) fun _ => ?_
   refine G1 r_move ?_
   refine G1 r_nilCheck ?_
   refine GF 0 Try.underlying91 ti_31 ?_
   refine gP aU <| GLd tU31 (fun hg => (nF (g_f hg))) ?_
   refine G1 r_move ?_
   refine G1 r_nilCheck ?_
   refine GF 3 Try.underlying91 ti_89 ?_
   refine gP aV <| GLd tU89 (fun hg => (nF (g_f hg))) ?_
   refine G1 r_move ?_
   refine YC rfl Try.func48 (fun hg w' hE _ => aX (nF (g_f hg)) w' hE) (fun _ _ h => ⟨(), h, trivial⟩) fun _ => ?_
   refine G2 (fun k a4 => r_bneq k a4 tU4) ?_
   refine gpo ?_
   refine gM ?_
   refine GBN 0 5 Try.underlying26 ti_26 ?_
   refine G1 r_move ?_
   refine YC rfl Try.func24 (fun hg w' hE _ => aZ ⟨(nF (oF (g_f hg)).1), (nF (oF (g_f hg)).2)⟩ w' hE) (fun _ _ h => h) fun l => ?_
   refine G1 r_move ?_
   refine G1 r_nilCheck ?_
   refine GF 0 Try.underlying91 ti_31 ?_
   refine gP a0 <| GLd tU31 (fun hg => ⟨(nF (oF (g_f hg)).1), (nF (oF (g_f hg)).2)⟩) ?_
   refine G1 r_move ?_
   refine YC rfl Try.func17 (fun hg w' hE _ => a2 ⟨(nF (oF (g_f hg)).1), (nF (oF (g_f hg)).2)⟩ w' hE) (fun _ _ h => h) fun m => ?_
   refine YC rfl Try.func23 (fun hg w' hE hF => a3 ⟨(nF (oF (g_f hg)).1), (nF (oF (g_f hg)).2)⟩ l m w' hE (fun hp => (hF.2.1 (by kernel_rfl)) (g_mkf rfl (b_or_mkf ⟨(b_not_mkf hp.1), (b_not_mkf hp.2)⟩))) (fun hp => (hF.1 (by kernel_rfl)) (g_mkf rfl (b_or_mkf ⟨(b_not_mkf hp.1), (b_not_mkf hp.2)⟩)))) (fun _ _ h => ⟨(), h, trivial⟩) fun _ => ?_
   refine G1 r_not ?_
   refine gpo ?_
   refine eT fun y => ?_
   refine gZ <| tn ?_
   refine gi (fun h => ((oT h).imp (fun h => ((oT h).imp (fun h => (nT h)) (fun h => (nT h)))) (fun h => (nT h)))) (fun h => ⟨⟨(nF (oF (oF h).1).1), (nF (oF (oF h).1).2)⟩, (nF (oF h).2)⟩) ?_ ?_
   ·refine gS <| gR <| gN <| ge <| tn <| gr <| br <| tr <| tr <| br <| tr <| gT0 ?_
    exact gz1
   ·refine gk <| bn <| tn <| gR <| gM ?_
    refine g2s r_addI ?_
    refine gN <| ge <| gT0 ?_
    exact k1 [0]
  ·refine gx <| te <| te <| bh <| tn <| gS <| gR <| gM ?_
   refine g2 r_geq ?_
   refine gM ?_
   refine G1 r_move ?_
   refine G1 r_move ?_
   refine G1 (fun k => r_len k tU33) ?_
   refine G2 r_lss ?_
   refine gpa ?_
   refine gM ?_
   refine GBN 0 5 Try.underlying26 ti_26 ?_
   refine G1 r_move ?_
   refine G1 r_move ?_
   refine gE fun ag => GC Try.func16 (fun hg => ((aF (g_f hg)).imp (fun h => (dF h)) (fun h => (dF h)))) fun ah => ?_
   refine G1 r_not ?_
   refine G1 r_move ?_
   refine GBN 0 5 Try.underlying26 ti_26 ?_
   refine G1 r_move ?_
   refine gE fun ak => gA fun hc => GM (α := Sl) (fun s => Sl.v s) (fun s w => ak s w) Try.func24 (fun hg => hc ⟨((aF (g_f (g_up hg))).imp (fun h => (dF h)) (fun h => (dF h))), (nT (g_t hg))⟩) (fun _ _ h => h) (fun hv s w hE h => hv s w hE (fun hp => h (g_mkt (g_mkf rfl (b_and_mkf (Or.imp (fun h => (decide_eq_false h)) (fun h => (decide_eq_false h)) hp.1))) (b_not_mk hp.2)))) fun ad al => ?_
   refine G1 (fun k => r_len k tU22) ?_
   refine G2 r_eql ?_
   refine Gpa ?_
   refine gpo ?_
   refine gN <| ge <| tn <| gr ?_
   exact gz1
end Go.Proofs.Yteohbfaechfliaa
