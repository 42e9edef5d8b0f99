/-
  PRINTED BY PROGRAM: for each function its condition (vc), and that this suffices (ok).
-/
import Derived.Test.YteohbfaechfliaaQSlotsTurnedGT
namespace Go.Proofs.Yteohbfaechfliaa
open Go.RowKit
set_option linter.unusedVariables false
set_option maxHeartbeats 1000000
set_option maxRecDepth 10000
def ref19_Alike.vc (z : Int) (aa : Str) (ab : Str) (ad : Sl) (af : Sl) (ag : Int) (ah : Str) (ai : Str) (aj : Sl) (ak : Sl) (al : Int) (R : Value → World → Prop) (w : World) : Prop :=
∀ (r : World) (am : Nat) (an : Nat), New w am r → New w an r → am ≠ an → Chg [] w r →
∃ t : Sl → World → Prop, (∀ d : Sl, ∀ w' w'' : World, Ext w' w'' → t d w' → t d w'') ∧
(∀ w' : World, Ext r w' → Calls Try.prog 11 #[.agg #[.int .i64 z, .string (Bs aa), .string (Bs ab), Sl.v ad, Sl.v af]] w' (Ret fun v w'' => Ext w' w'' ∧ ∃ d : Sl, v = Sl.v d ∧ t d w'')) ∧
∃ u : Sl → World → Prop, (∀ g : Sl, ∀ w' w'' : World, Ext w' w'' → u g w' → u g w'') ∧
(∀ w' : World, Ext r w' → Calls Try.prog 11 #[.agg #[.int .i64 ag, .string (Bs ah), .string (Bs ai), Sl.v aj, Sl.v ak]] w' (Ret fun v w'' => Ext w' w'' ∧ ∃ g : Sl, v = Sl.v g ∧ u g w'')) ∧
∀ (ao : World) (d : Sl) (g : Sl), Ext r ao → t d ao → u g ao → 
CallK Try.prog 45 #[.int .i64 (d.n : Int), .int .i64 (g.n : Int)] ao [am, an] (fun v a7 => ∃ (o : Option Addr), v = .pointer o ∧
CallK Try.prog 52 #[.agg #[.int .i64 z, .string (Bs aa), .string (Bs ab), Sl.v ad, Sl.v af], .agg #[.int .i64 ag, .string (Bs ah), .string (Bs ai), Sl.v aj, Sl.v ak]] a7 [am, an] (fun v aA => ∃ (av : Bool), v = .bool av ∧
((av = true) →
CallK Try.prog 53 #[.pointer o, .int .i64 0, .int .i64 0, .int .i64 (d.n : Int)] aA [] (fun v a8 => v = .tuple #[] ∧
R (.pointer o) a8)) ∧
((av = false) →
∀ (ap : World), Chg [] aA ap →
∃ aB : Addr, (((0 : Int) ≤ 0 ∧ 0 < (d.n : Int)) ∧ d.a = some aB) ∧
∃ (aC : Int), (ap.cell? ((aB.add (0 * 15)).add 3) = some (.int .i64 aC)) ∧
∃ aD : Addr, (((0 : Int) ≤ 0 ∧ 0 < (g.n : Int)) ∧ g.a = some aD) ∧
∃ (aG : Int), (ap.cell? ((aD.add (0 * 15)).add 3) = some (.int .i64 aG)) ∧
∀ (aH : World), Chg [] ap aH →
∃ (aI : Int → World → Prop) (a9 : Int → World → Nat),
aI (min aC aG) aH ∧
(∀ (c : Int) (aq : World), aI c aq →
(((max al 1) ≤ c) →
∃ (ar : Int → World → Prop) (x : Int → World → Nat),
ar 1 aq ∧
(∀ (b : Int) (j : World), ar b j →
((b < (d.n : Int)) →
((0 : Int) ≤ b ∧ b < (d.n : Int)) ∧ ∃ aJ : Addr, d.a = some aJ ∧
∃ (p : Int), (j.cell? ((aJ.add (b.toNat * 15)).add 3) = some (.int .i64 p)) ∧
∃ aK : Addr, (((¬ (p ≠ c))) → o = some aK) ∧
∃ (ax : Sl), (((¬ (p ≠ c))) → j.cell? (aK.add 0) = some (Sl.v ax)) ∧
∃ aL : Addr, (((¬ (p ≠ c))) → ((0 : Int) ≤ b ∧ b < (ax.n : Int)) ∧  ax.a = some aL) ∧
∃ (ay : Int), (((¬ (p ≠ c))) → j.cell? (aL.add (b.toNat * 1)) = some (.int .i64 ay)) ∧
(((p ≠ c) ∨ (0 ≤ ay)) →
(I64 (b + 1)) ∧
ar (b + 1) j ∧ x (b + 1) j < x b j) ∧
(((¬ (p ≠ c)) ∧ (¬ (0 ≤ ay))) →
∃ (aM : Int → World → Prop) (ba : Int → World → Nat),
aM 1 j ∧
(∀ (f : Int) (y : World), aM f y →
((f < (g.n : Int)) →
∀ (k : World), Chg [] y k →
∃ aN : Addr, (((0 : Int) ≤ f ∧ f < (g.n : Int)) ∧ g.a = some aN) ∧
∃ (i : Int), (k.cell? ((aN.add (f.toNat * 15)).add 3) = some (.int .i64 i)) ∧
∃ aO : Addr, (((i = c)) → o = some aO) ∧
∃ (az : Sl), (((i = c)) → k.cell? (aO.add 1) = some (Sl.v az)) ∧
∃ aP : Addr, (((i = c)) → ((0 : Int) ≤ f ∧ f < (az.n : Int)) ∧ az.a = some aP) ∧
∃ (l : Int), (((i = c)) → k.cell? (aP.add (f.toNat * 1)) = some (.int .i64 l)) ∧
∃ aQ : Addr, ((((i = c) ∧ (l < 0))) → ((0 : Int) ≤ b ∧ b < (d.n : Int)) ∧ d.a = some aQ) ∧
∃ (aR : Int) (aS : Str) (aU : Str) (aV : Sl) (aX : Sl), ((((i = c) ∧ (l < 0))) → Cells k ((aQ.add (b.toNat * 15)).add 10) [.int .i64 aR, .string (Bs aS), .string (Bs aU), Sl.v aV, Sl.v aX]) ∧
∃ aY : Addr, ((((i = c) ∧ (l < 0))) → ((0 : Int) ≤ f ∧ f < (g.n : Int)) ∧ g.a = some aY) ∧
∃ (aZ : Int) (a0 : Str) (a1 : Str) (a2 : Sl) (a3 : Sl), ((((i = c) ∧ (l < 0))) → Cells k ((aY.add (f.toNat * 15)).add 10) [.int .i64 aZ, .string (Bs a0), .string (Bs a1), Sl.v a2, Sl.v a3]) ∧
∃ (au : Bool), ((((i = c) ∧ (l < 0))) → ∀ w' : World, Ext k w' → Calls Try.prog 52 #[.agg #[.int .i64 aR, .string (Bs aS), .string (Bs aU), Sl.v aV, Sl.v aX], .agg #[.int .i64 aZ, .string (Bs a0), .string (Bs a1), Sl.v a2, Sl.v a3]] w' (Ret fun v w'' => Ext w' w'' ∧ v = .bool au)) ∧
((((i = c) ∧ (l < 0)) ∧ (au = true)) →
((0 : Int) ≤ b ∧ b < (d.n : Int)) ∧ ∃ a4 : Addr, d.a = some a4 ∧
∀ (q : World), Chg [] k q →
∃ (a5 : Int), (q.cell? ((a4.add (b.toNat * 15)).add 1) = some (.int .i64 a5)) ∧
CallK Try.prog 53 #[.pointer o, .int .i64 b, .int .i64 f, .int .i64 a5] q [] (fun v a6 => v = .tuple #[] ∧
(I64 (b + 1)) ∧
ar (b + 1) a6 ∧ x (b + 1) a6 < x b j)) ∧
((((¬ (i = c)) ∨ (¬ (l < 0))) ∨ (au = false)) →
(I64 (f + 1)) ∧
∀ (q : World), Chg [] k q →
aM (f + 1) q ∧ ba (f + 1) q < ba f y)) ∧
((¬ (f < (g.n : Int))) →
(I64 (b + 1)) ∧
ar (b + 1) y ∧ x (b + 1) y < x b j)))) ∧
((¬ (b < (d.n : Int))) →
(I64 (c - 1)) ∧
aI (c - 1) j ∧ a9 (c - 1) j < a9 c aq))) ∧
((¬ ((max al 1) ≤ c)) →
R (.pointer o) aq)))))
theorem ref19_Alike.ok (z : Int) (aa : Str) (ab : Str) (ad : Sl) (af : Sl) (ag : Int) (ah : Str) (ai : Str) (aj : Sl) (ak : Sl) (al : Int) {R : Value → World → Prop} {w : World} (bb : ref19_Alike.vc z aa ab ad af ag ah ai aj ak al R w) : Calls Try.prog 29 #[.agg #[.int .i64 z, .string (Bs aa), .string (Bs ab), Sl.v ad, Sl.v af], .agg #[.int .i64 ag, .string (Bs ah), .string (Bs ai), Sl.v aj, Sl.v ak], .int .i64 al] w (Ret R) := by
 refine go _ Try.func29 Try.ntmps29 bb ?_
 refine gS <| gR <| nb fun w5 am => ?_
 refine nb fun w7 an => ?_
 refine gN <| ge <| tn <| gS ?_
 refine gD fun r => gT2 <| gE fun t => gA fun bd => gA fun bf => gE fun u => gA fun bg => gA fun bi => ?_
 refine gW 0 6 [(1, ⟨Sl, default, fun s => Sl.v s, fun s w => t s w, bd⟩), (3, ⟨Sl, default, fun s => Sl.v s, fun s w => u s w, bg⟩)] ?_
 refine gBN 1 5 Try.underlying26 ti_26 ?_
 refine yc rfl Try.func11 (fun w' hE _ => bf w' hE) (fun _ _ h => h) fun d => ?_
 refine gBN 0 5 Try.underlying26 ti_26 ?_
 refine yc rfl Try.func11 (fun w' hE _ => bi w' hE) (fun _ _ h => h) fun g => ?_
 refine gN ?_
 refine gN ?_
 refine eF (fun v w' hE hF => v w' d g hE hF.2.1 hF.1) fun ao => ?_
 refine gZ <| tn <| gS <| gR ?_
 refine gM ?_
 refine g1 (fun m => r_len m tU31) ?_
 refine gM ?_
 refine g1 (fun m => r_len m tU31) ?_
 refine gC [1, 0] Try.func45 fun _ a7 => gE fun o => gQ ?_
 refine gN <| ge <| tn <| gS <| gS <| gR ?_
 refine gBN 1 5 Try.underlying26 ti_26 ?_
 refine gBN 0 5 Try.underlying26 ti_26 ?_
 refine gC [1, 0] Try.func52 fun _ aA => gE fun av => gQ <| ge <| tn ?_
 refine gi id id ?_ ?_
 ·refine gS <| gR <| gM ?_
  refine gM ?_
  refine g1 (fun m => r_len m tU31) ?_
  refine gC [] Try.func53 fun _ a8 => gQ <| ge <| tn <| gS <| gR ?_
  refine gM ?_
  refine gN <| ge <| tn <| gr <| tr ?_
  exact gz1
 ·refine gk <| tn <| gS <| gS <| gD fun ap => gT0 ?_
  refine gW 0 10 [] ?_
  refine gM ?_
  refine gI2 tU31 ti_38 fun aB => ?_
  refine gF 3 Try.underlying38 ti_3 ?_
  refine gE fun aC => gL tU3 ?_
  refine gM ?_
  refine gI2 tU31 ti_38 fun aD => ?_
  refine gF 3 Try.underlying38 ti_3 ?_
  refine gE fun aG => gL tU3 ?_
  refine g2 r_min ?_
  refine gN <| geT fun aH => ?_
  refine gZ <| tn <| gb <| gT0 <| gE fun _ => gE fun mu => ?_
  refine l1 mu (fun c => [(10, .int .i64 c)]) [(2, _), (7, _), (8, _), (9, _)] (fun _ => []) [] [] fun c aq _ => gS <| gS <| gR ?_
  refine gM ?_
  refine gM ?_
  refine g2 r_max ?_
  refine g2 r_geq <| ge <| tn ?_
  refine gi dT dF ?_ ?_
  ·refine gk <| tn <| gS <| gb <| gS <| gR <| gN <| ge <| tn <| gb <| gE fun _ => gE fun mu => ?_
   refine l1 mu (fun b => [(11, .int .i64 b)]) [(2, _), (7, _), (8, _), (9, _), (10, _)] (fun _ => []) [] [] fun b j _ => gS <| gS <| gR ?_
   refine gM ?_
   refine gM ?_
   refine g1 (fun m => r_len m tU31) ?_
   refine g2 r_lss <| ge <| tn ?_
   refine gi dT dF ?_ ?_
   ·refine gk <| tn <| gS <| gb <| gS <| gS <| gR <| gM ?_
    refine gM ?_
    refine gI1 tU31 ti_38 fun aJ => ?_
    refine gF 3 Try.underlying38 ti_3 ?_
    refine gE fun p => gL tU3 ?_
    refine gM ?_
    refine g2 r_neq ?_
    refine gM ?_
    refine G1 r_move ?_
    refine GnP (fun hg => (dF (g_f hg))) fun aK => ?_
    refine GF 0 Try.underlying74 ti_22 ?_
    refine gE fun ax => GLd tU22 (fun hg => (dF (g_f hg))) ?_
    refine G1 r_move ?_
    refine GI2 tU22 ti_3 (fun hg => (dF (g_f hg))) fun aL => ?_
    refine gE fun ay => GLd tU3 (fun hg => (dF (g_f hg))) ?_
    refine G2 r_geq ?_
    refine gpo <| ge <| tn ?_
    refine gi (fun h => ((oT h).imp (fun h => (dT h)) (fun h => (dT h)))) (fun h => ⟨(dF (oF h).1), (dF (oF h).2)⟩) ?_ ?_
    ·refine gx <| te <| bh <| tn <| gR <| gM ?_
     refine g2s r_addI ?_
     refine gN <| ge ?_
     exact k1 []
    ·refine gk <| tn <| gS <| gR <| gN <| ge <| tn <| gb <| gE fun _ => gE fun mu => ?_
     refine l1 mu (fun f => [(12, .int .i64 f)]) [(2, _), (7, _), (8, _), (9, _), (10, _), (11, _)] (fun _ => []) [] [] fun f y _ => gS <| gS <| gR ?_
     refine gM ?_
     refine gM ?_
     refine g1 (fun m => r_len m tU31) ?_
     refine g2 r_lss <| ge <| tn ?_
     refine gi dT dF ?_ ?_
     ·refine gk <| tn <| gS <| gb <| gS <| gD fun k => gT0 <| gE fun aN => gA fun bj => gE fun i => gA fun bk => gE fun aO => gA fun bl => gE fun az => gA fun bo => gE fun aP => gA fun bp => gE fun l => gA fun bq => gE fun aQ => gA fun bs => gE fun aR => gE fun aS => gE fun aU => gE fun aV => gE fun aX => gA fun bt => gE fun aY => gA fun bu => gE fun aZ => gE fun a0 => gE fun a1 => gE fun a2 => gE fun a3 => gA fun bv => gE fun au => gA fun bx => ?_
      refine gW 0 30 [(28, rsG (true && (((decide (i = c)) && (decide (l < 0))) == true)) () (fun _ => .bool au) (fun _ _ => True) (fun _ _ _ _ _ => trivial))] ?_
      refine gM ?_
      refine gM ?_
      refine gIx tU31 ti_38 bj ?_
      refine gF 3 Try.underlying38 ti_3 ?_
      refine gP bk <| gL tU3 ?_
      refine gM ?_
      refine g2 r_eql ?_
      refine gM ?_
      refine G1 r_move ?_
      refine Gnx (fun hg => bl (dT (g_t hg))) ?_
      refine GF 1 Try.underlying74 ti_22 ?_
      refine gP bo <| GLd tU22 (fun hg => (dT (g_t hg))) ?_
      refine G1 r_move ?_
      refine GIx tU22 ti_3 (fun hg => bp (dT (g_t hg))) ?_
      refine gP bq <| GLd tU3 (fun hg => (dT (g_t hg))) ?_
      refine G2 r_lss ?_
      refine gpa ?_
      refine gM ?_
      refine G1 r_move ?_
      refine G1 r_move ?_
      refine GIx tU31 ti_38 (fun hg => bs ⟨(dT (aT (g_t hg)).1), (dT (aT (g_t hg)).2)⟩) ?_
      refine GF 10 Try.underlying38 ti_26 ?_
      refine gP bt <| GLN Try.underlying26 ti_26 (fun hg => ⟨(dT (aT (g_t hg)).1), (dT (aT (g_t hg)).2)⟩) ?_
      refine G1 r_move ?_
      refine G1 r_move ?_
      refine GIx tU31 ti_38 (fun hg => bu ⟨(dT (aT (g_t hg)).1), (dT (aT (g_t hg)).2)⟩) ?_
      refine GF 10 Try.underlying38 ti_26 ?_
      refine gP bv <| GLN Try.underlying26 ti_26 (fun hg => ⟨(dT (aT (g_t hg)).1), (dT (aT (g_t hg)).2)⟩) ?_
      refine YC rfl Try.func52 (fun hg w' hE _ => bx ⟨(dT (aT (g_t hg)).1), (dT (aT (g_t hg)).2)⟩ w' hE) (fun _ _ h => ⟨(), h, trivial⟩) fun _ => ?_
      refine gpa ?_
      refine eT fun q => ?_
      refine gZ <| tn ?_
      refine gi (fun h => ⟨⟨(dT (aT (aT h).1).1), (dT (aT (aT h).1).2)⟩, (aT h).2⟩) (fun h => ((aF h).imp (fun h => ((aF h).imp (fun h => (dF h)) (fun h => (dF h)))) (fun h => h))) ?_ ?_
      ·refine gS <| gR <| gM ?_
       refine gM ?_
       refine gM ?_
       refine gM ?_
       refine gM ?_
       refine gI1 tU31 ti_38 fun a4 => ?_
       refine gF 1 Try.underlying38 ti_3 <| gT0 ?_
       refine gE fun a5 => gL tU3 ?_
       refine gC [] Try.func53 fun _ a6 => gQ <| ge <| tn <| gx ?_
       refine bm <| te <| te <| bh <| bn <| tn <| gR ?_
       refine gM ?_
       refine g2s r_addI ?_
       refine gN <| ge ?_
       exact k1 []
      ·refine gk <| bn <| tn <| gR <| gM ?_
       refine g2s r_addI ?_
       refine gN <| ge <| gT0 ?_
       exact k1 []
     ·refine gx <| te <| te <| bh <| bn <| tn <| gR <| gM ?_
      refine g2s r_addI ?_
      refine gN <| ge ?_
      exact k1 []
   ·refine gx <| te <| te <| bh <| bn <| tn <| gR <| gM ?_
    refine g2s r_subI ?_
    refine gN <| ge ?_
    exact k1 []
  ·refine gx <| te <| te <| bh <| tn <| gS <| gR <| gM ?_
   refine gN <| ge <| tn <| gr ?_
   exact gz1
def ref19_M_Add.vc (i : Addr) (c : Int) (d : Int) (R : Value → World → Prop) (w : World) : Prop :=
∃ (j : Sl), (w.cell? (i.add 0) = some (Sl.v j)) ∧
((0 : Int) ≤ c ∧ c < (j.n : Int)) ∧ ∃ r : Addr, j.a = some r ∧
∃ (f k : Nat) (s : TypeId) (l : List Value), (r.add (c.toNat * 1)) = ⟨f, k, none⟩ ∧ Box w f s l ∧ k + 1 ≤ l.length ∧ (∀ b ∈ [], b ≠ f) ∧
(∀ g : World, Chg [f] w g → Box g f s (putAt l k [.int .i64 d]) →
∃ (m : Sl), (g.cell? (i.add 1) = some (Sl.v m)) ∧
((0 : Int) ≤ d ∧ d < (m.n : Int)) ∧ ∃ t : Addr, m.a = some t ∧
∃ (h o : Nat) (u : TypeId) (p : List Value), (t.add (d.toNat * 1)) = ⟨h, o, none⟩ ∧ Box g h u p ∧ o + 1 ≤ p.length ∧ (∀ b ∈ [], b ≠ h) ∧
(∀ q : World, Chg [h] g q → Box q h u (putAt p o [.int .i64 c]) →
R (.tuple #[]) q))
theorem ref19_M_Add.ok (i : Addr) (c : Int) (d : Int) {R : Value → World → Prop} {w : World} (x : ref19_M_Add.vc i c d R w) : Calls Try.prog 32 #[.pointer (some i), .int .i64 c, .int .i64 d] w (Ret R) := by
 refine go _ Try.func32 Try.ntmps32 x ?_
 refine gS <| gR <| gM ?_
 refine g1 r_nilCheck ?_
 refine gF 0 Try.underlying74 ti_22 ?_
 refine gE fun j => gL tU22 ?_
 refine gM ?_
 refine gM ?_
 refine gI1 tU22 ti_3 fun r => ?_
 refine wx [] ti_3 fun f k s l g => ge <| tn <| gR ?_
 refine gM ?_
 refine g1 r_nilCheck ?_
 refine gF 1 Try.underlying74 ti_22 ?_
 refine gE fun m => gL tU22 ?_
 refine gM ?_
 refine gM ?_
 refine gI1 tU22 ti_3 fun t => ?_
 refine wx [] ti_3 fun h o u p q => ge <| gze ?_
 exact gz0
def ref19_M_Pairs.vc (f : Addr) (R : Value → World → Prop) (w : World) : Prop :=
∃ (h : Sl → Int → World → Prop) (i : Sl → Int → World → Nat),
h Sl.nil 0 w ∧
(∀ (d : Sl) (b : Int) (c : World), h d b c →
∃ (j : Sl), (c.cell? (f.add 0) = some (Sl.v j)) ∧
((b < (j.n : Int)) →
∃ (k : Sl), (c.cell? (f.add 0) = some (Sl.v k)) ∧
((0 : Int) ≤ b ∧ b < (k.n : Int)) ∧ ∃ r : Addr, k.a = some r ∧
∃ (l : Int), (c.cell? (r.add (b.toNat * 1)) = some (.int .i64 l)) ∧
((0 ≤ l) →
∃ (m : Sl), (c.cell? (f.add 0) = some (Sl.v m)) ∧
((0 : Int) ≤ b ∧ b < (m.n : Int)) ∧ ∃ s : Addr, m.a = some s ∧
∃ (o : Int), (c.cell? (s.add (b.toNat * 1)) = some (.int .i64 o)) ∧
∀ (g : World) (p : Nat), New c p g → Chg [] c g →
∀ (_ : Box g p 40 [.int .i64 b, .int .i64 o]),
RunK Try.prog (Builtin.append_ #[29, 29] 29 #[Sl.v d, Sl.v (Sl.mk (some ⟨p, 0, none⟩) 1 1)]) g [] (fun v t => ∃ (q : Sl), v = Sl.v q ∧
(I64 (b + 1)) ∧
h q (b + 1) t ∧ i q (b + 1) t < i d b c)) ∧
((¬ (0 ≤ l)) →
(I64 (b + 1)) ∧
h d (b + 1) c ∧ i d (b + 1) c < i d b c)) ∧
((¬ (b < (j.n : Int))) →
R (Sl.v d) c))
theorem ref19_M_Pairs.ok (f : Addr) {R : Value → World → Prop} {w : World} (u : ref19_M_Pairs.vc f R w) : Calls Try.prog 34 #[.pointer (some f)] w (Ret R) := by
 refine go _ Try.func34 Try.ntmps34 u ?_
 refine gS <| gR <| gN <| ge <| tn <| gS <| gR ?_
 refine gN <| ge <| tn <| gS <| gS <| gR ?_
 refine gN <| ge <| tn <| gb <| gE fun _ => gE fun mu => ?_
 refine l2 mu (fun d b => [(3, Sl.v d), (4, .int .i64 b)]) [(0, _)] (fun _ _ => []) [] [] fun d b c _ => gS <| gS <| gR ?_
 refine gM ?_
 refine gM ?_
 refine g1 r_nilCheck ?_
 refine gF 0 Try.underlying74 ti_22 ?_
 refine gE fun j => gL tU22 ?_
 refine g1 (fun x => r_len x tU22) ?_
 refine g2 r_lss <| ge <| tn ?_
 refine gi dT dF ?_ ?_
 ·refine gk <| tn <| gS <| gb <| gS <| gR <| gM ?_
  refine g1 r_nilCheck ?_
  refine gF 0 Try.underlying74 ti_22 ?_
  refine gE fun k => gL tU22 ?_
  refine gM ?_
  refine gI1 tU22 ti_3 fun r => ?_
  refine gE fun l => gL tU3 ?_
  refine g2 r_geq <| ge <| tn ?_
  refine gi dT dF ?_ ?_
  ·refine gR <| gM ?_
   refine gM ?_
   refine gM ?_
   refine g1 r_nilCheck ?_
   refine gF 0 Try.underlying74 ti_22 ?_
   refine gE fun m => gL tU22 ?_
   refine gM ?_
   refine gI1 tU22 ti_3 fun s => ?_
   refine gE fun o => gL tU3 ?_
   refine gbu ti_40 Try.underlying40 pl_40 (OPs.of rfl) ?_
   refine ns [.int .i64 b, .int .i64 o] tU29 ti_40 fun g p => gT1 ?_
   refine gX 0 ?_
   refine gR2 [] r_append fun _ t => gE fun q => gQ ?_
   refine gN <| ge <| bn <| tn <| gR ?_
   refine gM ?_
   refine g2s r_addI ?_
   refine gN <| ge ?_
   exact k2 []
  ·refine gk <| bn <| tn <| gR <| gM ?_
   refine g2s r_addI ?_
   refine gN <| ge ?_
   exact k2 []
 ·refine gx <| te <| te <| bh <| tn <| gS <| gR <| gM ?_
  refine gN <| ge <| tn <| gr ?_
  exact gz1
def ref19_New.vc (i : Int) (j : Int) (R : Value → World → Prop) (w : World) : Prop :=
∀ (m : World) (a : Nat), New w a m → Chg [] w m →
∃ (t : Int → Sl → World → Prop) (x : Int → Sl → World → Nat),
t 0 Sl.nil m ∧
(∀ (b : Int) (d : Sl) (h : World), t b d h →
((b < i) →
∀ (k : World) (n : Nat), New h n k → Chg [] h k →
∀ (_ : Box k n 3 [.int .i64 (-1)]),
RunK Try.prog (Builtin.append_ #[22, 22] 22 #[Sl.v d, Sl.v (Sl.mk (some ⟨n, 0, none⟩) 1 1)]) k [a] (fun v y => ∃ (o : Sl), v = Sl.v o ∧
(I64 (b + 1)) ∧
∀ (p : World), Chg [a] y p →
t (b + 1) o p ∧ x (b + 1) o p < x b d h)) ∧
((¬ (b < i)) →
∃ (u : Int → Sl → World → Prop) (z : Int → Sl → World → Nat),
u 0 Sl.nil h ∧
(∀ (c : Int) (f : Sl) (g : World), u c f g →
((c < j) →
∀ (l : World) (q : Nat), New g q l → Chg [] g l →
∀ (_ : Box l q 3 [.int .i64 (-1)]),
RunK Try.prog (Builtin.append_ #[22, 22] 22 #[Sl.v f, Sl.v (Sl.mk (some ⟨q, 0, none⟩) 1 1)]) l [a] (fun v aa => ∃ (r : Sl), v = Sl.v r ∧
(I64 (c + 1)) ∧
∀ (s : World), Chg [a] aa s →
u (c + 1) r s ∧ z (c + 1) r s < z c f g)) ∧
((¬ (c < j)) →
∀ (_ : Box g a 74 [Sl.v d, Sl.v f]),
R (.pointer (some (⟨a, 0, none⟩ : Addr))) g))))
theorem ref19_New.ok (i : Int) (j : Int) {R : Value → World → Prop} {w : World} (ab : ref19_New.vc i j R w) : Calls Try.prog 45 #[.int .i64 i, .int .i64 j] w (Ret R) := by
 refine go _ Try.func45 Try.ntmps45 ab ?_
 refine gS <| gR <| gN <| ge <| tn <| gS <| gR ?_
 refine gbu ti_74 Try.underlying74 pl_74 (OPs.of rfl) ?_
 refine nb fun m a => ?_
 refine gN <| ge <| tn <| gS <| gS <| gR ?_
 refine gN <| ge <| tn <| gb <| gT1 <| gE fun _ => gE fun mu => ?_
 refine l2 mu (fun b _ => [(6, .int .i64 b)]) [(0, _), (1, _), (5, _)] (fun _ d => [(a, 74, [Sl.v d, Sl.v Sl.nil])]) [] [0] fun b d h _ => gS <| gS <| gR ?_
 refine gM ?_
 refine gM ?_
 refine g2 r_lss <| ge <| tn ?_
 refine gi dT dF ?_ ?_
 ·refine gk <| tn <| gS <| gb <| gR <| gM ?_
  refine gM ?_
  refine g1 r_nilCheck ?_
  refine gF 0 Try.underlying74 ti_22 ?_
  refine gB 0 tU22 ?_
  refine ns [.int .i64 (-1)] tU22 ti_3 fun k n => gT1 ?_
  refine gX 0 ?_
  refine gR2 [1] r_append fun _ y => gE fun o => gQ ?_
  refine g1 r_nilCheck ?_
  refine gF 0 Try.underlying74 ti_22 ?_
  refine wo 0 ti_22 fun p => ge <| bn <| tn <| gR ?_
  refine gM ?_
  refine g2s r_addI ?_
  refine gN <| ge <| gT0 ?_
  exact k2 [0]
 ·refine gx <| te <| te <| bh <| tn <| gS <| gS <| gR <| gN <| ge <| tn <| gb <| gE fun _ => gE fun mu => ?_
  refine l2 mu (fun c _ => [(7, .int .i64 c)]) [(1, _), (5, _)] (fun _ f => [(a, 74, [Sl.v d, Sl.v f])]) [] [0] fun c f g _ => gS <| gS <| gR ?_
  refine gM ?_
  refine gM ?_
  refine g2 r_lss <| ge <| tn ?_
  refine gi dT dF ?_ ?_
  ·refine gk <| tn <| gS <| gb <| gR <| gM ?_
   refine gM ?_
   refine g1 r_nilCheck ?_
   refine gF 1 Try.underlying74 ti_22 ?_
   refine gB 0 tU22 ?_
   refine ns [.int .i64 (-1)] tU22 ti_3 fun l q => gT1 ?_
   refine gX 0 ?_
   refine gR2 [1] r_append fun _ aa => gE fun r => gQ ?_
   refine g1 r_nilCheck ?_
   refine gF 1 Try.underlying74 ti_22 ?_
   refine wo 0 ti_22 fun s => ge <| bn <| tn <| gR ?_
   refine gM ?_
   refine g2s r_addI ?_
   refine gN <| ge <| gT0 ?_
   exact k2 [0]
  ·refine gx <| te <| te <| bh <| tn <| gS <| gR <| gM ?_
   refine gN <| ge <| tn <| gr ?_
   refine gX 0 ?_
   exact gz1
def ref19_M_whole.vc (g : Addr) (b : Int) (c : Int) (d : Int) (R : Value → World → Prop) (w : World) : Prop :=
∃ (h : Int → World → Prop) (j : Int → World → Nat),
h 0 w ∧
(∀ (a : Int) (f : World), h a f →
((a < d) →
(I64 (b + a)) ∧
(I64 (c + a)) ∧
CallK Try.prog 32 #[.pointer (some g), .int .i64 (b + a), .int .i64 (c + a)] f [] (fun v i => v = .tuple #[] ∧
(I64 (a + 1)) ∧
h (a + 1) i ∧ j (a + 1) i < j a f)) ∧
((¬ (a < d)) →
R (.tuple #[]) f))
theorem ref19_M_whole.ok (g : Addr) (b : Int) (c : Int) (d : Int) {R : Value → World → Prop} {w : World} (k : ref19_M_whole.vc g b c d R w) : Calls Try.prog 53 #[.pointer (some g), .int .i64 b, .int .i64 c, .int .i64 d] w (Ret R) := by
 refine go _ Try.func53 Try.ntmps53 k ?_
 refine gS <| gR <| gN <| ge <| tn <| gb <| gE fun _ => gE fun mu => ?_
 refine l1 mu (fun a => [(8, .int .i64 a)]) [(0, _), (1, _), (2, _), (3, _)] (fun _ => []) [] [] fun a f _ => gS <| gS <| gR ?_
 refine gM ?_
 refine gM ?_
 refine g2 r_lss <| ge <| tn ?_
 refine gi dT dF ?_ ?_
 ·refine gk <| tn <| gS <| gb <| gR <| gM ?_
  refine gM ?_
  refine gM ?_
  refine g2s r_addI ?_
  refine gM ?_
  refine gM ?_
  refine g2s r_addI ?_
  refine gC [] Try.func32 fun _ i => gQ <| ge <| bn <| tn <| gR ?_
  refine gM ?_
  refine g2s r_addI ?_
  refine gN <| ge ?_
  exact k1 []
 ·exact gx <| te <| te <| bh <| gze <| gz0
def ref19_Half.vc (a : Int) (b : Int) (R : Value → World → Prop) (w : World) : Prop :=
(I64 (4 * a)) ∧
R (.bool (decide (b < (4 * a)))) w
theorem ref19_Half.ok (a : Int) (b : Int) {R : Value → World → Prop} {w : World} (c : ref19_Half.vc a b R w) : Calls Try.prog 56 #[.int .i64 a, .int .i64 b] w (Ret R) := by
 refine go _ Try.func56 Try.ntmps56 c ?_
 refine gS <| gR <| gN <| ge <| tn <| gS <| gR ?_
 refine gM ?_
 refine g2s r_mulI ?_
 refine gM ?_
 refine g2 r_gtr ?_
 refine gN <| ge <| tn <| gr ?_
 exact gz1
def ref19_Dice.vc (c : Int) (a : Int) (d : Int) (b : Int) (R : Value → World → Prop) (w : World) : Prop :=
(I64 ((bif decide (a = 0) then 0 else c) * (bif decide (b = 0) then 1 else b))) ∧
(I64 ((bif decide (b = 0) then 0 else d) * (bif decide (a = 0) then 1 else a))) ∧
((((bif decide (b = 0) then 0 else d) * (bif decide (a = 0) then 1 else a)) < ((bif decide (a = 0) then 0 else c) * (bif decide (b = 0) then 1 else b))) →
R (.int .i64 1) w) ∧
((¬ (((bif decide (b = 0) then 0 else d) * (bif decide (a = 0) then 1 else a)) < ((bif decide (a = 0) then 0 else c) * (bif decide (b = 0) then 1 else b)))) →
(I64 ((bif decide (a = 0) then 0 else c) * (bif decide (b = 0) then 1 else b))) ∧
(I64 ((bif decide (b = 0) then 0 else d) * (bif decide (a = 0) then 1 else a))) ∧
((((bif decide (a = 0) then 0 else c) * (bif decide (b = 0) then 1 else b)) < ((bif decide (b = 0) then 0 else d) * (bif decide (a = 0) then 1 else a))) →
R (.int .i64 (-1)) w) ∧
((¬ (((bif decide (a = 0) then 0 else c) * (bif decide (b = 0) then 1 else b)) < ((bif decide (b = 0) then 0 else d) * (bif decide (a = 0) then 1 else a)))) →
R (.int .i64 0) w))
theorem ref19_Dice.ok (c : Int) (a : Int) (d : Int) (b : Int) {R : Value → World → Prop} {w : World} (f : ref19_Dice.vc c a d b R w) : Calls Try.prog 74 #[.int .i64 c, .int .i64 a, .int .i64 d, .int .i64 b] w (Ret R) := by
 refine go _ Try.func74 Try.ntmps74 f ?_
 refine gS <| gR <| gN <| ge <| tn <| gS <| gS <| gR ?_
 refine gM ?_
 refine g2 r_eql <| ge <| tn ?_
 refine gp [(0, .int .i64 (bif decide (a = 0) then 0 else c)), (1, .int .i64 (bif decide (a = 0) then 1 else a))] [(2, _), (3, _)] (fun hc => ?_) (fun hc => ?_) ?_
 ·refine gR <| gN ?_
  refine gN <| ge ?_
  exact gp' ⟨by rw [hc]; rfl, by rw [hc]; rfl, trivial⟩
 ·exact gk <| gp' ⟨by rw [hc]; rfl, by rw [hc]; rfl, trivial⟩
 ·refine tn <| gS <| gS <| gR <| gM ?_
  refine g2 r_eql <| ge <| tn ?_
  refine gp [(2, .int .i64 (bif decide (b = 0) then 0 else d)), (3, .int .i64 (bif decide (b = 0) then 1 else b))] [(0, _), (1, _)] (fun hc => ?_) (fun hc => ?_) ?_
  ·refine gR <| gN ?_
   refine gN <| ge ?_
   exact gp' ⟨by rw [hc]; rfl, by rw [hc]; rfl, trivial⟩
  ·exact gk <| gp' ⟨by rw [hc]; rfl, by rw [hc]; rfl, trivial⟩
  ·refine tn <| gS <| gb <| gS <| gR <| gM ?_
   refine gM ?_
   refine g2s r_mulI ?_
   refine gM ?_
   refine gM ?_
   refine g2s r_mulI ?_
   refine g2 r_gtr ?_
   refine gN <| ge <| tn ?_
   refine gi dT dF ?_ ?_
   ·refine gS <| gR <| gN <| ge <| tn <| gr <| br <| tr ?_
    exact gz1
   ·refine gS <| gR <| gM ?_
    refine gM ?_
    refine g2s r_mulI ?_
    refine gM ?_
    refine gM ?_
    refine g2s r_mulI ?_
    refine g2 r_lss ?_
    refine gN <| ge <| tn ?_
    refine gi dT dF ?_ ?_
    ·refine gS <| gR <| gN <| ge <| tn <| gr <| br <| tr ?_
     exact gz1
    ·refine gk <| bn <| tn <| gS <| gR <| gN <| ge <| tn <| gr ?_
     exact gz1
end Go.Proofs.Yteohbfaechfliaa
