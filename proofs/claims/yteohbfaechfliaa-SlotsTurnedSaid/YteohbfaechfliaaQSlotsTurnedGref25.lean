/-
  PRINTED BY PROGRAM: for each function its condition (vc), and that this suffices (ok).
-/
import Derived.Test.YteohbfaechfliaaQSlotsTurnedGT
namespace Go.Proofs.Yteohbfaechfliaa
open Go.RowKit
set_option linter.unusedVariables false
set_option maxHeartbeats 1000000
set_option maxRecDepth 10000
def ref25_Of.vc (aA : Int) (aB : Str) (aC : Str) (aD : Sl) (aG : Sl) (aH : Int) (aI : Str) (aJ : Str) (aK : Sl) (aL : Sl) (u : Sl) (R : Value → World → Prop) (w : World) : Prop :=
∀ (w7 : World) (aP : Nat) (aQ : Nat), New w aP w7 → New w aQ w7 → aP ≠ aQ → Chg [] w w7 →
CallK Try.prog 44 #[.agg #[.int .i64 aA, .string (Bs aB), .string (Bs aC), Sl.v aD, Sl.v aG], .agg #[.int .i64 aH, .string (Bs aI), .string (Bs aJ), Sl.v aK, Sl.v aL], Sl.v u] w7 [aP, aQ] (fun v a0 => ∃ (aR : Bool), v = .bool aR ∧
((aR = false) →
R (.pointer none) a0) ∧
((aR = true) →
∀ (ad : World), Chg [] a0 ad →
∃ af : Sl → World → Prop, (∀ z : Sl, ∀ w' w'' : World, Ext w' w'' → af z w' → af z w'') ∧
(∀ w' : World, Ext ad w' → Calls Try.prog 11 #[.agg #[.int .i64 aA, .string (Bs aB), .string (Bs aC), Sl.v aD, Sl.v aG]] w' (Ret fun v w'' => Ext w' w'' ∧ ∃ z : Sl, v = Sl.v z ∧ af z w'')) ∧
∃ ah : Sl → World → Prop, (∀ aa : Sl, ∀ w' w'' : World, Ext w' w'' → ah aa w' → ah aa w'') ∧
(∀ w' : World, Ext ad w' → Calls Try.prog 11 #[.agg #[.int .i64 aH, .string (Bs aI), .string (Bs aJ), Sl.v aK, Sl.v aL]] w' (Ret fun v w'' => Ext w' w'' ∧ ∃ aa : Sl, v = Sl.v aa ∧ ah aa w'')) ∧
∀ (an : World) (ai : Sl) (aj : Sl) (d : Nat), Ext ad an → af ai an → ah aj an → ad.heap.size ≤ d → Box an d 91 [Sl.v ai, Sl.v aj, .pointer none, Sl.v Sl.nil] → 
∀ (aS : World), Chg [] an aS →
∃ ao : (Option Addr) → World → Prop, (∀ r : Option Addr, ∀ w' w'' : World, Ext w' w'' → ao r w' → ao r w'') ∧
(∀ w' : World, Ext aS w' → Calls Try.prog 45 #[.int .i64 (ai.n : Int), .int .i64 (aj.n : Int)] w' (Ret fun v w'' => Ext w' w'' ∧ ∃ r : Option Addr, v = .pointer r ∧ ao r w'')) ∧
∀ (aU : World) (r : Option Addr), Ext aS aU → ao r aU → 
∀ (a1 : World), Chg [d] aU a1 →
∃ (a2 : Int → World → Prop) (bl : Int → World → Nat),
a2 0 a1 ∧
(∀ (p : Int) (ap : World), a2 p ap →
((p < (u.n : Int)) →
∀ (aN : World), Chg [] ap aN →
∃ a3 : Addr, (((0 : Int) ≤ p ∧ p < (u.n : Int)) ∧ u.a = some a3) ∧
∃ (a4 : Int), (aN.cell? ((a3.add (p.toNat * 2)).add 0) = some (.int .i64 a4)) ∧
∃ a5 : Addr, (((0 : Int) ≤ p ∧ p < (u.n : Int)) ∧ u.a = some a5) ∧
∃ (a6 : Int), (aN.cell? ((a5.add (p.toNat * 2)).add 1) = some (.int .i64 a6)) ∧
∀ (a7 : World), Chg [] aN a7 →
CallK Try.prog 32 #[.pointer r, .int .i64 a4, .int .i64 a6] a7 [d] (fun v a8 => v = .tuple #[] ∧
(I64 (p + 1)) ∧
a2 (p + 1) a8 ∧ bl (p + 1) a8 < bl p ap)) ∧
((¬ (p < (u.n : Int))) →
∀ (_ : Box ap d 91 [Sl.v ai, Sl.v aj, .pointer r, Sl.v Sl.nil]),
∃ (a9 : Int → World → Prop) (bo : Int → World → Nat),
a9 0 ap ∧
(∀ (o : Int) (ak : World), a9 o ak →
∃ (aV : Sl), (ak.cell? ((⟨d, 0, none⟩ : Addr).add 0) = some (Sl.v aV)) ∧
((o < (aV.n : Int)) →
∀ (x : World), Chg [] ak x →
∃ (aq : Sl), (x.cell? ((⟨d, 0, none⟩ : Addr).add 3) = some (Sl.v aq)) ∧
∃ al : Bool → Bool → Sl → Sl → Int → Sl → World → Prop, (∀ f : Bool, ∀ g : Bool, ∀ j : Sl, ∀ k : Sl, ∀ l : Int, ∀ m : Sl, ∀ w' w'' : World, Ext w' w'' → al f g j k l m w' → al f g j k l m w'') ∧
(∀ w' : World, Ext x w' → Calls Try.prog 46 #[.pointer (some (⟨d, 0, none⟩ : Addr)), .int .i64 o] w' (Ret fun v w'' => Ext w' w'' ∧ ∃ f : Bool, ∃ g : Bool, ∃ j : Sl, ∃ k : Sl, ∃ l : Int, ∃ m : Sl, v = .agg #[.bool f, .bool g, Sl.v j, Sl.v k, .int .i64 l, Sl.v m] ∧ al f g j k l m w'')) ∧
∀ (ab : World) (f : Bool) (g : Bool) (j : Sl) (k : Sl) (l : Int) (m : Sl) (q : Nat), Ext x ab → al f g j k l m ab → x.heap.size ≤ q → Box ab q 93 [.bool f, .bool g, Sl.v j, Sl.v k, .int .i64 l, Sl.v m] → 
∀ (_ : Box ab q 93 [.bool f, .bool g, Sl.v j, Sl.v k, .int .i64 l, Sl.v m]),
RunK Try.prog (Builtin.append_ #[89, 89] 89 #[Sl.v aq, Sl.v (Sl.mk (some ⟨q, 0, none⟩) 1 1)]) ab [] (fun v ba => ∃ (ar : Sl), v = Sl.v ar ∧
∀ (au : World), Chg [] ba au →
∀ (av : World), Chg [] au av →
∃ (ax aX : Nat) (bb : TypeId) (aY : List Value), ((⟨d, 0, none⟩ : Addr).add 3) = ⟨ax, aX, none⟩ ∧ Box av ax bb aY ∧ aX + 1 ≤ aY.length ∧ (∀ b ∈ [], b ≠ ax) ∧
(∀ ay : World, Chg [ax] av ay → Box ay ax bb (putAt aY aX [Sl.v ar]) →
(I64 (o + 1)) ∧
a9 (o + 1) ay ∧ bo (o + 1) ay < bo o ak))) ∧
((¬ (o < (aV.n : Int))) →
R (.pointer (some (⟨d, 0, none⟩ : Addr))) ak))))))
theorem ref25_Of.ok (aA : Int) (aB : Str) (aC : Str) (aD : Sl) (aG : Sl) (aH : Int) (aI : Str) (aJ : Str) (aK : Sl) (aL : Sl) (u : Sl) {R : Value → World → Prop} {w : World} (bx : ref25_Of.vc aA aB aC aD aG aH aI aJ aK aL u R w) : Calls Try.prog 21 #[.agg #[.int .i64 aA, .string (Bs aB), .string (Bs aC), Sl.v aD, Sl.v aG], .agg #[.int .i64 aH, .string (Bs aI), .string (Bs aJ), Sl.v aK, Sl.v aL], Sl.v u] w (Ret R) := by
 refine go _ Try.func21 Try.ntmps21 bx ?_
 refine gS <| gR <| nb fun w5 aP => ?_
 refine nb fun w7 aQ => ?_
 refine gN <| ge <| tn <| gS <| gS <| gR ?_
 refine gBN 1 5 Try.underlying26 ti_26 ?_
 refine gBN 0 5 Try.underlying26 ti_26 ?_
 refine gM <| gT2 ?_
 refine gC [1, 0] Try.func44 fun _ a0 => gE fun aR => gQ ?_
 refine g1 r_not <| ge <| tn ?_
 refine gi nT nF ?_ ?_
 ·refine gS <| gR <| gN <| ge <| tn <| gr <| tr ?_
  exact gz1
 ·refine gk <| tn <| gS <| gD fun ad => gT0 <| gE fun af => gA fun bd => gA fun bz => gE fun ah => gA fun bf => gA fun bA => ?_
  refine gW 0 7 [(1, ⟨Sl, default, fun s => Sl.v s, fun s w => af s w, bd⟩), (3, ⟨Sl, default, fun s => Sl.v s, fun s w => ah s w, bf⟩), (5, ⟨Sl × Sl × Nat, default, fun s => (fun B => .pointer (some ⟨B, 0, none⟩)) s.2.2, fun s w' => af s.1 w' ∧ ah s.2.1 w' ∧ ad.heap.size ≤ s.2.2 ∧ Box w' s.2.2 91 [Sl.v s.1, Sl.v s.2.1, .pointer none, Sl.v Sl.nil], fun s w' w'' hE h => ⟨(bd s.1 w' w'' hE h.1), (bf s.2.1 w' w'' hE h.2.1), h.2.2.1, h.2.2.2.ext hE⟩⟩)] ?_
  refine gBN 1 5 Try.underlying26 ti_26 ?_
  refine yc rfl Try.func11 (fun w' hE _ => bz w' hE) (fun _ _ h => h) fun z => ?_
  refine gBN 0 5 Try.underlying26 ti_26 ?_
  refine yc rfl Try.func11 (fun w' hE _ => bA w' hE) (fun _ _ h => h) fun aa => ?_
  refine gbu ti_91 Try.underlying91 pl_91 (OPs.of rfl) ?_
  refine yn (fun B => .pointer (some ⟨B, 0, none⟩)) (cs := [Sl.v z, Sl.v aa, .pointer none, Sl.v Sl.nil]) rfl (fun _ hA _ => r_box (hA.opv rfl) rfl) (fun _ _ B _ hF hA' h1 h2 => ⟨(z, aa, B), rfl, (bd z _ _ hA' (hF.2.1 (by kernel_rfl))), (bf aa _ _ hA' (hF.1 (by kernel_rfl))), h1, h2⟩) fun ⟨ai, aj, d⟩ => ?_
  refine gN ?_
  refine eB (B := d) (T := 91) (cs := [Sl.v ai, Sl.v aj, .pointer none, Sl.v Sl.nil]) (fun _ hF => ⟨hF.1.2.2.1, hF.1.2.2.2⟩) (fun v w' hE hF => v w' ai aj d hE hF.1.1 hF.1.2.1 hF.1.2.2.1 hF.1.2.2.2) fun an => ?_
  refine gZ <| tn <| gS ?_
  refine gD fun aS => gT0 <| gE fun ao => gA fun bD => gA fun bF => ?_
  refine gW 0 14 [(11, ⟨(Option Addr), default, fun s => .pointer s, fun s w => ao s w, bD⟩)] ?_
  refine gM ?_
  refine gM ?_
  refine g1 r_nilCheck ?_
  refine gF 0 Try.underlying91 ti_31 ?_
  refine gB 0 tU31 ?_
  refine g1 (fun am => r_len am tU31) ?_
  refine gM ?_
  refine g1 r_nilCheck ?_
  refine gF 1 Try.underlying91 ti_31 ?_
  refine gB 0 tU31 ?_
  refine g1 (fun am => r_len am tU31) ?_
  refine yc rfl Try.func45 (fun w' hE _ => bF w' hE) (fun _ _ h => h) fun r => ?_
  refine g1 r_nilCheck ?_
  refine gF 2 Try.underlying91 ti_67 ?_
  refine eF (fun v w' hE hF => v w' r hE hF.1) fun aU => ?_
  refine gO 14 ?_
  refine wo 0 ti_67 fun a1 => geO ?_
  refine gZ <| tn <| gS <| gS <| gR ?_
  refine gN <| ge <| tn <| gb <| gT0 <| gE fun _ => gE fun mu => ?_
  refine l1 mu (fun p => [(8, .int .i64 p)]) [(2, _), (7, _)] (fun _ => []) [(d, _, _)] [0] fun p ap _ => gS <| gS <| gR ?_
  refine gM ?_
  refine gM ?_
  refine g1 (fun am => r_len am tU29) ?_
  refine g2 r_lss <| ge <| tn ?_
  refine gi dT dF ?_ ?_
  ·refine gk <| tn <| gS <| gb <| gD fun aN => gT0 ?_
   refine gW 0 14 [] ?_
   refine gM ?_
   refine g1 r_nilCheck ?_
   refine gF 2 Try.underlying91 ti_67 ?_
   refine gB 0 tU67 ?_
   refine gM ?_
   refine gM ?_
   refine gI2 tU29 ti_40 fun a3 => ?_
   refine gF 0 Try.underlying40 ti_3 ?_
   refine gE fun a4 => gL tU3 ?_
   refine gM ?_
   refine gM ?_
   refine gI2 tU29 ti_40 fun a5 => ?_
   refine gF 1 Try.underlying40 ti_3 ?_
   refine gE fun a6 => gL tU3 <| geT fun a7 => ?_
   refine gO 14 <| gT0 ?_
   refine gC [0] Try.func32 fun _ a8 => gQ <| geO ?_
   refine gZ <| bn <| tn <| gR ?_
   refine gM ?_
   refine g2s r_addI ?_
   refine gN <| ge ?_
   exact k1 [0]
  ·refine gx <| te <| te <| bh <| tn <| gS <| gS <| gR <| gN <| ge <| tn <| gb ?_
   refine gX 0 <| gE fun _ => gE fun mu => ?_
   refine l1 mu (fun o => [(9, .int .i64 o)]) [(7, _)] (fun _ => []) [] [] fun o ak _ => gS <| gS <| gR ?_
   refine gM ?_
   refine gM ?_
   refine g1 r_nilCheck ?_
   refine gF 0 Try.underlying91 ti_31 ?_
   refine gE fun aV => gL tU31 ?_
   refine g1 (fun am => r_len am tU31) ?_
   refine g2 r_lss <| ge <| tn ?_
   refine gi dT dF ?_ ?_
   ·refine gk <| tn <| gS <| gb ?_
    intro cz bG bH
    have y := bG.ag
    let aZ : List (List Nat) := [[], [], [1], [1, 2], [1, 2, 3], [], [], [5, 6], [5, 6, 7], [1, 2, 3, 4, 5, 6, 7, 8], [0, 1, 2, 3, 4, 5, 6, 7, 8, 9], [0, 1, 2, 3, 4, 5, 6, 7, 8, 9, 10], [0, 1, 2, 3, 4, 5, 6, 7, 8, 9, 10, 11]]
    refine draw' (by kernel_rfl) fun x bI => ?_
    have bJ : Chg [] ak x := bI
    have bK := bH x    bJ
    refine startF (D := aZ) (Fs := [0, 1, 5, 6]) (Ef := [(0, fun v _ => v = pB d 0), (1, fun v _ => v = pB d 0), (5, fun v _ => v = pB d 0), (6, fun v _ => v = .int .i64 o)]) (by kernel_rfl) ?_
    obtain ⟨aq, bL, bM⟩ := bK
    obtain ⟨al, bg, bN, bO⟩ := bM
    refine parF (D := aZ) (S := [2, 3, 4, 7, 8]) (F := []) (KE := [2, 3, 4, 7, 8]) (E := [(2, fun v _ => v = pB d 0), (3, fun v _ => v = .pointer (some ((⟨d, 0, none⟩ : Addr).add 3))), (4, fun v _ => v = Sl.v aq), (7, fun v w' => ∃ f : Bool, ∃ g : Bool, ∃ j : Sl, ∃ k : Sl, ∃ l : Int, ∃ m : Sl, al f g j k l m w' ∧ v = .agg #[.bool f, .bool g, Sl.v j, Sl.v k, .int .i64 l, Sl.v m]), (8, fun v w' => ∃ f : Bool, ∃ g : Bool, ∃ j : Sl, ∃ k : Sl, ∃ l : Int, ∃ m : Sl, ∃ q : Nat, al f g j k l m w' ∧ x.heap.size ≤ q ∧ Box w' q 93 [.bool f, .bool g, Sl.v j, Sl.v k, .int .i64 l, Sl.v m] ∧ v = Sl.v (Sl.mk (some ⟨q, 0, none⟩) 1 1))]) y rfl (by kernel_rfl) ⟨fun _ _ _ _ h => h, fun _ _ _ _ h => h, fun _ _ _ _ h => h, fun _ _ _ hE ⟨f, g, j, k, l, m, h0_, e⟩ => ⟨f, g, j, k, l, m, (bg f g j k l m _ _ hE h0_), e⟩, fun _ _ _ hE ⟨f, g, j, k, l, m, q, h0_, h1_, h2_, e⟩ => ⟨f, g, j, k, l, m, q, (bg f g j k l m _ _ hE h0_), h1_, (h2_.ext hE), e⟩, fun _ _ _ _ h => h, fun _ _ _ _ h => h, fun _ _ _ _ h => h, fun _ _ _ _ h => h, trivial⟩ ⟨?_, ?_, ?_, ?_, ?_, ?_, ?_, ?_, ?_, trivial⟩ ?_
    ·intro a w hT
     have hAp := hT.ag y [] trivial (by kernel_rfl)
     have hAp := hAp.add (t := 66) (v := pB d 0) (hT.vals 1 rfl 66 rfl)
     exact ovr hAp rfl (r_nilCheck (hAp.get rfl)) fun _ => Eq.refl _
    ·intro a w hT
     have hAp := hT.ag y [] trivial (by kernel_rfl)
     have hAp := hAp.add (t := 67) (v := pB d 0) (hT.vals 2 rfl 67 rfl)
     exact ovr hAp rfl (r_fieldAddr (hAp.get rfl) Try.underlying91 rfl ti_89 (by decide)) fun _ => Eq.refl _
    ·intro a w hT
     have hAp := hT.ag y [] trivial (by kernel_rfl)
     have hAp := hAp.add (t := 68) (v := .pointer (some ((⟨d, 0, none⟩ : Addr).add 3))) (hT.vals 3 rfl 68 rfl)
     exact ovr hAp rfl (r_load1 tU89 rfl (hAp.get rfl) (Ext.cell hT.chg bL)) fun _ => Eq.refl _
    ·intro a w hT
     have hAp := hT.ag y [] trivial (by kernel_rfl)
     have hAp := hAp.add (t := 70) (v := pB d 0) (hT.vals 5 rfl 70 rfl)
     have hAp := hAp.add (t := 71) (v := .int .i64 o) (hT.vals 6 rfl 71 rfl)
     exact opk_callX hAp rfl (r_call (args := #[pB d 0, .int .i64 o]) Try.func46 (by decide) rfl (map_arr (ml_cons (hAp.get rfl) (ml_cons (hAp.get rfl) ml_nil))) rfl) (bN w hT.chg) fun _ _ _ _ e ⟨hE, f, g, j, k, l, m, he, hV⟩ => ⟨_, e, hE, fun _ => ⟨f, g, j, k, l, m, hV, he⟩⟩
    ·intro a w hT
     have hAp := hT.ag y [] trivial (by kernel_rfl)
     obtain ⟨f, g, j, k, l, m, bP, bQ⟩ := hT.vals 7 rfl 72 rfl
     have hAp := hAp.add bQ
     exact opk_new (fun B => .slice (some ⟨B, 0, none⟩) 1 1) hAp rfl (r_buildSlice (vs := #[(0, .agg #[.bool f, .bool g, Sl.v j, Sl.v k, .int .i64 l, Sl.v m])]) (cs := [.bool f, .bool g, Sl.v j, Sl.v k, .int .i64 l, Sl.v m]) (map_arr2 (ml2_cons (hAp.get rfl) (ml2_nil))) tU89 ti_93 rfl rfl (by kernel_rfl)) fun _ cA q bp bR bS _ e => ⟨_, e, bp, fun _ => ⟨f, g, j, k, l, m, q, (bg f g j k l m _ _ bp bP), Nat.le_trans hT.chg.size bR.ge, bS, rfl⟩⟩
    ·intro a w hT
     have hAp := hT.ag y [(7, pB d 0)] ⟨rfl, trivial⟩ (by kernel_rfl)
     exact ovr hAp rfl (r_move (hAp.get rfl)) fun _ => Eq.refl _
    ·intro a w hT
     have hAp := hT.ag y [(7, pB d 0)] ⟨rfl, trivial⟩ (by kernel_rfl)
     exact ovr hAp rfl (r_move (hAp.get rfl)) fun _ => Eq.refl _
    ·intro a w hT
     have hAp := hT.ag y [(7, pB d 0)] ⟨rfl, trivial⟩ (by kernel_rfl)
     exact ovr hAp rfl (r_move (hAp.get rfl)) fun _ => Eq.refl _
    ·intro a w hT
     have hAp := hT.ag y [(9, .int .i64 o)] ⟨rfl, trivial⟩ (by kernel_rfl)
     exact ovr hAp rfl (r_move (hAp.get rfl)) fun _ => Eq.refl _
    ·intro bT ab bq bU bt
     have bV := bU [(7, pB d 0), (9, .int .i64 o)] ⟨rfl, rfl, trivial⟩ (by kernel_rfl)
     have bX : bT.tmps.getD 69 undef = Sl.v aq := bt 4 rfl 69 rfl
     have bY := bV.add bX
     obtain ⟨f, g, j, k, l, m, q, bZ, b0, bu, b1⟩ := bt 8 rfl 73 rfl
     have az := bY.add b1
     have cB : Chg [] x ab := bq
     have b2 := bO ab f g j k l m q bq bZ b0 bu
     refine oneF (c := 9) az rfl (by kernel_rfl) (constF ⟨fun _ _ _ h => h, fun _ _ _ h => h, fun _ _ _ h => h, fun _ _ _ h => h, trivial⟩) ⟨?_, ?_, ?_, ?_, trivial⟩ ?_
     ·intro a hT
      have hAp := hT.ag az [(7, pB d 0)] ⟨rfl, trivial⟩ (by kernel_rfl)
      exact opk_val hAp rfl (r_move (hAp.get rfl)) fun _ _ e => ⟨_, e, rfl, fun _ => Eq.refl _⟩
     ·intro a hT
      have hAp := hT.ag az [(7, pB d 0)] ⟨rfl, trivial⟩ (by kernel_rfl)
      exact opk_val hAp rfl (r_move (hAp.get rfl)) fun _ _ e => ⟨_, e, rfl, fun _ => Eq.refl _⟩
     ·intro a hT
      have hAp := hT.ag az [(7, pB d 0)] ⟨rfl, trivial⟩ (by kernel_rfl)
      exact opk_val hAp rfl (r_move (hAp.get rfl)) fun _ _ e => ⟨_, e, rfl, fun _ => Eq.refl _⟩
     ·intro a hT
      have hAp := hT.ag az [(9, .int .i64 o)] ⟨rfl, trivial⟩ (by kernel_rfl)
      exact opk_val hAp rfl (r_move (hAp.get rfl)) fun _ _ e => ⟨_, e, rfl, fun _ => Eq.refl _⟩
     ·intro cC hT
      have bi := hT.ag az [(7, pB d 0), (9, .int .i64 o), (69, Sl.v aq), (73, Sl.v (Sl.mk (some ⟨q, 0, none⟩) 1 1))] ⟨rfl, rfl, rfl, rfl, trivial⟩ (by kernel_rfl)
      have b3 := b2 bu
      refine (opk_run bi rfl (fun _ _ hr => r_append (bi.get rfl) (bi.get rfl) hr) b3 fun cD cF ba aO b4 cG cH b5 => ?_)
      refine ⟨_, b4, ?_⟩
      obtain ⟨ar, rfl, b6⟩ := b5
      refine joinF aO (by kernel_rfl) ⟨fun _ _ _ _ h => h, fun _ _ _ _ h => h, fun _ _ _ _ h => h, fun _ _ _ _ h => h, trivial⟩ ⟨?_, ?_, ?_, ?_, trivial⟩ ?_
      ·intro a w hT
       have hAp := hT.ag aO [(7, pB d 0)] ⟨rfl, trivial⟩ (by kernel_rfl)
       exact ovr hAp rfl (r_move (hAp.get rfl)) fun _ => Eq.refl _
      ·intro a w hT
       have hAp := hT.ag aO [(7, pB d 0)] ⟨rfl, trivial⟩ (by kernel_rfl)
       exact ovr hAp rfl (r_move (hAp.get rfl)) fun _ => Eq.refl _
      ·intro a w hT
       have hAp := hT.ag aO [(7, pB d 0)] ⟨rfl, trivial⟩ (by kernel_rfl)
       exact ovr hAp rfl (r_move (hAp.get rfl)) fun _ => Eq.refl _
      ·intro a w hT
       have hAp := hT.ag aO [(9, .int .i64 o)] ⟨rfl, trivial⟩ (by kernel_rfl)
       exact ovr hAp rfl (r_move (hAp.get rfl)) fun _ => Eq.refl _
      ·intro b7 au b8 b9 ca
       have cb := b9 [(7, pB d 0), (9, .int .i64 o), (74, Sl.v ar)] ⟨rfl, rfl, rfl, trivial⟩ (by kernel_rfl)
       have cc : b7.tmps.getD 65 undef = pB d 0 := ca 0 rfl 65 rfl
       have bj := cb.add cc
       have cd : Chg [] ba au := b8
       have cf := b6 au    cd
       refine par (D := aZ) (S := [10, 11]) (F := []) (V := VL [(10, fun v _ => v = pB d 0), (11, fun v _ => v = .pointer (some ((⟨d, 0, none⟩ : Addr).add 3)))]) bj (by kernel_rfl) ⟨fun _ _ _ _ h => h, fun _ _ _ _ h => h, trivial⟩ ⟨?_, ?_, trivial⟩ ?_
       ·intro a w hT
        have hAp := hT.ag bj [(65, pB d 0)] ⟨rfl, trivial⟩ (by kernel_rfl)
        exact ovr hAp rfl (r_nilCheck (hAp.get rfl)) fun _ => Eq.refl _
       ·intro a w hT
        have hAp := hT.ag bj [] trivial (by kernel_rfl)
        have hAp := hAp.add (t := 75) (v := pB d 0) (hT.vals 10 rfl 75 rfl)
        exact ovr hAp rfl (r_fieldAddr (hAp.get rfl) Try.underlying91 rfl ti_89 (by decide)) fun _ => Eq.refl _
       ·intro cg av ch ci cj
        have ck := ci [(7, pB d 0), (9, .int .i64 o), (74, Sl.v ar)] ⟨rfl, rfl, rfl, trivial⟩ (by kernel_rfl)
        have cl : cg.tmps.getD 76 undef = .pointer (some ((⟨d, 0, none⟩ : Addr).add 3)) := cj 11 rfl 76 rfl
        have bk := ck.add cl
        have cm : Chg [] au av := ch
        have cn := cf av    cm
        obtain ⟨ax, aX, bb, aY, co, bv, cp, cI, cq⟩ := cn
        refine one (D := aZ) (i := 12) rfl (by kernel_rfl) (opk_store bk bv (r_store (vs := [Sl.v ar]) (((bk.get rfl)).trans (congrArg (fun a => Value.pointer (some a)) co)) (bk.get rfl) rfl ti_89 bv (Nat.ble_eq_true_of_le cp) (ones_all _ rfl)) fun cJ ay cr ct cu => ?_)
        have cv := cq ay cr ct
        refine PR_end (by kernel_rfl) ?_
        have cx := cu.kp [(7, pB d 0), (9, .int .i64 o)] rfl
        refine gK (bs := []) (N := []) cx (Chg.refl [] _) trivial (by simp) trivial (by simp) cv ?_
        refine bn <| tn <| gR <| gM ?_
        refine g2s r_addI ?_
        refine gN <| ge ?_
        exact k1 []
   ·refine gx <| te <| te <| bh <| tn <| gS <| gR <| gM ?_
    refine gN <| ge <| tn <| gr ?_
    exact gz1
def ref25_C_slot.vc (b : Addr) (k : Int) (R : Value → World → Prop) (w : World) : Prop :=
∀ (w4 : World) (m : Nat), New w m w4 → Chg [] w w4 →
∃ (bb : Option Addr), (w4.cell? (b.add 2) = some (.pointer bb)) ∧
∃ bd : Addr, (bb = some bd) ∧
∃ (aU : Sl), (w4.cell? (bd.add 0) = some (Sl.v aU)) ∧
((0 : Int) ≤ k ∧ k < (aU.n : Int)) ∧ ∃ bf : Addr, aU.a = some bf ∧
∃ (d : Int), (w4.cell? (bf.add (k.toNat * 1)) = some (.int .i64 d)) ∧
((d < 0) →
∀ (bg : World), Chg [m] w4 bg →
R (.agg #[.bool true, .bool false, Sl.v Sl.nil, Sl.v Sl.nil, .int .i64 0, Sl.v Sl.nil]) bg) ∧
((¬ (d < 0)) →
∀ (r : World), Chg [] w4 r →
∃ (al : Sl), (r.cell? (b.add 0) = some (Sl.v al)) ∧
∃ ah : Addr, (((0 : Int) ≤ k ∧ k < (al.n : Int)) ∧ al.a = some ah) ∧
∃ (am : Int) (an : Str) (x : Str) (s : Sl) (ao : Sl), (Cells r ((ah.add (k.toNat * 15)).add 5) [.int .i64 am, .string (Bs an), .string (Bs x), Sl.v s, Sl.v ao]) ∧
∃ (ak : Sl), (r.cell? (b.add 1) = some (Sl.v ak)) ∧
∃ aa : Addr, (((0 : Int) ≤ d ∧ d < (ak.n : Int)) ∧ ak.a = some aa) ∧
∃ (ap : Int) (aq : Str) (y : Str) (q : Sl) (ar : Sl), (Cells r ((aa.add (d.toNat * 15)).add 5) [.int .i64 ap, .string (Bs aq), .string (Bs y), Sl.v q, Sl.v ar]) ∧
∀ (ai : World) (f : Nat) (g : Nat), Ext r ai → r.heap.size ≤ f → Box ai f 26 [.int .i64 0, .string (Bs []), .string (Bs []), Sl.v Sl.nil, Sl.v Sl.nil] → r.heap.size ≤ g → Box ai g 26 [.int .i64 0, .string (Bs []), .string (Bs []), Sl.v Sl.nil, Sl.v Sl.nil] → 
∀ (aV : World) (u : Nat), New ai u aV → Chg [g, f] ai aV →
∃ (aX : Int → Sl → World → Prop) (aY : Int → Sl → World → Nat),
aX 0 Sl.nil aV ∧
(∀ (j : Int) (z : Sl) (aD : World), aX j z aD →
((j < (q.n : Int)) →
∀ (aN : World), Chg [] aD aN →
∃ bi : Addr, (((0 : Int) ≤ j ∧ j < (q.n : Int)) ∧ q.a = some bi) ∧
∃ (bj : Str), (aN.cell? ((bi.add (j.toNat * 2)).add 0) = some (.string (Bs bj))) ∧
∃ (aO : Str) (au : Bool), (∀ w' : World, Ext aN w' → Calls Try.prog 13 #[Sl.v s, .string (Bs bj)] w' (Ret fun v w'' => Ext w' w'' ∧ v = .tuple #[.string (Bs aO), .bool au])) ∧
∃ bk : Addr, (((au = true)) → ((0 : Int) ≤ j ∧ j < (q.n : Int)) ∧  q.a = some bk) ∧
∀ (aG : World), Chg [] aN aG →
∃ (aZ : Str), (((au = true)) → aG.cell? ((bk.add (j.toNat * 2)).add 1) = some (.string (Bs aZ))) ∧
(((au = false) ∨ (aO ≠ aZ)) →
∀ (aH : World), Chg [] aG aH →
∃ bl : Addr, (((0 : Int) ≤ j ∧ j < (q.n : Int)) ∧ q.a = some bl) ∧
∃ (av : Str) (ax : Str), (Cells aH (bl.add (j.toNat * 2)) [.string (Bs av), .string (Bs ax)]) ∧
∀ (aP : World) (ay : Nat), Ext aH aP → aH.heap.size ≤ ay → Box aP ay 47 [.string (Bs av), .string (Bs ax)] → 
∀ (_ : Box aP ay 47 [.string (Bs av), .string (Bs ax)]),
RunK Try.prog (Builtin.append_ #[23, 23] 23 #[Sl.v z, Sl.v (Sl.mk (some ⟨ay, 0, none⟩) 1 1)]) aP [m, f, g, u] (fun v bV => ∃ (a0 : Sl), v = Sl.v a0 ∧
(I64 (j + 1)) ∧
∀ (a1 : World), Chg [u] bV a1 →
aX (j + 1) a0 a1 ∧ aY (j + 1) a0 a1 < aY j z aD)) ∧
(((au = true) ∧ (¬ (aO ≠ aZ))) →
(I64 (j + 1)) ∧
aX (j + 1) z aG ∧ aY (j + 1) z aG < aY j z aD)) ∧
((¬ (j < (q.n : Int))) →
∃ (a2 : Int → Sl → World → Prop) (a3 : Int → Sl → World → Nat),
a2 0 Sl.nil aD ∧
(∀ (l : Int) (ab : Sl) (ad : World), a2 l ab ad →
((l < (s.n : Int)) →
∀ (aI : World), Chg [] ad aI →
∃ bo : Addr, (((0 : Int) ≤ l ∧ l < (s.n : Int)) ∧ s.a = some bo) ∧
∃ (bp : Str), (aI.cell? ((bo.add (l.toNat * 2)).add 0) = some (.string (Bs bp))) ∧
∃ (bq : Str) (aQ : Bool), (∀ w' : World, Ext aI w' → Calls Try.prog 13 #[Sl.v q, .string (Bs bp)] w' (Ret fun v w'' => Ext w' w'' ∧ v = .tuple #[.string (Bs bq), .bool aQ])) ∧
((aQ = false) →
∀ (aJ : World), Chg [] aI aJ →
∃ bt : Addr, (((0 : Int) ≤ l ∧ l < (s.n : Int)) ∧ s.a = some bt) ∧
∃ (az : Str), (aJ.cell? ((bt.add (l.toNat * 2)).add 0) = some (.string (Bs az))) ∧
∀ (aR : World) (aA : Nat), Ext aJ aR → aJ.heap.size ≤ aA → Box aR aA 9 [.string (Bs az)] → 
∀ (_ : Box aR aA 9 [.string (Bs az)]),
RunK Try.prog (Builtin.append_ #[41, 41] 41 #[Sl.v ab, Sl.v (Sl.mk (some ⟨aA, 0, none⟩) 1 1)]) aR [m, f, g, u] (fun v bX => ∃ (a4 : Sl), v = Sl.v a4 ∧
(I64 (l + 1)) ∧
∀ (a5 : World), Chg [u] bX a5 →
a2 (l + 1) a4 a5 ∧ a3 (l + 1) a4 a5 < a3 l ab ad)) ∧
((aQ = true) →
(I64 (l + 1)) ∧
∀ (a6 : World), Chg [] aI a6 →
a2 (l + 1) ab a6 ∧ a3 (l + 1) ab a6 < a3 l ab ad)) ∧
((¬ (l < (s.n : Int))) →
∃ (a7 : Sl), (ad.cell? (b.add 1) = some (Sl.v a7)) ∧
((0 : Int) ≤ d ∧ d < (a7.n : Int)) ∧ ∃ bu : Addr, a7.a = some bu ∧
∃ (a8 : Int), (ad.cell? ((bu.add (d.toNat * 15)).add 0) = some (.int .i64 a8)) ∧
∃ bv : Int → World → Prop,
(((0 ≤ a8) →
∃ (a9 : Sl), (ad.cell? (b.add 1) = some (Sl.v a9)) ∧
((0 : Int) ≤ d ∧ d < (a9.n : Int)) ∧ ∃ bz : Addr, a9.a = some bz ∧
∃ (bA : Int), (ad.cell? ((bz.add (d.toNat * 15)).add 0) = some (.int .i64 bA)) ∧
CallK Try.prog 67 #[.pointer (some b), .int .i64 bA] ad [m, u] (fun v bY => ∃ (bB : Int), v = .int .i64 bB ∧
∀ (bC : World), Chg [u] bY bC →
bv bB bC)) ∧
((¬ (0 ≤ a8)) →
bv (-1) ad)) ∧
(∀ (aS : Int) (bD : World), bv aS bD →
CallK Try.prog 68 #[.pointer (some b), .int .i64 d] bD [m, u] (fun v bZ => ∃ (bF : Sl), v = Sl.v bF ∧
∀ (bG : World), Chg [m, u] bZ bG →
R (.agg #[.bool false, .bool (decide (x ≠ y)), Sl.v z, Sl.v ab, .int .i64 aS, Sl.v bF]) bG)))))))
theorem ref25_C_slot.ok (b : Addr) (k : Int) {R : Value → World → Prop} {w : World} (ck : ref25_C_slot.vc b k R w) : Calls Try.prog 46 #[.pointer (some b), .int .i64 k] w (Ret R) := by
 refine go _ Try.func46 Try.ntmps46 ck ?_
 refine gS <| gR <| na ti_93 fun w4 m => ge <| tn <| gS <| gR ?_
 refine gM ?_
 refine g1 r_nilCheck ?_
 refine gF 2 Try.underlying91 ti_67 <| gT1 ?_
 refine gE fun bb => gL tU67 ?_
 refine gnP fun bd => ?_
 refine gF 0 Try.underlying74 ti_22 ?_
 refine gE fun aU => gL tU22 ?_
 refine gM ?_
 refine gI1 tU22 ti_3 fun bf => ?_
 refine gE fun d => gL tU3 ?_
 refine gN <| ge <| tn <| gS <| gS <| gR ?_
 refine gM ?_
 refine g2 r_lss <| ge <| tn ?_
 refine gi dT dF ?_ ?_
 ·refine gS <| gR <| gbK #[.bool true, .bool false, Sl.v Sl.nil, Sl.v Sl.nil, .int .i64 0, Sl.v Sl.nil] ti_93 Try.underlying93 pl_93 ?_
  refine wo 0 ti_93 fun bg => ge <| tn <| gr <| tr <| gT0 ?_
  exact gzB 0 Try.underlying93 ti_93
 ·refine gk <| tn <| gS ?_
  intro dl b0 cl
  have o := b0.ag
  have cm := b0.bx 0 rfl
  let bH : List (List Nat) := [[], [0], [0, 1], [0, 1, 2], [], [0, 1, 2, 3, 4], [0, 1, 2, 3, 4, 5], [0, 1, 2, 3, 4, 5, 6], [], [8], [8, 9], [8, 9, 10], [], [8, 9, 10, 11, 12], [8, 9, 10, 11, 12, 13], [8, 9, 10, 11, 12, 13, 14], [], [], [0, 1, 2, 3, 4, 5, 6, 7, 16, 17], [0, 1, 2, 3, 4, 5, 6, 7, 8, 9, 10, 11, 12, 13, 14, 15, 16, 17, 18]]
  refine draw' (by kernel_rfl) fun r b1 => ?_
  have bI := cm.ext b1
  have cn : Chg [] w4 r := b1
  have co := cl r    cn
  obtain ⟨al, bJ, cp⟩ := co
  obtain ⟨ah, ba, cq⟩ := cp
  obtain ⟨am, an, x, s, ao, bK, cr⟩ := cq
  obtain ⟨ak, bL, ct⟩ := cr
  obtain ⟨aa, aK, cu⟩ := ct
  obtain ⟨ap, aq, y, q, ar, bM, cv⟩ := cu
  refine startF (D := bH) (Fs := [0, 1, 2, 3, 4, 5, 6, 7, 8, 9, 10, 11, 12, 13, 14, 15]) (Ef := [(0, fun v _ => v = .pointer (some b)), (1, fun v _ => v = .pointer (some b)), (2, fun v _ => v = .pointer (some (b.add 0))), (3, fun v _ => v = Sl.v al), (4, fun v _ => v = .int .i64 k), (5, fun v _ => v = .pointer (some (ah.add (k.toNat * 15)))), (6, fun v _ => v = .pointer (some ((ah.add (k.toNat * 15)).add 5))), (7, fun v _ => v = .agg #[.int .i64 am, .string (Bs an), .string (Bs x), Sl.v s, Sl.v ao]), (8, fun v _ => v = .pointer (some b)), (9, fun v _ => v = .pointer (some b)), (10, fun v _ => v = .pointer (some (b.add 1))), (11, fun v _ => v = Sl.v ak), (12, fun v _ => v = .int .i64 d), (13, fun v _ => v = .pointer (some (aa.add (d.toNat * 15)))), (14, fun v _ => v = .pointer (some ((aa.add (d.toNat * 15)).add 5))), (15, fun v _ => v = .agg #[.int .i64 ap, .string (Bs aq), .string (Bs y), Sl.v q, Sl.v ar])]) (by kernel_rfl) ?_
  refine parFN (D := bH) (S := [16, 17]) (F := []) (KE := [16, 17]) (N := [16, 17]) (E := [(16, fun v w' => ∃ f : Nat, r.heap.size ≤ f ∧ Box w' f 26 [.int .i64 0, .string (Bs []), .string (Bs []), Sl.v Sl.nil, Sl.v Sl.nil] ∧ v = pB f 0), (17, fun v w' => ∃ g : Nat, r.heap.size ≤ g ∧ Box w' g 26 [.int .i64 0, .string (Bs []), .string (Bs []), Sl.v Sl.nil, Sl.v Sl.nil] ∧ v = pB g 0)]) o rfl (by kernel_rfl) (blkF ⟨fun _ _ h => by obtain ⟨f, _, hB, rfl⟩ := h; exact hB.lt, fun _ _ h => by obtain ⟨g, _, hB, rfl⟩ := h; exact hB.lt, trivial⟩) ⟨fun _ _ _ hE ⟨f, h0_, h1_, e⟩ => ⟨f, h0_, (h1_.ext hE), e⟩, fun _ _ _ hE ⟨g, h0_, h1_, e⟩ => ⟨g, h0_, (h1_.ext hE), e⟩, fun _ _ _ _ h => h, fun _ _ _ _ h => h, fun _ _ _ _ h => h, fun _ _ _ _ h => h, fun _ _ _ _ h => h, fun _ _ _ _ h => h, fun _ _ _ _ h => h, fun _ _ _ _ h => h, fun _ _ _ _ h => h, fun _ _ _ _ h => h, fun _ _ _ _ h => h, fun _ _ _ _ h => h, fun _ _ _ _ h => h, fun _ _ _ _ h => h, fun _ _ _ _ h => h, fun _ _ _ _ h => h, trivial⟩ ⟨?_, ?_, ?_, ?_, ?_, ?_, ?_, ?_, ?_, ?_, ?_, ?_, ?_, ?_, ?_, ?_, ?_, ?_, trivial⟩ ?_
  ·intro a w hT
   have hAp := hT.ag o [] trivial (by kernel_rfl)
   exact opk_new (fun B => .pointer (some ⟨B, 0, none⟩)) hAp rfl (r_alloc (cs := [.int .i64 0, .string (Bs []), .string (Bs []), Sl.v Sl.nil, Sl.v Sl.nil]) ti_26 rfl) fun _ dm f cx b2 cy _ e => ⟨_, e, cx, fun _ => ⟨f, Nat.le_trans hT.chg.size b2.ge, cy, rfl⟩, fun _ => b2.ge⟩
  ·intro a w hT
   have hAp := hT.ag o [] trivial (by kernel_rfl)
   exact opk_new (fun B => .pointer (some ⟨B, 0, none⟩)) hAp rfl (r_alloc (cs := [.int .i64 0, .string (Bs []), .string (Bs []), Sl.v Sl.nil, Sl.v Sl.nil]) ti_26 rfl) fun _ dn g cz b3 cA _ e => ⟨_, e, cz, fun _ => ⟨g, Nat.le_trans hT.chg.size b3.ge, cA, rfl⟩, fun _ => b3.ge⟩
  ·intro a w hT
   refine overN_of rfl ?_
   have hAp := hT.ag o [(0, .pointer (some b))] ⟨rfl, trivial⟩ (by kernel_rfl)
   exact ovr hAp rfl (r_move (hAp.get rfl)) fun _ => Eq.refl _
  ·intro a w hT
   refine overN_of rfl ?_
   have hAp := hT.ag o [] trivial (by kernel_rfl)
   have hAp := hAp.add (t := 28) (v := .pointer (some b)) (hT.vals 0 rfl 28 rfl)
   exact ovr hAp rfl (r_nilCheck (hAp.get rfl)) fun _ => Eq.refl _
  ·intro a w hT
   refine overN_of rfl ?_
   have hAp := hT.ag o [] trivial (by kernel_rfl)
   have hAp := hAp.add (t := 29) (v := .pointer (some b)) (hT.vals 1 rfl 29 rfl)
   exact ovr hAp rfl (r_fieldAddr (hAp.get rfl) Try.underlying91 rfl ti_31 (by decide)) fun _ => Eq.refl _
  ·intro a w hT
   refine overN_of rfl ?_
   have hAp := hT.ag o [] trivial (by kernel_rfl)
   have hAp := hAp.add (t := 30) (v := .pointer (some (b.add 0))) (hT.vals 2 rfl 30 rfl)
   exact ovr hAp rfl (r_load1 tU31 rfl (hAp.get rfl) (Ext.cell hT.chg bJ)) fun _ => Eq.refl _
  ·intro a w hT
   refine overN_of rfl ?_
   have hAp := hT.ag o [(1, .int .i64 k)] ⟨rfl, trivial⟩ (by kernel_rfl)
   exact ovr hAp rfl (r_move (hAp.get rfl)) fun _ => Eq.refl _
  ·intro a w hT
   refine overN_of rfl ?_
   have hAp := hT.ag o [] trivial (by kernel_rfl)
   have hAp := hAp.add (t := 31) (v := Sl.v al) (hT.vals 3 rfl 31 rfl)
   have hAp := hAp.add (t := 32) (v := .int .i64 k) (hT.vals 4 rfl 32 rfl)
   exact ovr hAp rfl (r_indexAddr (hAp.get rfl) (hAp.get rfl) tU31 ti_38 ba.1 ba.2) fun _ => Eq.refl _
  ·intro a w hT
   refine overN_of rfl ?_
   have hAp := hT.ag o [] trivial (by kernel_rfl)
   have hAp := hAp.add (t := 33) (v := .pointer (some (ah.add (k.toNat * 15)))) (hT.vals 5 rfl 33 rfl)
   exact ovr hAp rfl (r_fieldAddr (hAp.get rfl) Try.underlying38 rfl ti_26 (by decide)) fun _ => Eq.refl _
  ·intro a w hT
   refine overN_of rfl ?_
   have hAp := hT.ag o [] trivial (by kernel_rfl)
   have hAp := hAp.add (t := 34) (v := .pointer (some ((ah.add (k.toNat * 15)).add 5))) (hT.vals 6 rfl 34 rfl)
   exact ovr hAp rfl (r_loadN Try.underlying26 rfl ti_26 (hAp.get rfl) (bK.ext hT.chg)) fun _ => Eq.refl _
  ·intro a w hT
   refine overN_of rfl ?_
   have hAp := hT.ag o [(0, .pointer (some b))] ⟨rfl, trivial⟩ (by kernel_rfl)
   exact ovr hAp rfl (r_move (hAp.get rfl)) fun _ => Eq.refl _
  ·intro a w hT
   refine overN_of rfl ?_
   have hAp := hT.ag o [] trivial (by kernel_rfl)
   have hAp := hAp.add (t := 36) (v := .pointer (some b)) (hT.vals 8 rfl 36 rfl)
   exact ovr hAp rfl (r_nilCheck (hAp.get rfl)) fun _ => Eq.refl _
  ·intro a w hT
   refine overN_of rfl ?_
   have hAp := hT.ag o [] trivial (by kernel_rfl)
   have hAp := hAp.add (t := 37) (v := .pointer (some b)) (hT.vals 9 rfl 37 rfl)
   exact ovr hAp rfl (r_fieldAddr (hAp.get rfl) Try.underlying91 rfl ti_31 (by decide)) fun _ => Eq.refl _
  ·intro a w hT
   refine overN_of rfl ?_
   have hAp := hT.ag o [] trivial (by kernel_rfl)
   have hAp := hAp.add (t := 38) (v := .pointer (some (b.add 1))) (hT.vals 10 rfl 38 rfl)
   exact ovr hAp rfl (r_load1 tU31 rfl (hAp.get rfl) (Ext.cell hT.chg bL)) fun _ => Eq.refl _
  ·intro a w hT
   refine overN_of rfl ?_
   have hAp := hT.ag o [(5, .int .i64 d)] ⟨rfl, trivial⟩ (by kernel_rfl)
   exact ovr hAp rfl (r_move (hAp.get rfl)) fun _ => Eq.refl _
  ·intro a w hT
   refine overN_of rfl ?_
   have hAp := hT.ag o [] trivial (by kernel_rfl)
   have hAp := hAp.add (t := 39) (v := Sl.v ak) (hT.vals 11 rfl 39 rfl)
   have hAp := hAp.add (t := 40) (v := .int .i64 d) (hT.vals 12 rfl 40 rfl)
   exact ovr hAp rfl (r_indexAddr (hAp.get rfl) (hAp.get rfl) tU31 ti_38 aK.1 aK.2) fun _ => Eq.refl _
  ·intro a w hT
   refine overN_of rfl ?_
   have hAp := hT.ag o [] trivial (by kernel_rfl)
   have hAp := hAp.add (t := 41) (v := .pointer (some (aa.add (d.toNat * 15)))) (hT.vals 13 rfl 41 rfl)
   exact ovr hAp rfl (r_fieldAddr (hAp.get rfl) Try.underlying38 rfl ti_26 (by decide)) fun _ => Eq.refl _
  ·intro a w hT
   refine overN_of rfl ?_
   have hAp := hT.ag o [] trivial (by kernel_rfl)
   have hAp := hAp.add (t := 42) (v := .pointer (some ((aa.add (d.toNat * 15)).add 5))) (hT.vals 14 rfl 42 rfl)
   exact ovr hAp rfl (r_loadN Try.underlying26 rfl ti_26 (hAp.get rfl) (bM.ext hT.chg)) fun _ => Eq.refl _
  ·intro dp ai aB cB b4 cC
   have cD := cB [(0, .pointer (some b)), (1, .int .i64 k), (4, pB m 0), (5, .int .i64 d)] ⟨rfl, rfl, rfl, rfl, trivial⟩ (by kernel_rfl)
   obtain ⟨f, aL, bN, b5⟩ := b4 16 rfl 6 rfl
   have cF := cD.add b5
   obtain ⟨g, b6, b7, b8⟩ := b4 17 rfl 7 rfl
   have p := cF.add b8
   have bO : f ≠ g := by have h := cC 16 17 rfl 6 7 rfl rfl; rw [b5, b8] at h; exact h
   have cG := bI.ext aB
   have dq : Chg [] r ai := aB
   have b9 := Ext.cell aB bJ
   have ca := bK.ext aB
   have cb := Ext.cell aB bL
   have cc := bM.ext aB
   have cH := cv ai f g aB aL bN b6 b7
   have cd : m ≠ f := Nat.ne_of_lt (Nat.lt_of_lt_of_le bI.lt aL)
   have cf : m ≠ g := Nat.ne_of_lt (Nat.lt_of_lt_of_le bI.lt b6)
   refine oneF (c := 18) p rfl (by kernel_rfl) (constF ⟨fun _ _ _ h => h, fun _ _ _ h => h, fun _ _ _ h => h, fun _ _ _ h => h, fun _ _ _ h => h, fun _ _ _ h => h, fun _ _ _ h => h, fun _ _ _ h => h, fun _ _ _ h => h, fun _ _ _ h => h, fun _ _ _ h => h, fun _ _ _ h => h, fun _ _ _ h => h, fun _ _ _ h => h, fun _ _ _ h => h, fun _ _ _ h => h, trivial⟩) ⟨?_, ?_, ?_, ?_, ?_, ?_, ?_, ?_, ?_, ?_, ?_, ?_, ?_, ?_, ?_, ?_, trivial⟩ ?_
   ·intro a hT
    have hAp := hT.ag p [(0, .pointer (some b))] ⟨rfl, trivial⟩ (by kernel_rfl)
    exact opk_val hAp rfl (r_move (hAp.get rfl)) fun _ _ e => ⟨_, e, rfl, fun _ => Eq.refl _⟩
   ·intro a hT
    have hAp := hT.ag p [] trivial (by kernel_rfl)
    have hAp := hAp.add (t := 28) (v := .pointer (some b)) (hT.vals 0 rfl 28 rfl)
    exact opk_val hAp rfl (r_nilCheck (hAp.get rfl)) fun _ _ e => ⟨_, e, rfl, fun _ => Eq.refl _⟩
   ·intro a hT
    have hAp := hT.ag p [] trivial (by kernel_rfl)
    have hAp := hAp.add (t := 29) (v := .pointer (some b)) (hT.vals 1 rfl 29 rfl)
    exact opk_val hAp rfl (r_fieldAddr (hAp.get rfl) Try.underlying91 rfl ti_31 (by decide)) fun _ _ e => ⟨_, e, rfl, fun _ => Eq.refl _⟩
   ·intro a hT
    have hAp := hT.ag p [] trivial (by kernel_rfl)
    have hAp := hAp.add (t := 30) (v := .pointer (some (b.add 0))) (hT.vals 2 rfl 30 rfl)
    exact opk_val hAp rfl (r_load1 tU31 rfl (hAp.get rfl) (Ext.cell hT.chg b9)) fun _ _ e => ⟨_, e, rfl, fun _ => Eq.refl _⟩
   ·intro a hT
    have hAp := hT.ag p [(1, .int .i64 k)] ⟨rfl, trivial⟩ (by kernel_rfl)
    exact opk_val hAp rfl (r_move (hAp.get rfl)) fun _ _ e => ⟨_, e, rfl, fun _ => Eq.refl _⟩
   ·intro a hT
    have hAp := hT.ag p [] trivial (by kernel_rfl)
    have hAp := hAp.add (t := 31) (v := Sl.v al) (hT.vals 3 rfl 31 rfl)
    have hAp := hAp.add (t := 32) (v := .int .i64 k) (hT.vals 4 rfl 32 rfl)
    exact opk_val hAp rfl (r_indexAddr (hAp.get rfl) (hAp.get rfl) tU31 ti_38 ba.1 ba.2) fun _ _ e => ⟨_, e, rfl, fun _ => Eq.refl _⟩
   ·intro a hT
    have hAp := hT.ag p [] trivial (by kernel_rfl)
    have hAp := hAp.add (t := 33) (v := .pointer (some (ah.add (k.toNat * 15)))) (hT.vals 5 rfl 33 rfl)
    exact opk_val hAp rfl (r_fieldAddr (hAp.get rfl) Try.underlying38 rfl ti_26 (by decide)) fun _ _ e => ⟨_, e, rfl, fun _ => Eq.refl _⟩
   ·intro a hT
    have hAp := hT.ag p [] trivial (by kernel_rfl)
    have hAp := hAp.add (t := 34) (v := .pointer (some ((ah.add (k.toNat * 15)).add 5))) (hT.vals 6 rfl 34 rfl)
    exact opk_val hAp rfl (r_loadN Try.underlying26 rfl ti_26 (hAp.get rfl) (ca.ext hT.chg)) fun _ _ e => ⟨_, e, rfl, fun _ => Eq.refl _⟩
   ·intro a hT
    have hAp := hT.ag p [(0, .pointer (some b))] ⟨rfl, trivial⟩ (by kernel_rfl)
    exact opk_val hAp rfl (r_move (hAp.get rfl)) fun _ _ e => ⟨_, e, rfl, fun _ => Eq.refl _⟩
   ·intro a hT
    have hAp := hT.ag p [] trivial (by kernel_rfl)
    have hAp := hAp.add (t := 36) (v := .pointer (some b)) (hT.vals 8 rfl 36 rfl)
    exact opk_val hAp rfl (r_nilCheck (hAp.get rfl)) fun _ _ e => ⟨_, e, rfl, fun _ => Eq.refl _⟩
   ·intro a hT
    have hAp := hT.ag p [] trivial (by kernel_rfl)
    have hAp := hAp.add (t := 37) (v := .pointer (some b)) (hT.vals 9 rfl 37 rfl)
    exact opk_val hAp rfl (r_fieldAddr (hAp.get rfl) Try.underlying91 rfl ti_31 (by decide)) fun _ _ e => ⟨_, e, rfl, fun _ => Eq.refl _⟩
   ·intro a hT
    have hAp := hT.ag p [] trivial (by kernel_rfl)
    have hAp := hAp.add (t := 38) (v := .pointer (some (b.add 1))) (hT.vals 10 rfl 38 rfl)
    exact opk_val hAp rfl (r_load1 tU31 rfl (hAp.get rfl) (Ext.cell hT.chg cb)) fun _ _ e => ⟨_, e, rfl, fun _ => Eq.refl _⟩
   ·intro a hT
    have hAp := hT.ag p [(5, .int .i64 d)] ⟨rfl, trivial⟩ (by kernel_rfl)
    exact opk_val hAp rfl (r_move (hAp.get rfl)) fun _ _ e => ⟨_, e, rfl, fun _ => Eq.refl _⟩
   ·intro a hT
    have hAp := hT.ag p [] trivial (by kernel_rfl)
    have hAp := hAp.add (t := 39) (v := Sl.v ak) (hT.vals 11 rfl 39 rfl)
    have hAp := hAp.add (t := 40) (v := .int .i64 d) (hT.vals 12 rfl 40 rfl)
    exact opk_val hAp rfl (r_indexAddr (hAp.get rfl) (hAp.get rfl) tU31 ti_38 aK.1 aK.2) fun _ _ e => ⟨_, e, rfl, fun _ => Eq.refl _⟩
   ·intro a hT
    have hAp := hT.ag p [] trivial (by kernel_rfl)
    have hAp := hAp.add (t := 41) (v := .pointer (some (aa.add (d.toNat * 15)))) (hT.vals 13 rfl 41 rfl)
    exact opk_val hAp rfl (r_fieldAddr (hAp.get rfl) Try.underlying38 rfl ti_26 (by decide)) fun _ _ e => ⟨_, e, rfl, fun _ => Eq.refl _⟩
   ·intro a hT
    have hAp := hT.ag p [] trivial (by kernel_rfl)
    have hAp := hAp.add (t := 42) (v := .pointer (some ((aa.add (d.toNat * 15)).add 5))) (hT.vals 14 rfl 42 rfl)
    exact opk_val hAp rfl (r_loadN Try.underlying26 rfl ti_26 (hAp.get rfl) (cc.ext hT.chg)) fun _ _ e => ⟨_, e, rfl, fun _ => Eq.refl _⟩
   ·intro cI hT
    have cJ := hT.ag p [(0, .pointer (some b)), (1, .int .i64 k), (4, pB m 0), (5, .int .i64 d), (6, pB f 0), (7, pB g 0)] ⟨rfl, rfl, rfl, rfl, rfl, rfl, trivial⟩ (by kernel_rfl)
    have cK : cI.tmps.getD 35 undef = .agg #[.int .i64 am, .string (Bs an), .string (Bs x), Sl.v s, Sl.v ao] := hT.vals 7 rfl 35 rfl
    have bP := cJ.add cK
    refine opk_storeF bP bN (r_store (vs := [.int .i64 am, .string (Bs an), .string (Bs x), Sl.v s, Sl.v ao]) (bP.get rfl) (bP.get rfl) rfl ti_26 bN rfl (ones_all _ rfl)) fun cg aC cL cM => ⟨undef, Eq.refl _, ?_⟩
    have cN : Box cg f 26 [.int .i64 am, .string (Bs an), .string (Bs x), Sl.v s, Sl.v ao] := cL
    have cO := cG.keep aC (by simpa using cd)
    have cP := b7.keep aC (by simpa using bO.symm)
    have cQ : Chg [f] ai cg := aC
    have dr := Chg.cell aC b9 (cell_apart bJ aL)
    have ds := ca.chg aC (Cells.apart bK aL)
    have ch := Chg.cell aC cb (cell_apart bL aL)
    have ci := cc.chg aC (Cells.apart bM aL)
    refine PRF_drop (X := [0, 1, 2, 3, 4, 5, 6, 7]) (Fs' := [8, 9, 10, 11, 12, 13, 14, 15]) cM (by kernel_rfl) fun dt cR du => ?_
    have aj := cR [(0, .pointer (some b)), (4, pB m 0), (5, .int .i64 d), (6, pB f 0), (7, pB g 0)] ⟨rfl, rfl, rfl, rfl, rfl, trivial⟩ (by kernel_rfl)
    refine joinF aj (by kernel_rfl) ⟨fun _ _ _ _ h => h, fun _ _ _ _ h => h, fun _ _ _ _ h => h, fun _ _ _ _ h => h, fun _ _ _ _ h => h, fun _ _ _ _ h => h, fun _ _ _ _ h => h, fun _ _ _ _ h => h, trivial⟩ ⟨?_, ?_, ?_, ?_, ?_, ?_, ?_, ?_, trivial⟩ ?_
    ·intro a w hT
     have hAp := hT.ag aj [(0, .pointer (some b))] ⟨rfl, trivial⟩ (by kernel_rfl)
     exact ovr hAp rfl (r_move (hAp.get rfl)) fun _ => Eq.refl _
    ·intro a w hT
     have hAp := hT.ag aj [] trivial (by kernel_rfl)
     have hAp := hAp.add (t := 36) (v := .pointer (some b)) (hT.vals 8 rfl 36 rfl)
     exact ovr hAp rfl (r_nilCheck (hAp.get rfl)) fun _ => Eq.refl _
    ·intro a w hT
     have hAp := hT.ag aj [] trivial (by kernel_rfl)
     have hAp := hAp.add (t := 37) (v := .pointer (some b)) (hT.vals 9 rfl 37 rfl)
     exact ovr hAp rfl (r_fieldAddr (hAp.get rfl) Try.underlying91 rfl ti_31 (by decide)) fun _ => Eq.refl _
    ·intro a w hT
     have hAp := hT.ag aj [] trivial (by kernel_rfl)
     have hAp := hAp.add (t := 38) (v := .pointer (some (b.add 1))) (hT.vals 10 rfl 38 rfl)
     exact ovr hAp rfl (r_load1 tU31 rfl (hAp.get rfl) (Ext.cell hT.chg ch)) fun _ => Eq.refl _
    ·intro a w hT
     have hAp := hT.ag aj [(5, .int .i64 d)] ⟨rfl, trivial⟩ (by kernel_rfl)
     exact ovr hAp rfl (r_move (hAp.get rfl)) fun _ => Eq.refl _
    ·intro a w hT
     have hAp := hT.ag aj [] trivial (by kernel_rfl)
     have hAp := hAp.add (t := 39) (v := Sl.v ak) (hT.vals 11 rfl 39 rfl)
     have hAp := hAp.add (t := 40) (v := .int .i64 d) (hT.vals 12 rfl 40 rfl)
     exact ovr hAp rfl (r_indexAddr (hAp.get rfl) (hAp.get rfl) tU31 ti_38 aK.1 aK.2) fun _ => Eq.refl _
    ·intro a w hT
     have hAp := hT.ag aj [] trivial (by kernel_rfl)
     have hAp := hAp.add (t := 41) (v := .pointer (some (aa.add (d.toNat * 15)))) (hT.vals 13 rfl 41 rfl)
     exact ovr hAp rfl (r_fieldAddr (hAp.get rfl) Try.underlying38 rfl ti_26 (by decide)) fun _ => Eq.refl _
    ·intro a w hT
     have hAp := hT.ag aj [] trivial (by kernel_rfl)
     have hAp := hAp.add (t := 42) (v := .pointer (some ((aa.add (d.toNat * 15)).add 5))) (hT.vals 14 rfl 42 rfl)
     exact ovr hAp rfl (r_loadN Try.underlying26 rfl ti_26 (hAp.get rfl) (ci.ext hT.chg)) fun _ => Eq.refl _
    ·intro cS dv aM cT cU
     have cX := cT [(0, .pointer (some b)), (4, pB m 0), (5, .int .i64 d), (6, pB f 0), (7, pB g 0)] ⟨rfl, rfl, rfl, rfl, rfl, trivial⟩ (by kernel_rfl)
     have cY : cS.tmps.getD 43 undef = .agg #[.int .i64 ap, .string (Bs aq), .string (Bs y), Sl.v q, Sl.v ar] := cU 15 rfl 43 rfl
     have bQ := cX.add cY
     have cZ := cO.ext aM
     have c0 := cN.ext aM
     have cj := cP.ext aM
     have c1 := cQ.more aM
     have dx := Ext.cell aM ch
     have dy := ci.ext aM
     refine one (D := bH) (i := 19) rfl (by kernel_rfl) (opk_store bQ cj (r_store (vs := [.int .i64 ap, .string (Bs aq), .string (Bs y), Sl.v q, Sl.v ar]) (bQ.get rfl) (bQ.get rfl) rfl ti_26 cj rfl (ones_all _ rfl)) fun dz c2 bR c3 c4 => ?_)
     have c5 : Box c2 g 26 [.int .i64 ap, .string (Bs aq), .string (Bs y), Sl.v q, Sl.v ar] := c3
     have c6 := cZ.keep bR (by simpa using cf)
     have c7 := c0.keep bR (by simpa using bO)
     have c8 := c1.storeOld bR
     refine PR_end (by kernel_rfl) ?_
     have c9 := c4.kp [(0, .pointer (some b)), (4, pB m 0), (5, .int .i64 d), (6, pB f 0), (7, pB g 0)] rfl
     refine gK (bs := [(g, 26, [.int .i64 ap, .string (Bs aq), .string (Bs y), Sl.v q, Sl.v ar]), (f, 26, [.int .i64 am, .string (Bs an), .string (Bs x), Sl.v s, Sl.v ao]), (m, 93, [.bool false, .bool false, Sl.v Sl.nil, Sl.v Sl.nil, .int .i64 0, Sl.v Sl.nil])]) (N := []) c9 c8 ⟨c5, c7, c6, trivial⟩ (by simp [(Ne.symm bO), (Ne.symm cf), (Ne.symm cd)]) trivial (by simp) cH ?_
     refine tn <| gS <| gR <| gF 2 Try.underlying26 ti_9 ?_
     refine gB 1 tU9 ?_
     refine gF 2 Try.underlying26 ti_9 ?_
     refine gB 0 tU9 ?_
     refine g2 r_sneq ?_
     refine gbK #[.bool false, .bool (decide (x ≠ y)), Sl.v Sl.nil, Sl.v Sl.nil, .int .i64 (-1), Sl.v Sl.nil] ti_93 Try.underlying93 pl_93 ?_
     refine na ti_93 fun dA u => ?_
     refine wn 0 0 ti_93 fun aV => ge <| tn <| gS <| gS <| gR ?_
     refine gN <| ge <| tn <| gb <| gT1 <| gE fun _ => gE fun mu => ?_
     refine l2 mu (fun j _ => [(9, .int .i64 j)]) [(0, _), (4, _), (5, _), (6, _), (7, _), (8, _)] (fun _ z => [(u, 93, [.bool false, .bool (decide (x ≠ y)), Sl.v z, Sl.v Sl.nil, .int .i64 (-1), Sl.v Sl.nil])]) [(m, _, _), (f, _, _), (g, _, _)] [0, 3, 2, 1] fun j z aD _ => gS <| gS <| gR ?_
     refine gM ?_
     refine gF 3 Try.underlying26 ti_23 ?_
     refine gB 3 tU23 ?_
     refine g1 (fun bS => r_len bS tU23) ?_
     refine g2 r_lss <| ge <| tn ?_
     refine gi dT dF ?_ ?_
     ·refine gk <| tn <| gS <| gb <| gS <| gD fun aN => gT0 <| gE fun bi => gA fun da => gE fun bj => gA fun db => gE fun aO => gE fun au => gA fun dc => ?_
      refine gW 0 14 [(8, rsU (.tuple #[.string (Bs aO), .bool au]))] ?_
      refine gF 3 Try.underlying26 ti_23 ?_
      refine gB 2 tU23 ?_
      refine gF 3 Try.underlying26 ti_23 ?_
      refine gB 3 tU23 ?_
      refine gM ?_
      refine gIx tU23 ti_47 da ?_
      refine gF 0 Try.underlying47 ti_9 ?_
      refine gP db <| gL tU9 ?_
      refine yc rfl Try.func13 (fun w' hE _ => dc w' hE) (fun _ _ h => ⟨(), h, trivial⟩) fun _ => ?_
      refine gM ?_
      refine gx1 ?_
      refine gx1 ?_
      refine gN ?_
      refine gN ?_
      refine eT fun aG => ?_
      refine gZ <| tn <| gS <| gR ?_
      refine gM ?_
      refine g1 r_not ?_
      refine gM ?_
      refine G1 r_move ?_
      refine GF 3 Try.underlying26 ti_23 ?_
      refine GB 3 tU23 ?_
      refine G1 r_move ?_
      refine GI2 tU23 ti_47 (fun hg => (nF (g_f hg))) fun bk => ?_
      refine GF 1 Try.underlying47 ti_9 <| gT0 ?_
      refine gE fun aZ => GLd tU9 (fun hg => (nF (g_f hg))) ?_
      refine G2 r_sneq ?_
      refine gpo <| ge <| tn ?_
      refine gi (fun h => ((oT h).imp (fun h => (nT h)) (fun h => (dT h)))) (fun h => ⟨(nF (oF h).1), (dF (oF h).2)⟩) ?_ ?_
      ·refine gD fun aH => gT0 <| gE fun bl => gA fun dd => gE fun av => gE fun ax => gA fun df => ?_
       refine gW 0 8 [(7, rsB aH (fun B => .slice (some ⟨B, 0, none⟩) 1 1) 47 [.string (Bs av), .string (Bs ax)])] ?_
       refine gF 2 Try.underlying93 ti_23 ?_
       refine gB 0 tU23 ?_
       refine gF 3 Try.underlying26 ti_23 ?_
       refine gB 3 tU23 ?_
       refine gM ?_
       refine gIx tU23 ti_47 dd ?_
       refine gP df <| gLN Try.underlying47 ti_47 ?_
       refine yn (fun B => .slice (some ⟨B, 0, none⟩) 1 1) (cs := [.string (Bs av), .string (Bs ax)]) rfl (fun _ hA _ => r_buildSlice ((OPs.of rfl : OPs _ true _ _).map hA rfl) tU23 ti_47 rfl rfl (by kernel_rfl)) (fun _ _ B _ _ _ h1 h2 => ⟨B, rfl, h1, h2⟩) fun ay => ?_
       refine eB (B := ay) (T := 47) (cs := [.string (Bs av), .string (Bs ax)]) (fun _ hF => ⟨hF.1.1, hF.1.2⟩) (fun v w' hE hF => v w' ay hE hF.1.1 hF.1.2) fun aP => ?_
       refine gO 8 ?_
       refine gX 0 ?_
       refine gR2 [2, 3, 4, 1] r_append fun _ bV => gE fun a0 => gQ <| geO ?_
       refine gW 9 1 [] ?_
       refine gF 2 Try.underlying93 ti_23 <| geT fun dB => ?_
       refine gO 10 ?_
       refine wo 3 ti_23 fun a1 => geO ?_
       refine gZ <| bn <| tn <| gR ?_
       refine gM ?_
       refine g2s r_addI ?_
       refine gN <| ge <| gT0 ?_
       exact k2 [3, 0, 1, 2]
      ·refine gk <| bn <| tn <| gR <| gM ?_
       refine g2s r_addI ?_
       refine gN <| ge ?_
       exact k2 [0, 1, 2, 3]
     ·refine gx <| te <| te <| bh <| tn <| gS <| gS <| gR <| gN <| ge <| tn <| gb <| gE fun _ => gE fun mu => ?_
      refine l2 mu (fun l _ => [(12, .int .i64 l)]) [(0, _), (4, _), (5, _), (6, _), (7, _), (8, _)] (fun _ ab => [(u, 93, [.bool false, .bool (decide (x ≠ y)), Sl.v z, Sl.v ab, .int .i64 (-1), Sl.v Sl.nil])]) [(m, _, _), (f, _, _), (g, _, _)] [0, 1, 2, 3] fun l ab ad _ => gS <| gS <| gR ?_
      refine gM ?_
      refine gF 3 Try.underlying26 ti_23 ?_
      refine gB 2 tU23 ?_
      refine g1 (fun bS => r_len bS tU23) ?_
      refine g2 r_lss <| ge <| tn ?_
      refine gi dT dF ?_ ?_
      ·refine gk <| tn <| gS <| gb <| gS <| gD fun aI => gT0 <| gE fun bo => gA fun dg => gE fun bp => gA fun dh => gE fun bq => gE fun aQ => gA fun di => ?_
       refine gW 0 14 [(8, rsU (.tuple #[.string (Bs bq), .bool aQ]))] ?_
       refine gF 3 Try.underlying26 ti_23 ?_
       refine gB 3 tU23 ?_
       refine gF 3 Try.underlying26 ti_23 ?_
       refine gB 2 tU23 ?_
       refine gM ?_
       refine gIx tU23 ti_47 dg ?_
       refine gF 0 Try.underlying47 ti_9 ?_
       refine gP dh <| gL tU9 ?_
       refine yc rfl Try.func13 (fun w' hE _ => di w' hE) (fun _ _ h => ⟨(), h, trivial⟩) fun _ => ?_
       refine gM ?_
       refine gx1 ?_
       refine gx1 ?_
       refine gN ?_
       refine gN ?_
       refine eT fun a6 => ?_
       refine gZ <| tn <| gS <| gR ?_
       refine gM ?_
       refine g1 r_not <| ge <| tn ?_
       refine gi nT nF ?_ ?_
       ·refine gD fun aJ => gT0 <| gE fun bt => gA fun dj => gE fun az => gA fun dk => ?_
        refine gW 0 9 [(8, rsB aJ (fun B => .slice (some ⟨B, 0, none⟩) 1 1) 9 [.string (Bs az)])] ?_
        refine gF 3 Try.underlying93 ti_41 ?_
        refine gB 0 tU41 ?_
        refine gF 3 Try.underlying26 ti_23 ?_
        refine gB 2 tU23 ?_
        refine gM ?_
        refine gIx tU23 ti_47 dj ?_
        refine gF 0 Try.underlying47 ti_9 ?_
        refine gP dk <| gL tU9 ?_
        refine yn (fun B => .slice (some ⟨B, 0, none⟩) 1 1) (cs := [.string (Bs az)]) rfl (fun _ hA _ => r_buildSlice ((OPs.of rfl : OPs _ true _ _).map hA rfl) tU41 ti_9 rfl rfl (by kernel_rfl)) (fun _ _ B _ _ _ h1 h2 => ⟨B, rfl, h1, h2⟩) fun aA => ?_
        refine eB (B := aA) (T := 9) (cs := [.string (Bs az)]) (fun _ hF => ⟨hF.1.1, hF.1.2⟩) (fun v w' hE hF => v w' aA hE hF.1.1 hF.1.2) fun aR => ?_
        refine gO 9 ?_
        refine gX 0 ?_
        refine gR2 [2, 3, 4, 1] r_append fun _ bX => gE fun a4 => gQ <| geO ?_
        refine gW 10 1 [] ?_
        refine gF 3 Try.underlying93 ti_41 <| geT fun dC => ?_
        refine gO 11 ?_
        refine wo 3 ti_41 fun a5 => geO ?_
        refine gZ <| bn <| tn <| gR ?_
        refine gM ?_
        refine g2s r_addI ?_
        refine gN <| ge <| gT0 ?_
        exact k2 [3, 0, 1, 2]
       ·refine gk <| bn <| tn <| gR <| gM ?_
        refine g2s r_addI ?_
        refine gN <| ge <| gT0 ?_
        exact k2 [0, 1, 2, 3]
      ·refine gx <| te <| te <| bh <| tn <| gS <| gS <| gR <| gM ?_
       refine g1 r_nilCheck ?_
       refine gF 1 Try.underlying91 ti_31 ?_
       refine gE fun a7 => gL tU31 ?_
       refine gM ?_
       refine gI1 tU31 ti_38 fun bu => ?_
       refine gF 0 Try.underlying38 ti_3 ?_
       refine gE fun a8 => gL tU3 ?_
       refine g2 r_geq <| ge <| tn <| gE fun J => ?_
       refine m1 (fun _ => []) [(0, _), (4, _), (5, _), (8, _)] (fun aS => [(u, 93, [.bool false, .bool (decide (x ≠ y)), Sl.v z, Sl.v ab, .int .i64 aS, Sl.v Sl.nil])]) [(m, _, _)] [0, 1] ?_ fun aS bD _ => ?_
       ·refine gi dT dF ?_ ?_
        ·refine gR <| gM ?_
         refine gM ?_
         refine g1 r_nilCheck ?_
         refine gF 1 Try.underlying91 ti_31 ?_
         refine gE fun a9 => gL tU31 ?_
         refine gM ?_
         refine gI1 tU31 ti_38 fun bz => ?_
         refine gF 0 Try.underlying38 ti_3 ?_
         refine gE fun bA => gL tU3 ?_
         refine gC [1, 0] Try.func67 fun _ bY => gE fun bB => gQ ?_
         refine gF 4 Try.underlying93 ti_3 ?_
         refine wo 1 ti_3 fun bC => ge <| gT0 ?_
         exact j1 [1, 0]
        ·exact gk <| j1 [0, 1]
       ·refine tn <| gS <| gR <| gM ?_
        refine gM ?_
        refine gC [1, 0] Try.func68 fun _ bZ => gE fun bF => gQ ?_
        refine gF 5 Try.underlying93 ti_22 ?_
        refine wo 0 ti_22 fun dD => ge <| tn <| gS <| gR ?_
        refine gBN 0 6 Try.underlying93 ti_93 ?_
        refine wo 1 ti_93 fun bG => ge <| tn <| gr <| gT0 ?_
        exact gzB 1 Try.underlying93 ti_93
def ref25_Touched.vc (d : Sl) (c : Sl) (b : Int) (R : Value → World → Prop) (w : World) : Prop :=
∃ t : Addr, (((((¬ (b < 0)) ∧ (¬ ((d.n : Int) ≤ b))) ∧ (¬ ((c.n : Int) ≤ b)))) → ((0 : Int) ≤ b ∧ b < (c.n : Int)) ∧  c.a = some t) ∧
∃ (q : Bool), (((((¬ (b < 0)) ∧ (¬ ((d.n : Int) ≤ b))) ∧ (¬ ((c.n : Int) ≤ b)))) → w.cell? ((t.add (b.toNat * 6)).add 0) = some (.bool q)) ∧
(((((b < 0) ∨ ((d.n : Int) ≤ b)) ∨ ((c.n : Int) ≤ b)) ∨ (q = true)) →
R (.bool false) w) ∧
(((((¬ (b < 0)) ∧ (¬ ((d.n : Int) ≤ b))) ∧ (¬ ((c.n : Int) ≤ b))) ∧ (q = false)) →
((0 : Int) ≤ b ∧ b < (c.n : Int)) ∧ ∃ u : Addr, c.a = some u ∧
∃ (aa : Bool) (f : Bool) (g : Sl) (i : Sl) (k : Int) (x : Sl), (Cells w (u.add (b.toNat * 6)) [.bool aa, .bool f, Sl.v g, Sl.v i, .int .i64 k, Sl.v x]) ∧
∀ (m : World) (ab : Nat), New w ab m → Chg [] w m →
∃ y : Addr, (((((f = false) ∧ (¬ (0 < (g.n : Int)))) ∧ (¬ (0 < (i.n : Int))))) → ((0 : Int) ≤ b ∧ b < (d.n : Int)) ∧ d.a = some y) ∧
∃ (l : Int), (((((f = false) ∧ (¬ (0 < (g.n : Int)))) ∧ (¬ (0 < (i.n : Int))))) → m.cell? ((y.add (b.toNat * 15)).add 0) = some (.int .i64 l)) ∧
∃ p : Sl → World → Prop, (∀ j : Sl, ∀ w' w'' : World, Ext w' w'' → p j w' → p j w'') ∧
((((((f = false) ∧ (¬ (0 < (g.n : Int)))) ∧ (¬ (0 < (i.n : Int)))) ∧ (¬ (k ≠ l)))) → ∀ w' : World, Ext m w' → Calls Try.prog 17 #[Sl.v d, .int .i64 b] w' (Ret fun v w'' => Ext w' w'' ∧ ∃ j : Sl, v = Sl.v j ∧ p j w'')) ∧
∃ (r : Bool), ((((((f = false) ∧ (¬ (0 < (g.n : Int)))) ∧ (¬ (0 < (i.n : Int)))) ∧ (¬ (k ≠ l)))) → ∀ j : Sl, ∀ w' : World, Ext m w' → ((((((f = false) ∧ (¬ (0 < (g.n : Int)))) ∧ (¬ (0 < (i.n : Int)))) ∧ (¬ (k ≠ l)))) → p j w') → Calls Try.prog 70 #[Sl.v x, Sl.v j] w' (Ret fun v w'' => Ext w' w'' ∧ v = .bool r)) ∧
∀ (z : World), Chg [] m z →
R (.bool ((((f || (decide (0 < (g.n : Int)))) || (decide (0 < (i.n : Int)))) || (decide (k ≠ l))) || (!r))) z)
theorem ref25_Touched.ok (d : Sl) (c : Sl) (b : Int) {R : Value → World → Prop} {w : World} (ad : ref25_Touched.vc d c b R w) : Calls Try.prog 48 #[Sl.v d, Sl.v c, .int .i64 b] w (Ret R) := by
 refine go _ Try.func48 Try.ntmps48 ad ?_
 refine gS <| gR <| gN <| ge <| tn <| gS <| gS <| gR ?_
 refine gM ?_
 refine g2 r_lss ?_
 refine gM ?_
 refine G1 r_move ?_
 refine G1 r_move ?_
 refine G1 (fun o => r_len o tU31) ?_
 refine G2 r_geq ?_
 refine gpo ?_
 refine gM ?_
 refine G1 r_move ?_
 refine G1 r_move ?_
 refine G1 (fun o => r_len o tU89) ?_
 refine G2 r_geq ?_
 refine gpo ?_
 refine gM ?_
 refine G1 r_move ?_
 refine G1 r_move ?_
 refine GI2 tU89 ti_93 (fun hg => ⟨⟨(dF (oF (oF (g_f hg)).1).1), (dF (oF (oF (g_f hg)).1).2)⟩, (dF (oF (g_f hg)).2)⟩) fun t => ?_
 refine GF 0 Try.underlying93 ti_4 ?_
 refine gE fun q => GLd tU4 (fun hg => ⟨⟨(dF (oF (oF (g_f hg)).1).1), (dF (oF (oF (g_f hg)).1).2)⟩, (dF (oF (g_f hg)).2)⟩) ?_
 refine gpo <| ge <| tn ?_
 refine gi (fun h => ((oT h).imp (fun h => ((oT h).imp (fun h => ((oT h).imp (fun h => (dT h)) (fun h => (dT h)))) (fun h => (dT h)))) (fun h => h))) (fun h => ⟨⟨⟨(dF (oF (oF (oF h).1).1).1), (dF (oF (oF (oF h).1).1).2)⟩, (dF (oF (oF h).1).2)⟩, (oF h).2⟩) ?_ ?_
 ·refine gS <| gR <| gN <| ge <| tn <| gr <| tr ?_
  exact gz1
 ·refine gk <| tn <| gS <| gR <| gM ?_
  refine gM ?_
  refine gI1 tU89 ti_93 fun u => ?_
  refine gE fun aa => gE fun f => gE fun g => gE fun i => gE fun k => gE fun x => gLN Try.underlying93 ti_93 ?_
  refine na ti_93 fun ak ab => ?_
  refine wn 0 0 ti_93 fun al => ge <| tn <| gS ?_
  refine gD fun m => gT1 <| gE fun y => gA fun af => gE fun l => gA fun ag => gE fun p => gA fun ah => gA fun ai => gE fun r => gA fun aj => ?_
  refine gW 0 34 [(29, rsG (true && ((((f || (decide (0 < (g.n : Int)))) || (decide (0 < (i.n : Int)))) || (decide (k ≠ l))) == false)) (α := Sl) default (fun s => Sl.v s) (fun s w => p s w) (ah)), (30, rsG (true && ((((f || (decide (0 < (g.n : Int)))) || (decide (0 < (i.n : Int)))) || (decide (k ≠ l))) == false)) () (fun _ => .bool r) (fun _ _ => True) (fun _ _ _ _ _ => trivial))] ?_
  refine gF 1 Try.underlying93 ti_4 ?_
  refine gB 0 tU4 ?_
  refine gM ?_
  refine GF 2 Try.underlying93 ti_23 ?_
  refine GB 0 tU23 ?_
  refine G1 (fun o => r_len o tU23) ?_
  refine G2 r_gtr ?_
  refine gpo ?_
  refine gM ?_
  refine GF 3 Try.underlying93 ti_41 ?_
  refine GB 0 tU41 ?_
  refine G1 (fun o => r_len o tU41) ?_
  refine G2 r_gtr ?_
  refine gpo ?_
  refine gM ?_
  refine GF 4 Try.underlying93 ti_3 ?_
  refine GB 0 tU3 ?_
  refine G1 r_move ?_
  refine G1 r_move ?_
  refine GIx tU31 ti_38 (fun hg => af ⟨⟨(oF (oF (g_f hg)).1).1, (dF (oF (oF (g_f hg)).1).2)⟩, (dF (oF (g_f hg)).2)⟩) ?_
  refine GF 0 Try.underlying38 ti_3 ?_
  refine gP ag <| GLd tU3 (fun hg => ⟨⟨(oF (oF (g_f hg)).1).1, (dF (oF (oF (g_f hg)).1).2)⟩, (dF (oF (g_f hg)).2)⟩) ?_
  refine G2 r_neq ?_
  refine gpo ?_
  refine gM ?_
  refine GF 5 Try.underlying93 ti_22 ?_
  refine GB 0 tU22 ?_
  refine G1 r_move ?_
  refine G1 r_move ?_
  refine YC rfl Try.func17 (fun hg w' hE _ => ai ⟨⟨⟨(oF (oF (oF (g_f hg)).1).1).1, (dF (oF (oF (oF (g_f hg)).1).1).2)⟩, (dF (oF (oF (g_f hg)).1).2)⟩, (dF (oF (g_f hg)).2)⟩ w' hE) (fun _ _ h => h) fun j => ?_
  refine YC rfl Try.func70 (fun hg w' hE hF => aj ⟨⟨⟨(oF (oF (oF (g_f hg)).1).1).1, (dF (oF (oF (oF (g_f hg)).1).1).2)⟩, (dF (oF (oF (g_f hg)).1).2)⟩, (dF (oF (g_f hg)).2)⟩ j w' hE (fun hp => (hF.1 (by kernel_rfl)) (g_mkf rfl (b_or_mkf ⟨(b_or_mkf ⟨(b_or_mkf ⟨hp.1.1.1, (decide_eq_false hp.1.1.2)⟩), (decide_eq_false hp.1.2)⟩), (decide_eq_false hp.2)⟩)))) (fun _ _ h => ⟨(), h, trivial⟩) fun _ => ?_
  refine G1 r_not ?_
  refine gpo ?_
  refine gN ?_
  refine eT fun z => ?_
  refine gZ <| tn <| gr <| gT0 ?_
  exact gz1
def ref25_C_id.vc (c : Addr) (b : Int) (R : Value → World → Prop) (w : World) : Prop :=
∃ (h : Option Addr), (w.cell? (c.add 2) = some (.pointer h)) ∧
∃ i : Addr, (h = some i) ∧
∃ (d : Sl), (w.cell? (i.add 1) = some (Sl.v d)) ∧
((0 : Int) ≤ b ∧ b < (d.n : Int)) ∧ ∃ j : Addr, d.a = some j ∧
∃ (f : Int), (w.cell? (j.add (b.toNat * 1)) = some (.int .i64 f)) ∧
((0 ≤ f) →
∃ (k : Option Addr), (w.cell? (c.add 2) = some (.pointer k)) ∧
∃ l : Addr, (k = some l) ∧
∃ (g : Sl), (w.cell? (l.add 1) = some (Sl.v g)) ∧
((0 : Int) ≤ b ∧ b < (g.n : Int)) ∧ ∃ m : Addr, g.a = some m ∧
∃ (o : Int), (w.cell? (m.add (b.toNat * 1)) = some (.int .i64 o)) ∧
R (.int .i64 o) w) ∧
((¬ (0 ≤ f)) →
(I64 ((-2) - b)) ∧
R (.int .i64 ((-2) - b)) w)
theorem ref25_C_id.ok (c : Addr) (b : Int) {R : Value → World → Prop} {w : World} (p : ref25_C_id.vc c b R w) : Calls Try.prog 67 #[.pointer (some c), .int .i64 b] w (Ret R) := by
 refine go _ Try.func67 Try.ntmps67 p ?_
 refine gS <| gR <| gN <| ge <| tn <| gS <| gS <| gR ?_
 refine gM ?_
 refine g1 r_nilCheck ?_
 refine gF 2 Try.underlying91 ti_67 ?_
 refine gE fun h => gL tU67 ?_
 refine gnP fun i => ?_
 refine gF 1 Try.underlying74 ti_22 ?_
 refine gE fun d => gL tU22 ?_
 refine gM ?_
 refine gI1 tU22 ti_3 fun j => ?_
 refine gE fun f => gL tU3 ?_
 refine g2 r_geq <| ge <| tn ?_
 refine gi dT dF ?_ ?_
 ·refine gS <| gR <| gM ?_
  refine g1 r_nilCheck ?_
  refine gF 2 Try.underlying91 ti_67 ?_
  refine gE fun k => gL tU67 ?_
  refine gnP fun l => ?_
  refine gF 1 Try.underlying74 ti_22 ?_
  refine gE fun g => gL tU22 ?_
  refine gM ?_
  refine gI1 tU22 ti_3 fun m => ?_
  refine gE fun o => gL tU3 ?_
  refine gN <| ge <| tn <| gr <| tr ?_
  exact gz1
 ·refine gk <| tn <| gS <| gR <| gM ?_
  refine g2s r_subI ?_
  refine gN <| ge <| tn <| gr ?_
  exact gz1
def ref25_C_Kids.vc (h : Addr) (j : Int) (R : Value → World → Prop) (w : World) : Prop :=
∃ (m : Sl), (w.cell? (h.add 1) = some (Sl.v m)) ∧
CallK Try.prog 17 #[Sl.v m, .int .i64 j] w [] (fun v x => ∃ (d : Sl), v = Sl.v d ∧
∃ (o : Int → World → Prop) (y : Int → World → Nat),
o 0 x ∧
(∀ (c : Int) (f : World), o c f →
((c < (d.n : Int)) →
((0 : Int) ≤ c ∧ c < (d.n : Int)) ∧ ∃ p : Addr, d.a = some p ∧
∃ (q : Int), (f.cell? (p.add (c.toNat * 1)) = some (.int .i64 q)) ∧
CallK Try.prog 67 #[.pointer (some h), .int .i64 q] f [] (fun v r => ∃ (s : Int), v = .int .i64 s ∧
((0 : Int) ≤ c ∧ c < (d.n : Int)) ∧ ∃ t : Addr, d.a = some t ∧
∃ (g k : Nat) (u : TypeId) (l : List Value), (t.add (c.toNat * 1)) = ⟨g, k, none⟩ ∧ Box r g u l ∧ k + 1 ≤ l.length ∧ (∀ b ∈ [], b ≠ g) ∧
(∀ i : World, Chg [g] r i → Box i g u (putAt l k [.int .i64 s]) →
(I64 (c + 1)) ∧
o (c + 1) i ∧ y (c + 1) i < y c f))) ∧
((¬ (c < (d.n : Int))) →
R (Sl.v d) f)))
theorem ref25_C_Kids.ok (h : Addr) (j : Int) {R : Value → World → Prop} {w : World} (z : ref25_C_Kids.vc h j R w) : Calls Try.prog 68 #[.pointer (some h), .int .i64 j] w (Ret R) := by
 refine go _ Try.func68 Try.ntmps68 z ?_
 refine gS <| gR <| gN <| ge <| tn <| gS <| gR ?_
 refine gM ?_
 refine g1 r_nilCheck ?_
 refine gF 1 Try.underlying91 ti_31 ?_
 refine gE fun m => gL tU31 ?_
 refine gM ?_
 refine gC [] Try.func17 fun _ x => gE fun d => gQ ?_
 refine gN <| ge <| tn <| gS <| gS <| gR ?_
 refine gN <| ge <| tn <| gb <| gE fun _ => gE fun mu => ?_
 refine l1 mu (fun c => [(6, .int .i64 c)]) [(0, _), (5, _)] (fun _ => []) [] [] fun c f _ => gS <| gS <| gR ?_
 refine gM ?_
 refine gM ?_
 refine g1 (fun aa => r_len aa tU22) ?_
 refine g2 r_lss <| ge <| tn ?_
 refine gi dT dF ?_ ?_
 ·refine gk <| tn <| gS <| gb <| gR <| gM ?_
  refine gM ?_
  refine gM ?_
  refine gM ?_
  refine gM ?_
  refine gI1 tU22 ti_3 fun p => ?_
  refine gE fun q => gL tU3 ?_
  refine gC [] Try.func67 fun _ r => gE fun s => gQ ?_
  refine gI1 tU22 ti_3 fun t => ?_
  refine wx [] ti_3 fun g k u l i => ge <| bn <| tn <| gR ?_
  refine gM ?_
  refine g2s r_addI ?_
  refine gN <| ge ?_
  exact k1 []
 ·refine gx <| te <| te <| bh <| tn <| gS <| gR <| gM ?_
  refine gN <| ge <| tn <| gr ?_
  exact gz1
def ref25_Same.vc (c : Sl) (d : Sl) (R : Value → World → Prop) (w : World) : Prop :=
(((c.n : Int) ≠ (d.n : Int)) →
R (.bool false) w) ∧
((¬ ((c.n : Int) ≠ (d.n : Int))) →
∃ (l : Int → World → Prop) (p : Int → World → Nat),
l 0 w ∧
(∀ (b : Int) (h : World), l b h →
((b < (c.n : Int)) →
∀ (g : World), Chg [] h g →
∃ m : Addr, (((0 : Int) ≤ b ∧ b < (c.n : Int)) ∧ c.a = some m) ∧
∃ (j : Int), (g.cell? (m.add (b.toNat * 1)) = some (.int .i64 j)) ∧
∃ o : Addr, (((0 : Int) ≤ b ∧ b < (d.n : Int)) ∧ d.a = some o) ∧
∃ (k : Int), (g.cell? (o.add (b.toNat * 1)) = some (.int .i64 k)) ∧
((j ≠ k) →
∀ (f : World), Chg [] g f →
R (.bool false) f) ∧
((¬ (j ≠ k)) →
(I64 (b + 1)) ∧
∀ (f : World), Chg [] g f →
l (b + 1) f ∧ p (b + 1) f < p b h)) ∧
((¬ (b < (c.n : Int))) →
R (.bool true) h)))
theorem ref25_Same.ok (c : Sl) (d : Sl) {R : Value → World → Prop} {w : World} (q : ref25_Same.vc c d R w) : Calls Try.prog 70 #[Sl.v c, Sl.v d] w (Ret R) := by
 refine go _ Try.func70 Try.ntmps70 q ?_
 refine gS <| gR <| gN <| ge <| tn <| gS <| gS <| gR ?_
 refine gM ?_
 refine g1 (fun i => r_len i tU22) ?_
 refine gM ?_
 refine g1 (fun i => r_len i tU22) ?_
 refine g2 r_neq <| ge <| tn ?_
 refine gi dT dF ?_ ?_
 ·refine gS <| gR <| gN <| ge <| tn <| gr <| tr ?_
  exact gz1
 ·refine gk <| tn <| gS <| gS <| gR <| gN <| ge <| tn <| gb <| gE fun _ => gE fun mu => ?_
  refine l1 mu (fun b => [(5, .int .i64 b)]) [(0, _), (1, _)] (fun _ => []) [] [] fun b h _ => gS <| gS <| gR ?_
  refine gM ?_
  refine gM ?_
  refine g1 (fun i => r_len i tU22) ?_
  refine g2 r_lss <| ge <| tn ?_
  refine gi dT dF ?_ ?_
  ·refine gk <| tn <| gS <| gb <| gS <| gD fun g => gT0 ?_
   refine gW 0 9 [] ?_
   refine gM ?_
   refine gM ?_
   refine gI2 tU22 ti_3 fun m => ?_
   refine gE fun j => gL tU3 ?_
   refine gM ?_
   refine gM ?_
   refine gI2 tU22 ti_3 fun o => ?_
   refine gE fun k => gL tU3 ?_
   refine g2 r_neq <| geT fun f => ?_
   refine gZ <| tn ?_
   refine gi dT dF ?_ ?_
   ·refine gS <| gR <| gN <| ge <| tn <| gr <| br <| tr <| tr <| br <| tr <| gT0 ?_
    exact gz1
   ·refine gk <| bn <| tn <| gR <| gM ?_
    refine g2s r_addI ?_
    refine gN <| ge <| gT0 ?_
    exact k1 []
  ·refine gx <| te <| te <| bh <| tn <| gS <| gR <| gN <| ge <| tn <| gr ?_
   exact gz1
end Go.Proofs.Yteohbfaechfliaa
