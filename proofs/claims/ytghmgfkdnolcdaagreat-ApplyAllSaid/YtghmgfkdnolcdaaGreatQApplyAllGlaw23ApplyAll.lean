/-
  PRINTED BY PROGRAM: for each function its condition (vc), and that this suffices (ok).
-/
import Derived.Test.YtghmgfkdnolcdaaGreatQApplyAllGT
namespace Go.Proofs.YtghmgfkdnolcdaaGreat
open Go.RowKit
set_option linter.unusedVariables false
set_option maxHeartbeats 1000000
set_option maxRecDepth 10000
def law23_ApplyAll.vc (af : Int) (ah : Str) (ai : Str) (aj : Sl) (ak : Sl) (g : Sl) (R : Value → World → Prop) (w : World) : Prop :=
∀ (w4 : World) (l : Nat), New w l w4 → Chg [] w w4 →
CallK Tryz.prog 4 #[.agg #[.int .i64 af, .string (Bs ah), .string (Bs ai), Sl.v aj, Sl.v ak]] w4 [l] (fun v w7 => ∃ (aO : Bool), v = .bool aO ∧
∃ (a0 : Bool), (((aO = true)) → Calls Tryz.prog 5 #[Sl.v g] w7 (Ret fun v w' => Ext w7 w' ∧ v = .bool a0)) ∧
(∀ w9 : World, Ext w7 w9 →
(((aO = false) ∨ (a0 = false)) →
CallK Tryz.prog 6 #[] w9 [l] (fun v cc => ∃ (bb : Bool), v = .bool bb ∧
R (.bool bb) cc)) ∧
(((aO = true) ∧ (a0 = true)) →
CallK Tryz.prog 7 #[.agg #[.int .i64 af, .string (Bs ah), .string (Bs ai), Sl.v aj, Sl.v ak]] w9 [l] (fun v bd => ∃ (y : Int) (z : Str) (aa : Str) (ab : Sl) (ad : Sl), v = .agg #[.int .i64 y, .string (Bs z), .string (Bs aa), Sl.v ab, Sl.v ad] ∧
∀ (al : World) (s : Nat), New bd s al → Chg [] bd al →
∃ aC : Sl → World → Prop, (∀ m : Sl, ∀ w' w'' : World, Ext w' w'' → aC m w' → aC m w'') ∧
(∀ w' : World, Ext al w' → Calls Tryz.prog 9 #[Sl.v g] w' (Ret fun v w'' => Ext w' w'' ∧ ∃ m : Sl, v = Sl.v m ∧ aC m w'')) ∧
∃ p : Int, ∃ q : Str, ∃ r : Str, ∃ j : Int, ∃ k : Int, ∃ ao : Sl → Sl → World → Prop, (∀ b : Sl, ∀ d : Sl, ∀ w' w'' : World, Ext w' w'' → ao b d w' → ao b d w'') ∧
(∀ m : Sl, ∀ w' : World, Ext al w' → aC m w' → Calls Tryz.prog 8 #[.agg #[.int .i64 y, .string (Bs z), .string (Bs aa), Sl.v ab, Sl.v ad], Sl.v m] w' (Ret fun v w'' => Ext w' w'' ∧ ∃ b : Sl, ∃ d : Sl, v = .tuple #[.agg #[.int .i64 p, .string (Bs q), .string (Bs r), Sl.v b, Sl.v d], .int .i64 j, .int .i64 k] ∧ ao b d w'')) ∧
∀ (ap : World) (b : Sl) (d : Sl) (i : Nat), Ext al ap → ao b d ap → al.heap.size ≤ i → Box ap i 25 [.int .i64 0, .string (Bs []), .string (Bs []), Sl.v Sl.nil, Sl.v Sl.nil] → 
∀ (ax : World), Chg [i] ap ax →
∀ (bf : World), Chg [] ax bf →
CallK Tryz.prog 10 #[.agg #[.int .i64 af, .string (Bs ah), .string (Bs ai), Sl.v aj, Sl.v ak], Sl.v g] bf [l, s, i] (fun v bg => ∃ (bi : Int) (bj : Str) (bk : Str) (bl : Sl) (bo : Sl) (aD : Int) (aG : Int), v = .tuple #[.agg #[.int .i64 bi, .string (Bs bj), .string (Bs bk), Sl.v bl, Sl.v bo], .int .i64 aD, .int .i64 aG] ∧
∀ (aH : World) (cd : Nat), New bg cd aH → Chg [] bg aH →
∃ (aP : Bool), ((((¬ (j ≠ aD)) ∧ (¬ (k ≠ aG)))) → Calls Tryz.prog 11 #[.agg #[.int .i64 p, .string (Bs q), .string (Bs r), Sl.v b, Sl.v d], .agg #[.int .i64 bi, .string (Bs bj), .string (Bs bk), Sl.v bl, Sl.v bo]] aH (Ret fun v w' => Ext aH w' ∧ v = .bool aP)) ∧
(∀ aQ : World, Ext aH aQ →
∃ (a2 : Bool), (((((¬ (j ≠ aD)) ∧ (¬ (k ≠ aG))) ∧ (aP = true))) → Calls Tryz.prog 11 #[.agg #[.int .i64 y, .string (Bs z), .string (Bs aa), Sl.v ab, Sl.v ad], .agg #[.int .i64 af, .string (Bs ah), .string (Bs ai), Sl.v aj, Sl.v ak]] aQ (Ret fun v w' => Ext aQ w' ∧ v = .bool a2)) ∧
(∀ a3 : World, Ext aQ a3 →
(((((j ≠ aD) ∨ (k ≠ aG)) ∨ (aP = false)) ∨ (a2 = false)) →
R (.bool false) a3) ∧
(((((¬ (j ≠ aD)) ∧ (¬ (k ≠ aG))) ∧ (aP = true)) ∧ (a2 = true)) →
∃ (bp : Int → World → Prop) (cf : Int → World → Nat),
bp 0 a3 ∧
(∀ (u : Int) (aI : World), bp u aI →
((u < (g.n : Int)) →
∀ (aq : World), Chg [] aI aq →
∃ bq : Addr, (((0 : Int) ≤ u ∧ u < (g.n : Int)) ∧ g.a = some bq) ∧
∃ (bt : Int) (bu : Int) (bv : Int) (bz : Int) (bA : Int) (bB : Str) (bC : Str), (Cells aq (bq.add (u.toNat * 7)) [.int .i64 bt, .int .i64 bu, .int .i64 bv, .int .i64 bz, .int .i64 bA, .string (Bs bB), .string (Bs bC)]) ∧
∃ (aR : Bool), (∀ w' : World, Ext aq w' → Calls Tryz.prog 12 #[.agg #[.int .i64 bt, .int .i64 bu, .int .i64 bv, .int .i64 bz, .int .i64 bA, .string (Bs bB), .string (Bs bC)]] w' (Ret fun v w'' => Ext w' w'' ∧ v = .bool aR)) ∧
∃ bD : Addr, (((0 : Int) ≤ u ∧ u < (g.n : Int)) ∧ g.a = some bD) ∧
∃ (bF : Int) (bG : Int) (bH : Int) (bI : Int) (bJ : Int) (bK : Str) (bL : Str), (Cells aq (bD.add (u.toNat * 7)) [.int .i64 bF, .int .i64 bG, .int .i64 bH, .int .i64 bI, .int .i64 bJ, .string (Bs bK), .string (Bs bL)]) ∧
∃ (aS : Bool), (∀ w' : World, Ext aq w' → Calls Tryz.prog 13 #[.agg #[.int .i64 bF, .int .i64 bG, .int .i64 bH, .int .i64 bI, .int .i64 bJ, .string (Bs bK), .string (Bs bL)]] w' (Ret fun v w'' => Ext w' w'' ∧ v = .bool aS)) ∧
(((aR == aS) = false) →
∀ (ay : World), Chg [] aq ay →
R (.bool false) ay) ∧
(((aR == aS) = true) →
(I64 (u + 1)) ∧
∀ (ay : World), Chg [] aq ay →
bp (u + 1) ay ∧ cf (u + 1) ay < cf u aI)) ∧
((¬ (u < (g.n : Int))) →
∀ (ar : World), Chg [] aI ar →
∃ aJ : Sl → World → Prop, (∀ o : Sl, ∀ w' w'' : World, Ext w' w'' → aJ o w' → aJ o w'') ∧
(∀ w' : World, Ext ar w' → Calls Tryz.prog 9 #[Sl.v g] w' (Ret fun v w'' => Ext w' w'' ∧ ∃ o : Sl, v = Sl.v o ∧ aJ o w'')) ∧
∃ az : Sl → World → Prop, (∀ f : Sl, ∀ w' w'' : World, Ext w' w'' → az f w' → az f w'') ∧
(∀ o : Sl, ∀ w' : World, Ext ar w' → aJ o w' → Calls Tryz.prog 14 #[.agg #[.int .i64 y, .string (Bs z), .string (Bs aa), Sl.v ab, Sl.v ad], Sl.v o] w' (Ret fun v w'' => Ext w' w'' ∧ ∃ f : Sl, v = Sl.v f ∧ az f w'')) ∧
∀ (aK : World) (f : Sl), Ext ar aK → az f aK → 
CallK Tryz.prog 15 #[.agg #[.int .i64 af, .string (Bs ah), .string (Bs ai), Sl.v aj, Sl.v ak], Sl.v g] aK [l] (fun v bM => ∃ (aL : Sl) (cg : Int) (ch : Int), v = .tuple #[Sl.v aL, .int .i64 cg, .int .i64 ch] ∧
(((f.n : Int) ≠ (aL.n : Int)) →
R (.bool false) bM) ∧
((¬ ((f.n : Int) ≠ (aL.n : Int))) →
∃ (bN : Int → World → Prop) (ci : Int → World → Nat),
bN 0 bM ∧
(∀ (x : Int) (aU : World), bN x aU →
((x < (f.n : Int)) →
∀ (aA : World), Chg [] aU aA →
∃ bO : Addr, (((0 : Int) ≤ x ∧ x < (f.n : Int)) ∧ f.a = some bO) ∧
∃ (bP : Int) (bQ : Str) (bR : Str) (bS : Sl) (bT : Sl), (Cells aA (bO.add (x.toNat * 5)) [.int .i64 bP, .string (Bs bQ), .string (Bs bR), Sl.v bS, Sl.v bT]) ∧
∃ bU : Addr, (((0 : Int) ≤ x ∧ x < (aL.n : Int)) ∧ aL.a = some bU) ∧
∃ (bV : Int) (bX : Str) (bY : Str) (bZ : Sl) (b0 : Sl), (Cells aA (bU.add (x.toNat * 5)) [.int .i64 bV, .string (Bs bX), .string (Bs bY), Sl.v bZ, Sl.v b0]) ∧
∃ (aV : Bool), (∀ w' : World, Ext aA w' → Calls Tryz.prog 11 #[.agg #[.int .i64 bP, .string (Bs bQ), .string (Bs bR), Sl.v bS, Sl.v bT], .agg #[.int .i64 bV, .string (Bs bX), .string (Bs bY), Sl.v bZ, Sl.v b0]] w' (Ret fun v w'' => Ext w' w'' ∧ v = .bool aV)) ∧
((aV = false) →
∀ (aB : World), Chg [] aA aB →
R (.bool false) aB) ∧
((aV = true) →
(I64 (x + 1)) ∧
∀ (aB : World), Chg [] aA aB →
bN (x + 1) aB ∧ ci (x + 1) aB < ci x aU)) ∧
((¬ (x < (f.n : Int))) →
CallK Tryz.prog 6 #[] aU [] (fun v cj => ∃ (b1 : Bool), v = .bool b1 ∧
R (.bool b1) cj)))))))))))))))
theorem law23_ApplyAll.ok (af : Int) (ah : Str) (ai : Str) (aj : Sl) (ak : Sl) (g : Sl) {R : Value → World → Prop} {w : World} (cr : law23_ApplyAll.vc af ah ai aj ak g R w) : Calls Tryz.prog 3 #[.agg #[.int .i64 af, .string (Bs ah), .string (Bs ai), Sl.v aj, Sl.v ak], Sl.v g] w (Ret R) := by
 refine go _ Tryz.func3 Tryz.ntmps3 cr ?_
 refine gS <| gR <| nb fun w4 l => ?_
 refine gN <| ge <| tn <| gS <| gS <| gR ?_
 refine gBN 0 5 Tryz.underlying25 ti_25 <| gT1 ?_
 refine gC [0] Tryz.func4 fun _ w7 => gE fun aO => gQ ?_
 refine g1 r_not ?_
 refine gM ?_
 refine G1 r_move ?_
 refine gE fun a0 => GC Tryz.func5 (fun hg => (nF (g_f hg))) fun w9 => ?_
 refine G1 r_not ?_
 refine gpo <| ge <| tn ?_
 refine gi (fun h => ((oT h).imp (fun h => (nT h)) (fun h => (nT h)))) (fun h => ⟨(nF (oF h).1), (nF (oF h).2)⟩) ?_ ?_
 ·refine gS <| gR <| gC [0] Tryz.func6 fun _ cc => gE fun bb => gQ ?_
  refine gN <| ge <| tn <| gr <| tr ?_
  exact gz1
 ·refine gk <| tn <| gS <| gR <| gBN 0 5 Tryz.underlying25 ti_25 ?_
  refine gC [0] Tryz.func7 fun _ bd => gE fun y => gE fun z => gE fun aa => gE fun ab => gE fun ad => gQ ?_
  refine na ti_25 fun fb s => ?_
  refine wn 0 0 ti_25 fun fc => ge <| tn <| gS ?_
  intro fd aM ct
  have am := aM.ag
  have cu := aM.bx 1 rfl
  have cv := aM.bx 0 rfl
  have cx := aM.chg
  have cy := aM.new s (by simp)
  have cz : l ≠ s := aM.ne 1 0
  let b2 : List (List Nat) := [[], [], [1], [0, 1, 2], [0, 1, 2, 3], [0, 1, 2, 3, 4], [0, 1, 2, 3, 4], [0, 1, 2, 3, 4], [], [0, 1, 2, 3, 4, 5, 8], [0, 1, 2, 3, 4, 5, 6, 8, 9], [0, 1, 2, 3, 4, 5, 6, 7, 8, 9, 10]]
  refine draw' (by kernel_rfl) fun al a4 => ?_
  have ck := cu.ext a4
  have b3 := cv.ext a4
  have cA := cx.more a4
  have cB := cy.up a4.size
  have cC := ct al s cB  cA
  obtain ⟨aC, cD, cF, cG⟩ := cC
  obtain ⟨p, q, r, j, k, ao, b4, cH, cI⟩ := cG
  refine startF (D := b2) (Fs := [6, 7]) (Ef := [(6, fun v _ => v = .int .i64 j), (7, fun v _ => v = .int .i64 k)]) (by kernel_rfl) ?_
  refine parF (D := b2) (S := [0, 1, 2, 3, 4, 5, 8]) (F := []) (KE := [0, 1, 2, 3, 4, 5, 8]) (E := [(0, fun v _ => v = .agg #[.int .i64 y, .string (Bs z), .string (Bs aa), Sl.v ab, Sl.v ad]), (1, fun v _ => v = Sl.v g), (2, fun v w' => ∃ m : Sl, aC m w' ∧ v = Sl.v m), (3, fun v w' => ∃ b : Sl, ∃ d : Sl, ao b d w' ∧ v = .tuple #[.agg #[.int .i64 p, .string (Bs q), .string (Bs r), Sl.v b, Sl.v d], .int .i64 j, .int .i64 k]), (4, fun v w' => ∃ b : Sl, ∃ d : Sl, ao b d w' ∧ v = .tuple #[.agg #[.int .i64 p, .string (Bs q), .string (Bs r), Sl.v b, Sl.v d], .int .i64 j, .int .i64 k]), (5, fun v w' => ∃ b : Sl, ∃ d : Sl, ao b d w' ∧ v = .agg #[.int .i64 p, .string (Bs q), .string (Bs r), Sl.v b, Sl.v d]), (8, fun v w' => ∃ i : Nat, al.heap.size ≤ i ∧ Box w' i 25 [.int .i64 0, .string (Bs []), .string (Bs []), Sl.v Sl.nil, Sl.v Sl.nil] ∧ v = pB i 0)]) am rfl (by kernel_rfl) ⟨fun _ _ _ _ h => h, fun _ _ _ _ h => h, fun _ _ _ hE ⟨m, h0_, e⟩ => ⟨m, (cD m _ _ hE h0_), e⟩, fun _ _ _ hE ⟨b, d, h0_, e⟩ => ⟨b, d, (b4 b d _ _ hE h0_), e⟩, fun _ _ _ hE ⟨b, d, h0_, e⟩ => ⟨b, d, (b4 b d _ _ hE h0_), e⟩, fun _ _ _ hE ⟨b, d, h0_, e⟩ => ⟨b, d, (b4 b d _ _ hE h0_), e⟩, fun _ _ _ hE ⟨i, h0_, h1_, e⟩ => ⟨i, h0_, (h1_.ext hE), e⟩, fun _ _ _ _ h => h, fun _ _ _ _ h => h, trivial⟩ ⟨?_, ?_, ?_, ?_, ?_, ?_, ?_, ?_, ?_, trivial⟩ ?_
  ·intro a w hT
   have hAp := hT.ag am [(5, pB s 0)] ⟨rfl, trivial⟩ (by kernel_rfl)
   exact ovr hAp rfl (r_loadN (cs := [.int .i64 y, .string (Bs z), .string (Bs aa), Sl.v ab, Sl.v ad]) Tryz.underlying25 rfl ti_25 (hAp.get rfl) ((b3.ext hT.chg).part 0 _ rfl)) fun _ => Eq.refl _
  ·intro a w hT
   have hAp := hT.ag am [(1, Sl.v g)] ⟨rfl, trivial⟩ (by kernel_rfl)
   exact ovr hAp rfl (r_move (hAp.get rfl)) fun _ => Eq.refl _
  ·intro a w hT
   have hAp := hT.ag am [] trivial (by kernel_rfl)
   have hAp := hAp.add (t := 31) (v := Sl.v g) (hT.vals 1 rfl 31 rfl)
   exact opk_callX hAp rfl (r_call (args := #[Sl.v g]) Tryz.func9 (by decide) rfl (map_arr (ml_cons (hAp.get rfl) ml_nil)) rfl) (cF w hT.chg) fun _ _ _ _ e ⟨hE, m, he, hV⟩ => ⟨_, e, hE, fun _ => ⟨m, hV, he⟩⟩
  ·intro a w hT
   have hAp := hT.ag am [] trivial (by kernel_rfl)
   have hAp := hAp.add (t := 30) (v := .agg #[.int .i64 y, .string (Bs z), .string (Bs aa), Sl.v ab, Sl.v ad]) (hT.vals 0 rfl 30 rfl)
   obtain ⟨m, cJ, cK⟩ := hT.vals 2 rfl 32 rfl
   have hAp := hAp.add cK
   exact opk_callX hAp rfl (r_call (args := #[.agg #[.int .i64 y, .string (Bs z), .string (Bs aa), Sl.v ab, Sl.v ad], Sl.v m]) Tryz.func8 (by decide) rfl (map_arr (ml_cons (hAp.get rfl) (ml_cons (hAp.get rfl) ml_nil))) rfl) (cH m w hT.chg cJ) fun _ _ _ _ e ⟨hE, b, d, he, hV⟩ => ⟨_, e, hE, fun _ => ⟨b, d, hV, he⟩⟩
  ·intro a w hT
   have hAp := hT.ag am [] trivial (by kernel_rfl)
   obtain ⟨b, d, cL, cM⟩ := hT.vals 3 rfl 33 rfl
   have hAp := hAp.add cM
   exact opk_val hAp rfl (r_move (hAp.get rfl)) fun _ _ e => ⟨_, e, Chg.refl _ _, fun _ => ⟨b, d, cL, rfl⟩⟩
  ·intro a w hT
   have hAp := hT.ag am [] trivial (by kernel_rfl)
   obtain ⟨b, d, cN, cO⟩ := hT.vals 4 rfl 29 rfl
   have hAp := hAp.add cO
   exact opk_val hAp rfl (r_extract (hAp.get rfl) rfl) fun _ _ e => ⟨_, e, Chg.refl _ _, fun _ => ⟨b, d, cN, rfl⟩⟩
  ·intro a w hT
   have hAp := hT.ag am [] trivial (by kernel_rfl)
   exact opk_new (fun B => .pointer (some ⟨B, 0, none⟩)) hAp rfl (r_alloc (cs := [.int .i64 0, .string (Bs []), .string (Bs []), Sl.v Sl.nil, Sl.v Sl.nil]) ti_25 rfl) fun _ ff i cP cQ cR _ e => ⟨_, e, cP, fun _ => ⟨i, Nat.le_trans hT.chg.size cQ.ge, cR, rfl⟩⟩
  ·intro a w hT
   have hAp := hT.ag am [] trivial (by kernel_rfl)
   obtain ⟨b, d, fg, cS⟩ := hT.vals 4 rfl 29 rfl
   have hAp := hAp.add cS
   exact ovr hAp rfl (r_extract (hAp.get rfl) rfl) fun _ => Eq.refl _
  ·intro a w hT
   have hAp := hT.ag am [] trivial (by kernel_rfl)
   obtain ⟨b, d, fh, cT⟩ := hT.vals 4 rfl 29 rfl
   have hAp := hAp.add cT
   exact ovr hAp rfl (r_extract (hAp.get rfl) rfl) fun _ => Eq.refl _
  ·intro fi ap a5 cU b5
   have cX := cU [(1, Sl.v g), (2, pB l 0), (5, pB s 0)] ⟨rfl, rfl, rfl, trivial⟩ (by kernel_rfl)
   obtain ⟨au, av, fj, cY⟩ := b5 4 rfl 29 rfl
   have cZ := cX.add cY
   obtain ⟨b, d, c0, c1⟩ := b5 5 rfl 34 rfl
   have c2 := cZ.add c1
   obtain ⟨i, b6, b7, c3⟩ := b5 8 rfl 6 rfl
   have a6 := c2.add c3
   have c4 := ck.ext a5
   have c5 := b3.ext a5
   have fk : Chg [] al ap := a5
   have c6 := cI ap b d i a5 c0 b6 b7
   have cl : l ≠ i := Nat.ne_of_lt (Nat.lt_of_lt_of_le ck.lt b6)
   have cm : s ≠ i := Nat.ne_of_lt (Nat.lt_of_lt_of_le b3.lt b6)
   refine oneF (c := 9) a6 rfl (by kernel_rfl) (constF ⟨fun _ _ _ h => h, fun _ _ _ h => h, trivial⟩) ⟨?_, ?_, trivial⟩ ?_
   ·intro a hT
    have hAp := hT.ag a6 [(29, .tuple #[.agg #[.int .i64 p, .string (Bs q), .string (Bs r), Sl.v au, Sl.v av], .int .i64 j, .int .i64 k])] ⟨rfl, trivial⟩ (by kernel_rfl)
    exact opk_val hAp rfl (r_extract (hAp.get rfl) rfl) fun _ _ e => ⟨_, e, rfl, fun _ => Eq.refl _⟩
   ·intro a hT
    have hAp := hT.ag a6 [(29, .tuple #[.agg #[.int .i64 p, .string (Bs q), .string (Bs r), Sl.v au, Sl.v av], .int .i64 j, .int .i64 k])] ⟨rfl, trivial⟩ (by kernel_rfl)
    exact opk_val hAp rfl (r_extract (hAp.get rfl) rfl) fun _ _ e => ⟨_, e, rfl, fun _ => Eq.refl _⟩
   ·intro fl hT
    have b8 := hT.ag a6 [(1, Sl.v g), (2, pB l 0), (5, pB s 0), (6, pB i 0), (29, .tuple #[.agg #[.int .i64 p, .string (Bs q), .string (Bs r), Sl.v au, Sl.v av], .int .i64 j, .int .i64 k]), (34, .agg #[.int .i64 p, .string (Bs q), .string (Bs r), Sl.v b, Sl.v d])] ⟨rfl, rfl, rfl, rfl, rfl, rfl, trivial⟩ (by kernel_rfl)
    refine opk_storeF b8 b7 (r_store (vs := [.int .i64 p, .string (Bs q), .string (Bs r), Sl.v b, Sl.v d]) (b8.get rfl) (b8.get rfl) rfl ti_25 b7 rfl (ones_all _ rfl)) fun ax b9 c7 aX => ⟨undef, Eq.refl _, ?_⟩
    have c8 : Box ax i 25 [.int .i64 p, .string (Bs q), .string (Bs r), Sl.v b, Sl.v d] := c7
    have c9 := c4.keep b9 (by simpa using cl)
    have da := c5.keep b9 (by simpa using cm)
    have db : Chg [i] ap ax := b9
    have dc := c6 ax    db
    refine parF (D := b2) (S := [10, 11]) (F := []) (KE := [10, 11]) (E := [(10, fun v _ => v = .int .i64 j), (11, fun v _ => v = .int .i64 k)]) aX rfl (by kernel_rfl) ⟨fun _ _ _ _ h => h, fun _ _ _ _ h => h, fun _ _ _ _ h => h, fun _ _ _ _ h => h, trivial⟩ ⟨?_, ?_, ?_, ?_, trivial⟩ ?_
    ·intro a w hT
     have hAp := hT.ag aX [] trivial (by kernel_rfl)
     have hAp := hAp.add (t := 35) (v := .int .i64 j) (hT.vals 6 rfl 35 rfl)
     exact ovr hAp rfl (r_assign (hAp.get rfl)) fun _ => Eq.refl _
    ·intro a w hT
     have hAp := hT.ag aX [] trivial (by kernel_rfl)
     have hAp := hAp.add (t := 36) (v := .int .i64 k) (hT.vals 7 rfl 36 rfl)
     exact ovr hAp rfl (r_assign (hAp.get rfl)) fun _ => Eq.refl _
    ·intro a w hT
     have hAp := hT.ag aX [(29, .tuple #[.agg #[.int .i64 p, .string (Bs q), .string (Bs r), Sl.v au, Sl.v av], .int .i64 j, .int .i64 k])] ⟨rfl, trivial⟩ (by kernel_rfl)
     exact ovr hAp rfl (r_extract (hAp.get rfl) rfl) fun _ => Eq.refl _
    ·intro a w hT
     have hAp := hT.ag aX [(29, .tuple #[.agg #[.int .i64 p, .string (Bs q), .string (Bs r), Sl.v au, Sl.v av], .int .i64 j, .int .i64 k])] ⟨rfl, trivial⟩ (by kernel_rfl)
     exact ovr hAp rfl (r_extract (hAp.get rfl) rfl) fun _ => Eq.refl _
    ·intro cn dd a7 df co
     have dg := df [(1, Sl.v g), (2, pB l 0), (5, pB s 0), (6, pB i 0), (29, .tuple #[.agg #[.int .i64 p, .string (Bs q), .string (Bs r), Sl.v au, Sl.v av], .int .i64 j, .int .i64 k])] ⟨rfl, rfl, rfl, rfl, rfl, trivial⟩ (by kernel_rfl)
     have dh : cn.tmps.getD 7 undef = .int .i64 j := co 10 rfl 7 rfl
     have di := dg.add dh
     have dj : cn.tmps.getD 8 undef = .int .i64 k := co 11 rfl 8 rfl
     have ca := di.add dj
     have dk := c9.ext a7
     have dl := da.ext a7
     have dm := c8.ext a7
     have dn : Chg [] ax dd := a7
     refine joinF ca (by kernel_rfl) ⟨fun _ _ _ _ h => h, fun _ _ _ _ h => h, trivial⟩ ⟨?_, ?_, trivial⟩ ?_
     ·intro a w hT
      have hAp := hT.ag ca [(29, .tuple #[.agg #[.int .i64 p, .string (Bs q), .string (Bs r), Sl.v au, Sl.v av], .int .i64 j, .int .i64 k])] ⟨rfl, trivial⟩ (by kernel_rfl)
      exact ovr hAp rfl (r_extract (hAp.get rfl) rfl) fun _ => Eq.refl _
     ·intro a w hT
      have hAp := hT.ag ca [(29, .tuple #[.agg #[.int .i64 p, .string (Bs q), .string (Bs r), Sl.v au, Sl.v av], .int .i64 j, .int .i64 k])] ⟨rfl, trivial⟩ (by kernel_rfl)
      exact ovr hAp rfl (r_extract (hAp.get rfl) rfl) fun _ => Eq.refl _
     ·intro fm bf a8 dp fn
      have dq := dp [(1, Sl.v g), (2, pB l 0), (5, pB s 0), (6, pB i 0), (7, .int .i64 j), (8, .int .i64 k)] ⟨rfl, rfl, rfl, rfl, rfl, rfl, trivial⟩ (by kernel_rfl)
      have dr := dk.ext a8
      have ds := dl.ext a8
      have dt := dm.ext a8
      have du := dn.more a8
      refine PR_end (by kernel_rfl) ?_
      have dv := dq.kp [(1, Sl.v g), (2, pB l 0), (5, pB s 0), (6, pB i 0), (7, .int .i64 j), (8, .int .i64 k)] rfl
      refine gK (bs := [(i, 25, [.int .i64 p, .string (Bs q), .string (Bs r), Sl.v b, Sl.v d]), (s, 25, [.int .i64 y, .string (Bs z), .string (Bs aa), Sl.v ab, Sl.v ad]), (l, 25, [.int .i64 af, .string (Bs ah), .string (Bs ai), Sl.v aj, Sl.v ak])]) (N := []) dv du ⟨dt, ds, dr, trivial⟩ (by simp [(Ne.symm cm), (Ne.symm cl), (Ne.symm cz)]) trivial (by simp) dc ?_
      refine tn <| gS <| gR <| gBN 2 5 Tryz.underlying25 ti_25 ?_
      refine gM <| gT0 ?_
      refine gC [2, 1, 0] Tryz.func10 fun _ bg => gE fun bi => gE fun bj => gE fun bk => gE fun bl => gE fun bo => gE fun aD => gE fun aG => gQ ?_
      refine gM ?_
      refine gx1 ?_
      refine gx1 ?_
      refine gx1 ?_
      refine na ti_25 fun fo cd => ?_
      refine wn 0 0 ti_25 fun aH => ?_
      refine gN ?_
      refine gN <| ge <| tn <| gS <| gS <| gR ?_
      refine gM ?_
      refine gM ?_
      refine g2 r_neq ?_
      refine gM ?_
      refine G1 r_move ?_
      refine G1 r_move ?_
      refine G2 r_neq ?_
      refine gpo ?_
      refine gM ?_
      refine GBN 1 5 Tryz.underlying25 ti_25 ?_
      refine GBN 0 5 Tryz.underlying25 ti_25 <| gT1 ?_
      refine gE fun aP => GC Tryz.func11 (fun hg => ⟨(dF (oF (g_f hg)).1), (dF (oF (g_f hg)).2)⟩) fun aQ => ?_
      refine G1 r_not ?_
      refine gpo ?_
      refine gM ?_
      refine GBN 2 5 Tryz.underlying25 ti_25 ?_
      refine GBN 3 5 Tryz.underlying25 ti_25 ?_
      refine gE fun a2 => GC Tryz.func11 (fun hg => ⟨⟨(dF (oF (oF (g_f hg)).1).1), (dF (oF (oF (g_f hg)).1).2)⟩, (nF (oF (g_f hg)).2)⟩) fun a3 => ?_
      refine G1 r_not ?_
      refine gpo <| ge <| tn ?_
      refine gi (fun h => ((oT h).imp (fun h => ((oT h).imp (fun h => ((oT h).imp (fun h => (dT h)) (fun h => (dT h)))) (fun h => (nT h)))) (fun h => (nT h)))) (fun h => ⟨⟨⟨(dF (oF (oF (oF h).1).1).1), (dF (oF (oF (oF h).1).1).2)⟩, (nF (oF (oF h).1).2)⟩, (nF (oF h).2)⟩) ?_ ?_
      ·refine gS <| gR <| gN <| ge <| tn <| gr <| tr ?_
       exact gz1
      ·refine gk <| tn <| gS <| gS <| gR <| gN <| ge <| tn <| gb <| gE fun _ => gE fun mu => ?_
       refine l1 mu (fun u => [(12, .int .i64 u)]) [(1, _), (2, _), (5, _)] (fun _ => []) [(l, _, _), (s, _, _)] [3, 2] fun u aI _ => gS <| gS <| gR ?_
       refine gM ?_
       refine gM ?_
       refine g1 (fun an => r_len an tU26) ?_
       refine g2 r_lss <| ge <| tn ?_
       refine gi dT dF ?_ ?_
       ·refine gk <| tn <| gS <| gb <| gS <| gD fun aq => gT0 <| gE fun bq => gA fun dx => gE fun bt => gE fun bu => gE fun bv => gE fun bz => gE fun bA => gE fun bB => gE fun bC => gA fun dy => gE fun aR => gA fun dz => gE fun bD => gA fun dA => gE fun bF => gE fun bG => gE fun bH => gE fun bI => gE fun bJ => gE fun bK => gE fun bL => gA fun dB => gE fun aS => gA fun dC => ?_
        refine gW 0 11 [(4, rsU (.bool aR)), (9, rsU (.bool aS))] ?_
        refine gM ?_
        refine gM ?_
        refine gIx tU26 ti_38 dx ?_
        refine gP dy <| gLN Tryz.underlying38 ti_38 ?_
        refine yc rfl Tryz.func12 (fun w' hE _ => dz w' hE) (fun _ _ h => ⟨(), h, trivial⟩) fun _ => ?_
        refine gM ?_
        refine gM ?_
        refine gIx tU26 ti_38 dA ?_
        refine gP dB <| gLN Tryz.underlying38 ti_38 ?_
        refine yc rfl Tryz.func13 (fun w' hE _ => dC w' hE) (fun _ _ h => ⟨(), h, trivial⟩) fun _ => ?_
        refine g2 (fun an dD => r_bneq an dD tU4) ?_
        refine eT fun ay => ?_
        refine gZ <| tn ?_
        refine gi nT nF ?_ ?_
        ·refine gS <| gR <| gN <| ge <| tn <| gr <| br <| tr <| tr <| br <| tr <| gT0 ?_
         exact gz1
        ·refine gk <| bn <| tn <| gR <| gM ?_
         refine g2s r_addI ?_
         refine gN <| ge <| gT0 ?_
         exact k1 [0, 1]
       ·refine gx <| te <| te <| bh <| tn <| gS ?_
        intro fp a9 dG
        have aN := a9.ag
        have dH := a9.bx 0 rfl
        have dI := a9.bx 1 rfl
        have fq : l ≠ s := a9.ne 0 1
        refine draw' (by kernel_rfl) fun ar cb => ?_
        have dJ := dH.ext cb
        have cp := dI.ext cb
        have dK : Chg [] aI ar := cb
        have dL := dG ar    dK
        obtain ⟨aJ, dM, dN, dO⟩ := dL
        obtain ⟨az, cq, dP, dQ⟩ := dO
        refine par (D := [[], [], [1], [0, 1, 2], [0, 1, 2, 3]]) (S := [0, 1, 2, 3, 4]) (F := []) (V := VL [(0, fun v _ => v = .agg #[.int .i64 y, .string (Bs z), .string (Bs aa), Sl.v ab, Sl.v ad]), (1, fun v _ => v = Sl.v g), (2, fun v w' => ∃ o : Sl, aJ o w' ∧ v = Sl.v o), (3, fun v w' => ∃ f : Sl, az f w' ∧ v = Sl.v f), (4, fun v w' => ∃ f : Sl, az f w' ∧ v = Sl.v f)]) aN (by kernel_rfl) ⟨fun _ _ _ _ h => h, fun _ _ _ _ h => h, fun _ _ _ hE ⟨o, h0_, e⟩ => ⟨o, (dM o _ _ hE h0_), e⟩, fun _ _ _ hE ⟨f, h0_, e⟩ => ⟨f, (cq f _ _ hE h0_), e⟩, fun _ _ _ hE ⟨f, h0_, e⟩ => ⟨f, (cq f _ _ hE h0_), e⟩, trivial⟩ ⟨?_, ?_, ?_, ?_, ?_, trivial⟩ ?_
        ·intro a w hT
         have hAp := hT.ag aN [(5, pB s 0)] ⟨rfl, trivial⟩ (by kernel_rfl)
         exact ovr hAp rfl (r_loadN (cs := [.int .i64 y, .string (Bs z), .string (Bs aa), Sl.v ab, Sl.v ad]) Tryz.underlying25 rfl ti_25 (hAp.get rfl) ((cp.ext hT.chg).part 0 _ rfl)) fun _ => Eq.refl _
        ·intro a w hT
         have hAp := hT.ag aN [(1, Sl.v g)] ⟨rfl, trivial⟩ (by kernel_rfl)
         exact ovr hAp rfl (r_move (hAp.get rfl)) fun _ => Eq.refl _
        ·intro a w hT
         have hAp := hT.ag aN [] trivial (by kernel_rfl)
         have hAp := hAp.add (t := 82) (v := Sl.v g) (hT.vals 1 rfl 82 rfl)
         exact opk_callX hAp rfl (r_call (args := #[Sl.v g]) Tryz.func9 (by decide) rfl (map_arr (ml_cons (hAp.get rfl) ml_nil)) rfl) (dN w hT.chg) fun _ _ _ _ e ⟨hE, o, he, hV⟩ => ⟨_, e, hE, fun _ => ⟨o, hV, he⟩⟩
        ·intro a w hT
         have hAp := hT.ag aN [] trivial (by kernel_rfl)
         have hAp := hAp.add (t := 81) (v := .agg #[.int .i64 y, .string (Bs z), .string (Bs aa), Sl.v ab, Sl.v ad]) (hT.vals 0 rfl 81 rfl)
         obtain ⟨o, dR, dS⟩ := hT.vals 2 rfl 83 rfl
         have hAp := hAp.add dS
         exact opk_callX hAp rfl (r_call (args := #[.agg #[.int .i64 y, .string (Bs z), .string (Bs aa), Sl.v ab, Sl.v ad], Sl.v o]) Tryz.func14 (by decide) rfl (map_arr (ml_cons (hAp.get rfl) (ml_cons (hAp.get rfl) ml_nil))) rfl) (dP o w hT.chg dR) fun _ _ _ _ e ⟨hE, f, he, hV⟩ => ⟨_, e, hE, fun _ => ⟨f, hV, he⟩⟩
        ·intro a w hT
         have hAp := hT.ag aN [] trivial (by kernel_rfl)
         obtain ⟨f, dU, dV⟩ := hT.vals 3 rfl 84 rfl
         have hAp := hAp.add dV
         exact opk_val hAp rfl (r_assign (hAp.get rfl)) fun _ _ e => ⟨_, e, Chg.refl _ _, fun _ => ⟨f, dU, rfl⟩⟩
        ·intro fr aK ba dX dY
         have dZ := dX [(1, Sl.v g), (2, pB l 0)] ⟨rfl, rfl, trivial⟩ (by kernel_rfl)
         obtain ⟨f, d0, d1⟩ := dY 4 rfl 13 rfl
         have d2 := dZ.add d1
         have d3 := dJ.ext ba
         have fs := cp.ext ba
         have ft : Chg [] ar aK := ba
         have d4 := dQ aK f ba d0
         refine PR_end (by kernel_rfl) ?_
         have d5 := d2.kp [(1, Sl.v g), (2, pB l 0), (13, Sl.v f)] rfl
         refine gK (bs := [(l, 25, [.int .i64 af, .string (Bs ah), .string (Bs ai), Sl.v aj, Sl.v ak])]) (N := []) d5 (Chg.refl [] _) ⟨d3, trivial⟩ (by simp) trivial (by simp) d4 ?_
         refine tn <| gS <| gR <| gBN 0 5 Tryz.underlying25 ti_25 ?_
         refine gM ?_
         refine gC [0] Tryz.func15 fun _ bM => gE fun aL => gE fun cg => gE fun ch => gQ ?_
         refine gM ?_
         refine gx1 ?_
         refine gx1 ?_
         refine gx1 ?_
         refine gN ?_
         refine gN ?_
         refine gN <| ge <| tn <| gS <| gS <| gR ?_
         refine gM ?_
         refine g1 (fun an => r_len an tU23) ?_
         refine gM ?_
         refine g1 (fun an => r_len an tU23) ?_
         refine g2 r_neq <| ge <| tn ?_
         refine gi dT dF ?_ ?_
         ·refine gS <| gR <| gN <| ge <| tn <| gr <| tr ?_
          exact gz1
         ·refine gk <| tn <| gS <| gS <| gR <| gN <| ge <| tn <| gb <| gE fun _ => gE fun mu => ?_
          refine l1 mu (fun x => [(17, .int .i64 x)]) [(13, _), (14, _)] (fun _ => []) [] [] fun x aU _ => gS <| gS <| gR ?_
          refine gM ?_
          refine gM ?_
          refine g1 (fun an => r_len an tU23) ?_
          refine g2 r_lss <| ge <| tn ?_
          refine gi dT dF ?_ ?_
          ·refine gk <| tn <| gS <| gb <| gS <| gD fun aA => gT0 <| gE fun bO => gA fun d6 => gE fun bP => gE fun bQ => gE fun bR => gE fun bS => gE fun bT => gA fun d7 => gE fun bU => gA fun d8 => gE fun bV => gE fun bX => gE fun bY => gE fun bZ => gE fun b0 => gA fun d9 => gE fun aV => gA fun fa => ?_
           refine gW 0 10 [(8, rsU (.bool aV))] ?_
           refine gM ?_
           refine gM ?_
           refine gIx tU23 ti_25 d6 ?_
           refine gP d7 <| gLN Tryz.underlying25 ti_25 ?_
           refine gM ?_
           refine gM ?_
           refine gIx tU23 ti_25 d8 ?_
           refine gP d9 <| gLN Tryz.underlying25 ti_25 ?_
           refine yc rfl Tryz.func11 (fun w' hE _ => fa w' hE) (fun _ _ h => ⟨(), h, trivial⟩) fun _ => ?_
           refine g1 r_not ?_
           refine eT fun aB => ?_
           refine gZ <| tn ?_
           refine gi nT nF ?_ ?_
           ·refine gS <| gR <| gN <| ge <| tn <| gr <| br <| tr <| tr <| br <| tr <| gT0 ?_
            exact gz1
           ·refine gk <| bn <| tn <| gR <| gM ?_
            refine g2s r_addI ?_
            refine gN <| ge <| gT0 ?_
            exact k1 []
          ·refine gx <| te <| te <| bh <| tn <| gS <| gR <| gC [] Tryz.func6 fun _ cj => gE fun b1 => gQ ?_
           refine gN <| ge <| tn <| gr ?_
           exact gz1
end Go.Proofs.YtghmgfkdnolcdaaGreat
