/-
  PRINTED BY PROGRAM: for each function its condition (vc), and that this suffices (ok).
-/
import Derived.Test.YteohbfaechfliaaQSlotsAllGT
namespace Go.Proofs.Yteohbfaechfliaa
open Go.RowKit
set_option linter.unusedVariables false
set_option maxHeartbeats 1000000
set_option maxRecDepth 10000
def ref25_Of.vc (ab : Int) (ad : Str) (af : Str) (ah : Sl) (ai : Sl) (aj : Int) (ak : Str) (al : Str) (am : Sl) (an : Sl) (k : Sl) (R : Value → World → Prop) (w : World) : Prop :=
∀ (aM : World) (ap : Nat) (ar : Nat), New w ap aM → New w ar aM → ap ≠ ar → Chg [] w aM →
CallK Try.prog 44 #[.agg #[.int .i64 ab, .string (Bs ad), .string (Bs af), Sl.v ah, Sl.v ai], .agg #[.int .i64 aj, .string (Bs ak), .string (Bs al), Sl.v am, Sl.v an], Sl.v k] aM [ap, ar] (fun v a5 => ∃ (aX : Bool), v = .bool aX ∧
((aX = false) →
R (.pointer none) a5) ∧
((aX = true) →
∀ (aq : World), Chg [] a5 aq →
∃ ax : Sl → World → Prop, (∀ f : Sl, ∀ w' w'' : World, Ext w' w'' → ax f w' → ax f w'') ∧
(∀ w' : World, Ext aq w' → Calls Try.prog 11 #[.agg #[.int .i64 ab, .string (Bs ad), .string (Bs af), Sl.v ah, Sl.v ai]] w' (Ret fun v w'' => Ext w' w'' ∧ ∃ f : Sl, v = Sl.v f ∧ ax f w'')) ∧
∃ ay : Sl → World → Prop, (∀ g : Sl, ∀ w' w'' : World, Ext w' w'' → ay g w' → ay g w'') ∧
(∀ w' : World, Ext aq w' → Calls Try.prog 11 #[.agg #[.int .i64 aj, .string (Bs ak), .string (Bs al), Sl.v am, Sl.v an]] w' (Ret fun v w'' => Ext w' w'' ∧ ∃ g : Sl, v = Sl.v g ∧ ay g w'')) ∧
∀ (az : World) (f : Sl) (g : Sl) (d : Nat), Ext aq az → ax f az → ay g az → aq.heap.size ≤ d → Box az d 91 [Sl.v f, Sl.v g, .pointer none, Sl.v Sl.nil] → 
∀ (aF : World), Chg [] az aF →
∃ aN : (Option Addr) → World → Prop, (∀ x : Option Addr, ∀ w' w'' : World, Ext w' w'' → aN x w' → aN x w'') ∧
(∀ w' : World, Ext aF w' → Calls Try.prog 45 #[.int .i64 (f.n : Int), .int .i64 (g.n : Int)] w' (Ret fun v w'' => Ext w' w'' ∧ ∃ x : Option Addr, v = .pointer x ∧ aN x w'')) ∧
∀ (aG : World) (x : Option Addr), Ext aF aG → aN x aG → 
∀ (aH : World), Chg [d] aG aH →
∃ (aY : Int → World → Prop) (mu_147 : Int → World → Nat),
aY 0 aH ∧
(∀ (j : Int) (aA : World), aY j aA →
((j < (k.n : Int)) →
∀ (aB : World), Chg [] aA aB →
∃ aI : Addr, (((0 : Int) ≤ j ∧ j < (k.n : Int)) ∧ k.a = some aI) ∧
∃ (aO : Int), (aB.cell? ((aI.add (j.toNat * 2)).add 0) = some (.int .i64 aO)) ∧
∃ aJ : Addr, (((0 : Int) ≤ j ∧ j < (k.n : Int)) ∧ k.a = some aJ) ∧
∃ (aP : Int), (aB.cell? ((aJ.add (j.toNat * 2)).add 1) = some (.int .i64 aP)) ∧
∀ (aZ : World), Chg [] aB aZ →
CallK Try.prog 32 #[.pointer x, .int .i64 aO, .int .i64 aP] aZ [d] (fun v a7 => v = .tuple #[] ∧
(I64 (j + 1)) ∧
aY (j + 1) a7 ∧ mu_147 (j + 1) a7 < mu_147 j aA)) ∧
((¬ (j < (k.n : Int))) →
∀ (_ : Box aA d 91 [Sl.v f, Sl.v g, .pointer x, Sl.v Sl.nil]),
∃ (J_400 : Int → World → Prop) (a8 : Int → World → Nat),
J_400 0 aA ∧
(∀ (u : Int) (aC : World), J_400 u aC →
∃ (a1 : Sl), (aC.cell? ((⟨d, 0, none⟩ : Addr).add 0) = some (Sl.v a1)) ∧
((u < (a1.n : Int)) →
∀ (au : World), Chg [] aC au →
∃ (aQ : Sl), (au.cell? ((⟨d, 0, none⟩ : Addr).add 3) = some (Sl.v aQ)) ∧
∃ aK : Bool → Bool → Sl → Sl → Int → Sl → World → Prop, (∀ l : Bool, ∀ m : Bool, ∀ o : Sl, ∀ p : Sl, ∀ q : Int, ∀ r : Sl, ∀ w' w'' : World, Ext w' w'' → aK l m o p q r w' → aK l m o p q r w'') ∧
(∀ w' : World, Ext au w' → Calls Try.prog 46 #[.pointer (some (⟨d, 0, none⟩ : Addr)), .int .i64 u] w' (Ret fun v w'' => Ext w' w'' ∧ ∃ l : Bool, ∃ m : Bool, ∃ o : Sl, ∃ p : Sl, ∃ q : Int, ∃ r : Sl, v = .agg #[.bool l, .bool m, Sl.v o, Sl.v p, .int .i64 q, Sl.v r] ∧ aK l m o p q r w'')) ∧
∀ (aD : World) (l : Bool) (m : Bool) (o : Sl) (p : Sl) (q : Int) (r : Sl) (z : Nat), Ext au aD → aK l m o p q r aD → au.heap.size ≤ z → Box aD z 93 [.bool l, .bool m, Sl.v o, Sl.v p, .int .i64 q, Sl.v r] → 
∀ (_ : Box aD z 93 [.bool l, .bool m, Sl.v o, Sl.v p, .int .i64 q, Sl.v r]),
RunK Try.prog (Builtin.append_ #[89, 89] 89 #[Sl.v aQ, Sl.v (Sl.mk (some ⟨z, 0, none⟩) 1 1)]) aD [] (fun v bg => ∃ (aR : Sl), v = Sl.v aR ∧
∀ (aS : World), Chg [] bg aS →
∀ (aT : World), Chg [] aS aT →
∃ (aU a9 : Nat) (bh : TypeId) (ba : List Value), ((⟨d, 0, none⟩ : Addr).add 3) = ⟨aU, a9, none⟩ ∧ Box aT aU bh ba ∧ a9 + 1 ≤ ba.length ∧ (∀ b ∈ [], b ≠ aU) ∧
(∀ aL : World, Chg [aU] aT aL → Box aL aU bh (putAt ba a9 [Sl.v aR]) →
(I64 (u + 1)) ∧
J_400 (u + 1) aL ∧ a8 (u + 1) aL < a8 u aC))) ∧
((¬ (u < (a1.n : Int))) →
R (.pointer (some (⟨d, 0, none⟩ : Addr))) aC))))))
theorem ref25_Of.ok (ab : Int) (ad : Str) (af : Str) (ah : Sl) (ai : Sl) (aj : Int) (ak : Str) (al : Str) (am : Sl) (an : Sl) (k : Sl) {R : Value → World → Prop} {w : World} (bB : ref25_Of.vc ab ad af ah ai aj ak al am an k R w) : Calls Try.prog 21 #[.agg #[.int .i64 ab, .string (Bs ad), .string (Bs af), Sl.v ah, Sl.v ai], .agg #[.int .i64 aj, .string (Bs ak), .string (Bs al), Sl.v am, Sl.v an], Sl.v k] w (Ret R) := by
 refine enter [.agg #[.int .i64 ab, .string (Bs ad), .string (Bs af), Sl.v ah, Sl.v ai], .agg #[.int .i64 aj, .string (Bs ak), .string (Bs al), Sl.v am, Sl.v an], Sl.v k] Try.func21 rfl Try.ntmps21 rfl ?_
 intro a0 bC
 unfold ref25_Of.vc at bB
 refine wp_seq (wp_region_lit ?_)
 refine sq (opk_new (fun B => .pointer (some ⟨B, 0, none⟩)) bC rfl (r_box (cs := [.int .i64 ab, .string (Bs ad), .string (Bs af), Sl.v ah, Sl.v ai]) (bC.get rfl) rfl) fun a6 w5 ap cx cy bF bG _ => ?_)
 have cz : New w ap w5 := cy
 have bH : Chg [] w w5 := cx
 refine sq (opk_new (fun B => .pointer (some ⟨B, 0, none⟩)) bG rfl (r_box (cs := [.int .i64 aj, .string (Bs ak), .string (Bs al), Sl.v am, Sl.v an]) (bG.get rfl) rfl) fun gq aM ar bi bI bJ cA _ => ?_)
 have cB : ap ≠ ar := Nat.ne_of_lt (Nat.lt_of_lt_of_le bF.lt bI.ge)
 have cC := New.of bH bI
 have bK := bF.ext bi
 have cD := bH.more bi
 have cF := cz.up bi.size
 refine sqv cA rfl (r_assign rfl) fun _ cG => sq_end ?_
 have bL := cG.kp [(2, Sl.v k), (3, pB ap 0), (4, pB ar 0)] rfl
 refine then_normal (wp_seq (wp_seq (wp_region_lit ?_)))
 refine sqv bL rfl (r_loadN (cs := [.int .i64 ab, .string (Bs ad), .string (Bs af), Sl.v ah, Sl.v ai]) Try.underlying26 rfl ti_26 (bL.get rfl) (bK.part 0 _ rfl)) fun _ bM => sqv bM rfl (r_loadN (cs := [.int .i64 aj, .string (Bs ak), .string (Bs al), Sl.v am, Sl.v an]) Try.underlying26 rfl ti_26 (bM.get rfl) (bJ.part 0 _ rfl)) fun _ bN => sqv bN rfl (r_move (bN.get rfl)) fun _ bb => ?_
 have cH := bB aM ap ar cF cC cB cD
 refine sq (opk_call bb rfl (r_call (args := #[.agg #[.int .i64 ab, .string (Bs ad), .string (Bs af), Sl.v ah, Sl.v ai], .agg #[.int .i64 aj, .string (Bs ak), .string (Bs al), Sl.v am, Sl.v an], Sl.v k]) Try.func44 (by decide) rfl (map_arr (ml_cons (bb.get rfl) (ml_cons (bb.get rfl) (ml_cons (bb.get rfl) ml_nil)))) rfl) cH fun gr gs a5 bO _ bP gu cI => ?_)
 obtain ⟨aX, rfl, bQ⟩ := cI
 have cJ := bK.kept bP (.head _)
 have cK := bJ.kept bP (.tail _ (.head _))
 refine sqv bO rfl (r_not (bO.get rfl)) fun _ cL => sq_end ?_
 have av := cL.kp [(2, Sl.v k), (3, pB ap 0), (4, pB ar 0), (14, .bool (!aX))] rfl
 refine then_normal ?_
 refine wp_cond_split (av.get rfl) (fun hc => ?_) (fun hc => ?_)
 ·have cM := bQ.1 (b_not_t hc)
  clear hc
  refine wp_seq (wp_region_lit ?_)
  refine sqv av rfl (r_assign rfl) fun _ cN => sq_end ?_
  have bR := cN.kp [(6, .pointer none)] rfl
  refine then_normal ?_
  refine wp_ret ?_
  refine then_ret ?_
  exact res_all (vs := [.pointer none]) rfl bR ⟨res_of_tmp bR rfl, trivial⟩ cM
 ·have cO := bQ.2 (b_not_f hc)
  clear hc
  refine wp_skip ?_
  refine then_normal (wp_seq ?_)
  refine draw' (by kernel_rfl) fun aq bj => ?_
  have bk := cJ.ext bj
  have bl := cK.ext bj
  have cP : Chg [] a5 aq := bj
  have cQ := cO aq    cP
  obtain ⟨ax, a2, cR, cS⟩ := cQ
  obtain ⟨ay, a3, cT, cU⟩ := cS
  refine par (D := [[], [0], [], [0, 1, 2], [0, 1, 2, 3], [0, 1, 2, 3, 4], [0, 1, 2, 3, 4, 5]]) (S := [0, 1, 2, 3, 4, 5, 6]) (F := []) (V := VL [(0, fun v _ => v = .agg #[.int .i64 ab, .string (Bs ad), .string (Bs af), Sl.v ah, Sl.v ai]), (1, fun v w' => ∃ f : Sl, ax f w' ∧ v = Sl.v f), (2, fun v _ => v = .agg #[.int .i64 aj, .string (Bs ak), .string (Bs al), Sl.v am, Sl.v an]), (3, fun v w' => ∃ g : Sl, ay g w' ∧ v = Sl.v g), (4, fun v w' => ∃ f : Sl, ∃ g : Sl, ax f w' ∧ ay g w' ∧ v = .agg #[Sl.v f, Sl.v g, .pointer none, Sl.v Sl.nil]), (5, fun v w' => ∃ f : Sl, ∃ g : Sl, ∃ d : Nat, ax f w' ∧ ay g w' ∧ aq.heap.size ≤ d ∧ Box w' d 91 [Sl.v f, Sl.v g, .pointer none, Sl.v Sl.nil] ∧ v = pB d 0), (6, fun v w' => ∃ f : Sl, ∃ g : Sl, ∃ d : Nat, ax f w' ∧ ay g w' ∧ aq.heap.size ≤ d ∧ Box w' d 91 [Sl.v f, Sl.v g, .pointer none, Sl.v Sl.nil] ∧ v = pB d 0)]) av (by kernel_rfl) ⟨fun _ _ _ _ h => h, fun _ _ _ hE ⟨f, h0_, e⟩ => ⟨f, (a2 f _ _ hE h0_), e⟩, fun _ _ _ _ h => h, fun _ _ _ hE ⟨g, h0_, e⟩ => ⟨g, (a3 g _ _ hE h0_), e⟩, fun _ _ _ hE ⟨f, g, h0_, h1_, e⟩ => ⟨f, g, (a2 f _ _ hE h0_), (a3 g _ _ hE h1_), e⟩, fun _ _ _ hE ⟨f, g, d, h0_, h1_, h2_, h3_, e⟩ => ⟨f, g, d, (a2 f _ _ hE h0_), (a3 g _ _ hE h1_), h2_, (h3_.ext hE), e⟩, fun _ _ _ hE ⟨f, g, d, h0_, h1_, h2_, h3_, e⟩ => ⟨f, g, d, (a2 f _ _ hE h0_), (a3 g _ _ hE h1_), h2_, (h3_.ext hE), e⟩, trivial⟩ ⟨?_, ?_, ?_, ?_, ?_, ?_, ?_, trivial⟩ ?_
  ·intro a w hT
   have hAp := hT.ag av [(3, pB ap 0)] ⟨rfl, trivial⟩ (by kernel_rfl)
   exact ovr hAp rfl (r_loadN (cs := [.int .i64 ab, .string (Bs ad), .string (Bs af), Sl.v ah, Sl.v ai]) Try.underlying26 rfl ti_26 (hAp.get rfl) ((bk.ext hT.chg).part 0 _ rfl)) fun _ => Eq.refl _
  ·intro a w hT
   have hAp := hT.ag av [] trivial (by kernel_rfl)
   have hAp := hAp.add (t := 15) (v := .agg #[.int .i64 ab, .string (Bs ad), .string (Bs af), Sl.v ah, Sl.v ai]) (hT.vals 0 rfl 15 rfl)
   exact opk_callX hAp rfl (r_call (args := #[.agg #[.int .i64 ab, .string (Bs ad), .string (Bs af), Sl.v ah, Sl.v ai]]) Try.func11 (by decide) rfl (map_arr (ml_cons (hAp.get rfl) ml_nil)) rfl) (cR w hT.chg) fun _ _ _ _ e ⟨hE, f, he, hV⟩ => ⟨_, e, hE, fun _ => ⟨f, hV, he⟩⟩
  ·intro a w hT
   have hAp := hT.ag av [(4, pB ar 0)] ⟨rfl, trivial⟩ (by kernel_rfl)
   exact ovr hAp rfl (r_loadN (cs := [.int .i64 aj, .string (Bs ak), .string (Bs al), Sl.v am, Sl.v an]) Try.underlying26 rfl ti_26 (hAp.get rfl) ((bl.ext hT.chg).part 0 _ rfl)) fun _ => Eq.refl _
  ·intro a w hT
   have hAp := hT.ag av [] trivial (by kernel_rfl)
   have hAp := hAp.add (t := 17) (v := .agg #[.int .i64 aj, .string (Bs ak), .string (Bs al), Sl.v am, Sl.v an]) (hT.vals 2 rfl 17 rfl)
   exact opk_callX hAp rfl (r_call (args := #[.agg #[.int .i64 aj, .string (Bs ak), .string (Bs al), Sl.v am, Sl.v an]]) Try.func11 (by decide) rfl (map_arr (ml_cons (hAp.get rfl) ml_nil)) rfl) (cT w hT.chg) fun _ _ _ _ e ⟨hE, g, he, hV⟩ => ⟨_, e, hE, fun _ => ⟨g, hV, he⟩⟩
  ·intro a w hT
   have hAp := hT.ag av [] trivial (by kernel_rfl)
   obtain ⟨f, cX, cY⟩ := hT.vals 1 rfl 16 rfl
   have hAp := hAp.add cY
   obtain ⟨g, cZ, c0⟩ := hT.vals 3 rfl 18 rfl
   have hAp := hAp.add c0
   exact opk_val hAp rfl (r_build (vs := #[(0, Sl.v f), (1, Sl.v g)]) (cells := #[Sl.v f, Sl.v g, .pointer none, Sl.v Sl.nil]) (map_arr2 (ml2_cons (hAp.get rfl) (ml2_cons (hAp.get rfl) (ml2_nil)))) ti_91 Try.underlying91 pl_91 (by kernel_rfl)) fun _ _ e => ⟨_, e, Chg.refl _ _, fun _ => ⟨f, g, cX, cZ, rfl⟩⟩
  ·intro a w hT
   have hAp := hT.ag av [] trivial (by kernel_rfl)
   obtain ⟨f, g, c1, c2, c3⟩ := hT.vals 4 rfl 19 rfl
   have hAp := hAp.add c3
   exact opk_new (fun B => .pointer (some ⟨B, 0, none⟩)) hAp rfl (r_box (cs := [Sl.v f, Sl.v g, .pointer none, Sl.v Sl.nil]) (hAp.get rfl) rfl) fun _ gv d bm c4 c5 _ e => ⟨_, e, bm, fun _ => ⟨f, g, d, (a2 f _ _ bm c1), (a3 g _ _ bm c2), Nat.le_trans hT.chg.size c4.ge, c5, rfl⟩⟩
  ·intro a w hT
   have hAp := hT.ag av [] trivial (by kernel_rfl)
   obtain ⟨f, g, d, c6, c7, c8, c9, da⟩ := hT.vals 5 rfl 20 rfl
   have hAp := hAp.add da
   exact opk_val hAp rfl (r_assign (hAp.get rfl)) fun _ _ e => ⟨_, e, Chg.refl _ _, fun _ => ⟨f, g, d, c6, c7, c8, c9, rfl⟩⟩
  ·intro gx az bd db dc
   have dd := db [(2, Sl.v k)] ⟨rfl, trivial⟩ (by kernel_rfl)
   obtain ⟨f, g, d, df, dg, bn, bS, dh⟩ := dc 6 rfl 7 rfl
   have di := dd.add dh
   have gy := bk.ext bd
   have gz := bl.ext bd
   have gA : Chg [] aq az := bd
   have dj := cU az f g d bd df dg bn bS
   have gB : ap ≠ d := Nat.ne_of_lt (Nat.lt_of_lt_of_le bk.lt bn)
   have gC : ar ≠ d := Nat.ne_of_lt (Nat.lt_of_lt_of_le bl.lt bn)
   refine PR_end (by kernel_rfl) ?_
   have aa := di.kp [(2, Sl.v k), (7, pB d 0)] rfl
   refine then_normal (wp_seq ?_)
   refine draw' (by kernel_rfl) fun aF bT => ?_
   have bo := bS.ext bT
   have dk : Chg [] az aF := bT
   have dl := dj aF    dk
   obtain ⟨aN, dm, dn, dp⟩ := dl
   refine par (D := [[], [], [1], [1, 2], [1, 2, 3], [1, 2, 3, 4], [], [6], [6, 7], [6, 7, 8], [6, 7, 8, 9], [1, 2, 3, 4, 5, 6, 7, 8, 9, 10], [0, 1, 2, 3, 4, 5, 6, 7, 8, 9, 10, 11], [0, 1, 2, 3, 4, 5, 6, 7, 8, 9, 10, 11, 12], [0, 1, 2, 3, 4, 5, 6, 7, 8, 9, 10, 11, 12, 13]]) (S := [0, 1, 2, 3, 4, 5, 6, 7, 8, 9, 10, 11, 12, 13]) (F := []) (V := VL [(0, fun v _ => v = pB d 0), (1, fun v _ => v = pB d 0), (2, fun v _ => v = pB d 0), (3, fun v _ => v = pB d 0), (4, fun v _ => v = Sl.v f), (5, fun v _ => v = .int .i64 (f.n : Int)), (6, fun v _ => v = pB d 0), (7, fun v _ => v = pB d 0), (8, fun v _ => v = pB d 1), (9, fun v _ => v = Sl.v g), (10, fun v _ => v = .int .i64 (g.n : Int)), (11, fun v w' => ∃ x : Option Addr, aN x w' ∧ v = .pointer x), (12, fun v _ => v = pB d 0), (13, fun v _ => v = pB d 2)]) aa (by kernel_rfl) ⟨fun _ _ _ _ h => h, fun _ _ _ _ h => h, fun _ _ _ _ h => h, fun _ _ _ _ h => h, fun _ _ _ _ h => h, fun _ _ _ _ h => h, fun _ _ _ _ h => h, fun _ _ _ _ h => h, fun _ _ _ _ h => h, fun _ _ _ _ h => h, fun _ _ _ _ h => h, fun _ _ _ hE ⟨x, h0_, e⟩ => ⟨x, (dm x _ _ hE h0_), e⟩, fun _ _ _ _ h => h, fun _ _ _ _ h => h, trivial⟩ ⟨?_, ?_, ?_, ?_, ?_, ?_, ?_, ?_, ?_, ?_, ?_, ?_, ?_, ?_, trivial⟩ ?_
   ·intro a w hT
    have hAp := hT.ag aa [(7, pB d 0)] ⟨rfl, trivial⟩ (by kernel_rfl)
    exact ovr hAp rfl (r_move (hAp.get rfl)) fun _ => Eq.refl _
   ·intro a w hT
    have hAp := hT.ag aa [(7, pB d 0)] ⟨rfl, trivial⟩ (by kernel_rfl)
    exact ovr hAp rfl (r_move (hAp.get rfl)) fun _ => Eq.refl _
   ·intro a w hT
    have hAp := hT.ag aa [] trivial (by kernel_rfl)
    have hAp := hAp.add (t := 22) (v := pB d 0) (hT.vals 1 rfl 22 rfl)
    exact ovr hAp rfl (r_nilCheck (hAp.get rfl)) fun _ => Eq.refl _
   ·intro a w hT
    have hAp := hT.ag aa [] trivial (by kernel_rfl)
    have hAp := hAp.add (t := 23) (v := pB d 0) (hT.vals 2 rfl 23 rfl)
    exact ovr hAp rfl (r_fieldAddr (hAp.get rfl) Try.underlying91 rfl ti_31 (by decide)) fun _ => Eq.refl _
   ·intro a w hT
    have hAp := hT.ag aa [] trivial (by kernel_rfl)
    have hAp := hAp.add (t := 24) (v := pB d 0) (hT.vals 3 rfl 24 rfl)
    exact ovr hAp rfl (r_load1 tU31 rfl (hAp.get rfl) ((bo.ext hT.chg).cell 0 _ rfl)) fun _ => Eq.refl _
   ·intro a w hT
    have hAp := hT.ag aa [] trivial (by kernel_rfl)
    have hAp := hAp.add (t := 25) (v := Sl.v f) (hT.vals 4 rfl 25 rfl)
    exact ovr hAp rfl (r_len (hAp.get rfl) tU31) fun _ => Eq.refl _
   ·intro a w hT
    have hAp := hT.ag aa [(7, pB d 0)] ⟨rfl, trivial⟩ (by kernel_rfl)
    exact ovr hAp rfl (r_move (hAp.get rfl)) fun _ => Eq.refl _
   ·intro a w hT
    have hAp := hT.ag aa [] trivial (by kernel_rfl)
    have hAp := hAp.add (t := 27) (v := pB d 0) (hT.vals 6 rfl 27 rfl)
    exact ovr hAp rfl (r_nilCheck (hAp.get rfl)) fun _ => Eq.refl _
   ·intro a w hT
    have hAp := hT.ag aa [] trivial (by kernel_rfl)
    have hAp := hAp.add (t := 28) (v := pB d 0) (hT.vals 7 rfl 28 rfl)
    exact ovr hAp rfl (r_fieldAddr (hAp.get rfl) Try.underlying91 rfl ti_31 (by decide)) fun _ => Eq.refl _
   ·intro a w hT
    have hAp := hT.ag aa [] trivial (by kernel_rfl)
    have hAp := hAp.add (t := 29) (v := pB d 1) (hT.vals 8 rfl 29 rfl)
    exact ovr hAp rfl (r_load1 tU31 rfl (hAp.get rfl) ((bo.ext hT.chg).cell 1 _ rfl)) fun _ => Eq.refl _
   ·intro a w hT
    have hAp := hT.ag aa [] trivial (by kernel_rfl)
    have hAp := hAp.add (t := 30) (v := Sl.v g) (hT.vals 9 rfl 30 rfl)
    exact ovr hAp rfl (r_len (hAp.get rfl) tU31) fun _ => Eq.refl _
   ·intro a w hT
    have hAp := hT.ag aa [] trivial (by kernel_rfl)
    have hAp := hAp.add (t := 26) (v := .int .i64 (f.n : Int)) (hT.vals 5 rfl 26 rfl)
    have hAp := hAp.add (t := 31) (v := .int .i64 (g.n : Int)) (hT.vals 10 rfl 31 rfl)
    exact opk_callX hAp rfl (r_call (args := #[.int .i64 (f.n : Int), .int .i64 (g.n : Int)]) Try.func45 (by decide) rfl (map_arr (ml_cons (hAp.get rfl) (ml_cons (hAp.get rfl) ml_nil))) rfl) (dn w hT.chg) fun _ _ _ _ e ⟨hE, x, he, hV⟩ => ⟨_, e, hE, fun _ => ⟨x, hV, he⟩⟩
   ·intro a w hT
    have hAp := hT.ag aa [] trivial (by kernel_rfl)
    have hAp := hAp.add (t := 21) (v := pB d 0) (hT.vals 0 rfl 21 rfl)
    exact ovr hAp rfl (r_nilCheck (hAp.get rfl)) fun _ => Eq.refl _
   ·intro a w hT
    have hAp := hT.ag aa [] trivial (by kernel_rfl)
    have hAp := hAp.add (t := 33) (v := pB d 0) (hT.vals 12 rfl 33 rfl)
    exact ovr hAp rfl (r_fieldAddr (hAp.get rfl) Try.underlying91 rfl ti_67 (by decide)) fun _ => Eq.refl _
   ·intro dq aG bp dr bU
    have ds := dr [(2, Sl.v k), (7, pB d 0)] ⟨rfl, rfl, trivial⟩ (by kernel_rfl)
    obtain ⟨x, dt, du⟩ := bU 11 rfl 32 rfl
    have dv := ds.add du
    have dx : dq.tmps.getD 34 undef = pB d 2 := bU 13 rfl 34 rfl
    have bq := dv.add dx
    have bV := bo.ext bp
    have gD : Chg [] aF aG := bp
    have dy := dp aG x bp dt
    refine one (D := [[], [], [1], [1, 2], [1, 2, 3], [1, 2, 3, 4], [], [6], [6, 7], [6, 7, 8], [6, 7, 8, 9], [1, 2, 3, 4, 5, 6, 7, 8, 9, 10], [0, 1, 2, 3, 4, 5, 6, 7, 8, 9, 10, 11], [0, 1, 2, 3, 4, 5, 6, 7, 8, 9, 10, 11, 12], [0, 1, 2, 3, 4, 5, 6, 7, 8, 9, 10, 11, 12, 13]]) (i := 14) rfl (by kernel_rfl) (opk_store bq bV (r_store (vs := [.pointer x]) (bq.get rfl) (bq.get rfl) rfl ti_67 bV rfl (ones_all _ rfl)) fun gF aH dz dA dB => ?_)
    have dC : Box aH d 91 [Sl.v f, Sl.v g, .pointer x, Sl.v Sl.nil] := dA
    have dD : Chg [d] aG aH := dz
    refine PR_end (by kernel_rfl) ?_
    have dF := dB.kp [(2, Sl.v k), (7, pB d 0)] rfl
    refine then_normal (wp_seq (wp_seq (wp_region_lit ?_)))
    refine sqv dF rfl (r_assign rfl) fun _ dG => sq_end ?_
    have dH := dG.kp [(2, Sl.v k), (7, pB d 0), (8, .int .i64 0)] rfl
    refine then_normal (wp_block ?_)
    have dI := dy aH    dD
    obtain ⟨aY, mu_147, dJ, dK⟩ := dI
    refine wp_loop_st (σ := Int × World) (fun s a w => Ag 78 a [(2, Sl.v k), (7, pB d 0), (8, .int .i64 s.1)] ∧ Box w d 91 [Sl.v f, Sl.v g, .pointer x, Sl.v Sl.nil] ∧ w = s.2 ∧ aY s.1 s.2) (fun s => mu_147 s.1 s.2) (0, aH) ⟨dH.kp [(2, Sl.v k), (7, pB d 0), (8, .int .i64 0)] rfl, dC, rfl, dJ⟩ ?_
    rintro ⟨j, aA⟩ gG w_ ⟨bX, bY, hw_, dL⟩
    have hw_ : aA = w_ := hw_.symm
    subst hw_
    have bZ := dK j _ dL
    refine wp_seq (wp_seq (wp_region_lit ?_))
    refine sqv bX rfl (r_move (bX.get rfl)) fun _ b0 => sqv b0 rfl (r_move (b0.get rfl)) fun _ b1 => sqv b1 rfl (r_len (b1.get rfl) tU29) fun _ br => sqv br rfl (r_lss (br.get rfl) (br.get rfl)) fun _ dM => sq_end ?_
    have y := dM.kp [(2, Sl.v k), (7, pB d 0), (8, .int .i64 j), (38, .bool (decide (j < (k.n : Int))))] rfl
    refine then_normal ?_
    refine wp_cond_split (y.get rfl) (fun hc => ?_) (fun hc => ?_)
    ·have dN := bZ.1 (of_decide_eq_true hc)
     clear hc
     refine wp_skip ?_
     refine then_normal (wp_seq (wp_block ?_))
     refine draw' (by kernel_rfl) fun aB b2 => ?_
     have b3 := bY.ext b2
     have dO : Chg [] aA aB := b2
     have dP := dN aB    dO
     obtain ⟨aI, b4, dQ⟩ := dP
     obtain ⟨aO, dR, dS⟩ := dQ
     obtain ⟨aJ, b5, dT⟩ := dS
     obtain ⟨aP, dU, dV⟩ := dT
     refine par (D := [[], [0], [0, 1], [0, 1, 2], [], [], [4, 5], [4, 5, 6], [4, 5, 6, 7], [], [], [9, 10], [9, 10, 11], [9, 10, 11, 12], [0, 1, 2, 3, 4, 5, 6, 7, 8, 9, 10, 11, 12, 13]]) (S := [0, 1, 2, 3, 4, 5, 6, 7, 8, 9, 10, 11, 12, 13]) (F := []) (V := VL [(0, fun v _ => v = pB d 0), (1, fun v _ => v = pB d 0), (2, fun v _ => v = pB d 2), (3, fun v _ => v = .pointer x), (4, fun v _ => v = Sl.v k), (5, fun v _ => v = .int .i64 j), (6, fun v _ => v = .pointer (some (aI.add (j.toNat * 2)))), (7, fun v _ => v = .pointer (some ((aI.add (j.toNat * 2)).add 0))), (8, fun v _ => v = .int .i64 aO), (9, fun v _ => v = Sl.v k), (10, fun v _ => v = .int .i64 j), (11, fun v _ => v = .pointer (some (aJ.add (j.toNat * 2)))), (12, fun v _ => v = .pointer (some ((aJ.add (j.toNat * 2)).add 1))), (13, fun v _ => v = .int .i64 aP)]) y (by kernel_rfl) ⟨fun _ _ _ _ h => h, fun _ _ _ _ h => h, fun _ _ _ _ h => h, fun _ _ _ _ h => h, fun _ _ _ _ h => h, fun _ _ _ _ h => h, fun _ _ _ _ h => h, fun _ _ _ _ h => h, fun _ _ _ _ h => h, fun _ _ _ _ h => h, fun _ _ _ _ h => h, fun _ _ _ _ h => h, fun _ _ _ _ h => h, fun _ _ _ _ h => h, trivial⟩ ⟨?_, ?_, ?_, ?_, ?_, ?_, ?_, ?_, ?_, ?_, ?_, ?_, ?_, ?_, trivial⟩ ?_
     ·intro a w hT
      have hAp := hT.ag y [(7, pB d 0)] ⟨rfl, trivial⟩ (by kernel_rfl)
      exact ovr hAp rfl (r_move (hAp.get rfl)) fun _ => Eq.refl _
     ·intro a w hT
      have hAp := hT.ag y [] trivial (by kernel_rfl)
      have hAp := hAp.add (t := 41) (v := pB d 0) (hT.vals 0 rfl 41 rfl)
      exact ovr hAp rfl (r_nilCheck (hAp.get rfl)) fun _ => Eq.refl _
     ·intro a w hT
      have hAp := hT.ag y [] trivial (by kernel_rfl)
      have hAp := hAp.add (t := 42) (v := pB d 0) (hT.vals 1 rfl 42 rfl)
      exact ovr hAp rfl (r_fieldAddr (hAp.get rfl) Try.underlying91 rfl ti_67 (by decide)) fun _ => Eq.refl _
     ·intro a w hT
      have hAp := hT.ag y [] trivial (by kernel_rfl)
      have hAp := hAp.add (t := 43) (v := pB d 2) (hT.vals 2 rfl 43 rfl)
      exact ovr hAp rfl (r_load1 tU67 rfl (hAp.get rfl) ((b3.ext hT.chg).cell 2 _ rfl)) fun _ => Eq.refl _
     ·intro a w hT
      have hAp := hT.ag y [(2, Sl.v k)] ⟨rfl, trivial⟩ (by kernel_rfl)
      exact ovr hAp rfl (r_move (hAp.get rfl)) fun _ => Eq.refl _
     ·intro a w hT
      have hAp := hT.ag y [(8, .int .i64 j)] ⟨rfl, trivial⟩ (by kernel_rfl)
      exact ovr hAp rfl (r_move (hAp.get rfl)) fun _ => Eq.refl _
     ·intro a w hT
      have hAp := hT.ag y [] trivial (by kernel_rfl)
      have hAp := hAp.add (t := 45) (v := Sl.v k) (hT.vals 4 rfl 45 rfl)
      have hAp := hAp.add (t := 46) (v := .int .i64 j) (hT.vals 5 rfl 46 rfl)
      exact ovr hAp rfl (r_indexAddr (hAp.get rfl) (hAp.get rfl) tU29 ti_40 b4.1 b4.2) fun _ => Eq.refl _
     ·intro a w hT
      have hAp := hT.ag y [] trivial (by kernel_rfl)
      have hAp := hAp.add (t := 47) (v := .pointer (some (aI.add (j.toNat * 2)))) (hT.vals 6 rfl 47 rfl)
      exact ovr hAp rfl (r_fieldAddr (hAp.get rfl) Try.underlying40 rfl ti_3 (by decide)) fun _ => Eq.refl _
     ·intro a w hT
      have hAp := hT.ag y [] trivial (by kernel_rfl)
      have hAp := hAp.add (t := 48) (v := .pointer (some ((aI.add (j.toNat * 2)).add 0))) (hT.vals 7 rfl 48 rfl)
      exact ovr hAp rfl (r_load1 tU3 rfl (hAp.get rfl) (Ext.cell hT.chg dR)) fun _ => Eq.refl _
     ·intro a w hT
      have hAp := hT.ag y [(2, Sl.v k)] ⟨rfl, trivial⟩ (by kernel_rfl)
      exact ovr hAp rfl (r_move (hAp.get rfl)) fun _ => Eq.refl _
     ·intro a w hT
      have hAp := hT.ag y [(8, .int .i64 j)] ⟨rfl, trivial⟩ (by kernel_rfl)
      exact ovr hAp rfl (r_move (hAp.get rfl)) fun _ => Eq.refl _
     ·intro a w hT
      have hAp := hT.ag y [] trivial (by kernel_rfl)
      have hAp := hAp.add (t := 50) (v := Sl.v k) (hT.vals 9 rfl 50 rfl)
      have hAp := hAp.add (t := 51) (v := .int .i64 j) (hT.vals 10 rfl 51 rfl)
      exact ovr hAp rfl (r_indexAddr (hAp.get rfl) (hAp.get rfl) tU29 ti_40 b5.1 b5.2) fun _ => Eq.refl _
     ·intro a w hT
      have hAp := hT.ag y [] trivial (by kernel_rfl)
      have hAp := hAp.add (t := 52) (v := .pointer (some (aJ.add (j.toNat * 2)))) (hT.vals 11 rfl 52 rfl)
      exact ovr hAp rfl (r_fieldAddr (hAp.get rfl) Try.underlying40 rfl ti_3 (by decide)) fun _ => Eq.refl _
     ·intro a w hT
      have hAp := hT.ag y [] trivial (by kernel_rfl)
      have hAp := hAp.add (t := 53) (v := .pointer (some ((aJ.add (j.toNat * 2)).add 1))) (hT.vals 12 rfl 53 rfl)
      exact ovr hAp rfl (r_load1 tU3 rfl (hAp.get rfl) (Ext.cell hT.chg dU)) fun _ => Eq.refl _
     ·intro bs aZ b6 dX bt
      have dY := dX [(2, Sl.v k), (7, pB d 0), (8, .int .i64 j)] ⟨rfl, rfl, rfl, trivial⟩ (by kernel_rfl)
      have dZ : bs.tmps.getD 44 undef = .pointer x := bt 3 rfl 44 rfl
      have d0 := dY.add dZ
      have d1 : bs.tmps.getD 49 undef = .int .i64 aO := bt 8 rfl 49 rfl
      have d2 := d0.add d1
      have d3 : bs.tmps.getD 54 undef = .int .i64 aP := bt 13 rfl 54 rfl
      have bf := d2.add d3
      have d4 := b3.ext b6
      have d5 : Chg [] aB aZ := b6
      have d6 := dV aZ    d5
      refine one (D := [[], [0], [0, 1], [0, 1, 2], [], [], [4, 5], [4, 5, 6], [4, 5, 6, 7], [], [], [9, 10], [9, 10, 11], [9, 10, 11, 12], [0, 1, 2, 3, 4, 5, 6, 7, 8, 9, 10, 11, 12, 13]]) (i := 14) rfl (by kernel_rfl) (opk_call bf rfl (r_call (args := #[.pointer x, .int .i64 aO, .int .i64 aP]) Try.func32 (by decide) rfl (map_arr (ml_cons (bf.get rfl) (ml_cons (bf.get rfl) (ml_cons (bf.get rfl) ml_nil)))) rfl) d6 fun gH gI a7 d7 _ d8 gJ d9 => ?_)
      obtain ⟨rfl, fa⟩ := d9
      have fb := d4.kept d8 (.head _)
      refine PR_end (by kernel_rfl) ?_
      have b7 := d7.kp [(2, Sl.v k), (7, pB d 0), (8, .int .i64 j)] rfl
      refine block_normal ?_
      refine then_normal (wp_region_lit ?_)
      refine sqv b7 rfl (r_move (b7.get rfl)) fun _ b8 => ?_
      obtain ⟨fc, b9⟩ := fa
      refine sqv b8 rfl (r_addI (b8.get rfl) rfl fc) fun _ ca => sqv ca rfl (r_assign (ca.get rfl)) fun _ fd => sq_end ?_
      have ff := fd.kp [(2, Sl.v k), (7, pB d 0), (8, .int .i64 (j + 1))] rfl
      have fg := ff.kp [(2, Sl.v k), (7, pB d 0), (8, .int .i64 (j + 1))] rfl
      exact then_normal ⟨(j + 1, a7), ⟨fg, fb, rfl, b9.1⟩, b9.2⟩
    ·have fh := bZ.2 (of_decide_eq_false hc)
     clear hc
     refine wp_exit ?_
     refine then_exit ?_
     refine then_exit ?_
     refine block_hit ?_
     have fi := y.kp [(7, pB d 0)] rfl
     refine then_normal (wp_seq (wp_seq (wp_region_lit ?_)))
     refine sqv fi rfl (r_assign rfl) fun _ fj => sq_end ?_
     have fk := fj.kp [(7, pB d 0), (9, .int .i64 0)] rfl
     refine then_normal (wp_block ?_)
     have fl := fh bY
     obtain ⟨J_400, a8, fm, fn⟩ := fl
     refine wp_loop_st (σ := Int × World) (fun s a w => Ag 78 a [(7, pB d 0), (9, .int .i64 s.1)] ∧ w = s.2 ∧ J_400 s.1 s.2) (fun s => a8 s.1 s.2) (0, aA) ⟨fk.kp [(7, pB d 0), (9, .int .i64 0)] rfl, rfl, fm⟩ ?_
     rintro ⟨u, aC⟩ gK w_ ⟨cb, hw_, fo⟩
     have hw_ : aC = w_ := hw_.symm
     subst hw_
     have fp := fn u _ fo
     refine wp_seq (wp_seq (wp_region_lit ?_))
     refine sqv cb rfl (r_move (cb.get rfl)) fun _ cc => sqv cc rfl (r_move (cc.get rfl)) fun _ cd => sqv cd rfl (r_nilCheck (cd.get rfl)) fun _ cf => sqv cf rfl (r_fieldAddr (cf.get rfl) Try.underlying91 rfl ti_31 (by decide)) fun _ cg => ?_
     obtain ⟨a1, fq, ch⟩ := fp
     refine sqv cg rfl (r_load1 tU31 rfl (cg.get rfl) fq) fun _ ci => sqv ci rfl (r_len (ci.get rfl) tU31) fun _ bu => sqv bu rfl (r_lss (bu.get rfl) (bu.get rfl)) fun _ fr => sq_end ?_
     have ao := fr.kp [(7, pB d 0), (9, .int .i64 u), (62, .bool (decide (u < (a1.n : Int))))] rfl
     refine then_normal ?_
     refine wp_cond_split (ao.get rfl) (fun hc => ?_) (fun hc => ?_)
     ·have fs := ch.1 (of_decide_eq_true hc)
      clear hc
      refine wp_skip ?_
      refine then_normal (wp_seq (wp_block ?_))
      refine draw' (by kernel_rfl) fun au ft => ?_
      have fu : Chg [] aC au := ft
      have fv := fs au    fu
      refine startF (D := [[], [], [1], [1, 2], [1, 2, 3], [], [], [5, 6], [5, 6, 7], [1, 2, 3, 4, 5, 6, 7, 8], [0, 1, 2, 3, 4, 5, 6, 7, 8, 9], [0, 1, 2, 3, 4, 5, 6, 7, 8, 9, 10], [0, 1, 2, 3, 4, 5, 6, 7, 8, 9, 10, 11]]) (Fs := [0, 1, 5, 6]) (Ef := [(0, fun v _ => v = pB d 0), (1, fun v _ => v = pB d 0), (5, fun v _ => v = pB d 0), (6, fun v _ => v = .int .i64 u)]) (by kernel_rfl) ?_
      obtain ⟨aQ, fx, fy⟩ := fv
      obtain ⟨aK, bv, fz, fA⟩ := fy
      refine parF (D := [[], [], [1], [1, 2], [1, 2, 3], [], [], [5, 6], [5, 6, 7], [1, 2, 3, 4, 5, 6, 7, 8], [0, 1, 2, 3, 4, 5, 6, 7, 8, 9], [0, 1, 2, 3, 4, 5, 6, 7, 8, 9, 10], [0, 1, 2, 3, 4, 5, 6, 7, 8, 9, 10, 11]]) (S := [2, 3, 4, 7, 8]) (F := []) (KE := [2, 3, 4, 7, 8]) (E := [(2, fun v _ => v = pB d 0), (3, fun v _ => v = .pointer (some ((⟨d, 0, none⟩ : Addr).add 3))), (4, fun v _ => v = Sl.v aQ), (7, fun v w' => ∃ l : Bool, ∃ m : Bool, ∃ o : Sl, ∃ p : Sl, ∃ q : Int, ∃ r : Sl, aK l m o p q r w' ∧ v = .agg #[.bool l, .bool m, Sl.v o, Sl.v p, .int .i64 q, Sl.v r]), (8, fun v w' => ∃ l : Bool, ∃ m : Bool, ∃ o : Sl, ∃ p : Sl, ∃ q : Int, ∃ r : Sl, ∃ z : Nat, aK l m o p q r w' ∧ au.heap.size ≤ z ∧ Box w' z 93 [.bool l, .bool m, Sl.v o, Sl.v p, .int .i64 q, Sl.v r] ∧ v = Sl.v (Sl.mk (some ⟨z, 0, none⟩) 1 1))]) ao rfl (by kernel_rfl) ⟨fun _ _ _ _ h => h, fun _ _ _ _ h => h, fun _ _ _ _ h => h, fun _ _ _ hE ⟨l, m, o, p, q, r, h0_, e⟩ => ⟨l, m, o, p, q, r, (bv l m o p q r _ _ hE h0_), e⟩, fun _ _ _ hE ⟨l, m, o, p, q, r, z, h0_, h1_, h2_, e⟩ => ⟨l, m, o, p, q, r, z, (bv l m o p q r _ _ hE h0_), h1_, (h2_.ext hE), e⟩, fun _ _ _ _ h => h, fun _ _ _ _ h => h, fun _ _ _ _ h => h, fun _ _ _ _ h => h, trivial⟩ ⟨?_, ?_, ?_, ?_, ?_, ?_, ?_, ?_, ?_, trivial⟩ ?_
      ·intro a w hT
       have hAp := hT.ag ao [] trivial (by kernel_rfl)
       have hAp := hAp.add (t := 66) (v := pB d 0) (hT.vals 1 rfl 66 rfl)
       exact ovr hAp rfl (r_nilCheck (hAp.get rfl)) fun _ => Eq.refl _
      ·intro a w hT
       have hAp := hT.ag ao [] trivial (by kernel_rfl)
       have hAp := hAp.add (t := 67) (v := pB d 0) (hT.vals 2 rfl 67 rfl)
       exact ovr hAp rfl (r_fieldAddr (hAp.get rfl) Try.underlying91 rfl ti_89 (by decide)) fun _ => Eq.refl _
      ·intro a w hT
       have hAp := hT.ag ao [] trivial (by kernel_rfl)
       have hAp := hAp.add (t := 68) (v := .pointer (some ((⟨d, 0, none⟩ : Addr).add 3))) (hT.vals 3 rfl 68 rfl)
       exact ovr hAp rfl (r_load1 tU89 rfl (hAp.get rfl) (Ext.cell hT.chg fx)) fun _ => Eq.refl _
      ·intro a w hT
       have hAp := hT.ag ao [] trivial (by kernel_rfl)
       have hAp := hAp.add (t := 70) (v := pB d 0) (hT.vals 5 rfl 70 rfl)
       have hAp := hAp.add (t := 71) (v := .int .i64 u) (hT.vals 6 rfl 71 rfl)
       exact opk_callX hAp rfl (r_call (args := #[pB d 0, .int .i64 u]) Try.func46 (by decide) rfl (map_arr (ml_cons (hAp.get rfl) (ml_cons (hAp.get rfl) ml_nil))) rfl) (fz w hT.chg) fun _ _ _ _ e ⟨hE, l, m, o, p, q, r, he, hV⟩ => ⟨_, e, hE, fun _ => ⟨l, m, o, p, q, r, hV, he⟩⟩
      ·intro a w hT
       have hAp := hT.ag ao [] trivial (by kernel_rfl)
       obtain ⟨l, m, o, p, q, r, fB, fC⟩ := hT.vals 7 rfl 72 rfl
       have hAp := hAp.add fC
       exact opk_new (fun B => .slice (some ⟨B, 0, none⟩) 1 1) hAp rfl (r_buildSlice (vs := #[(0, .agg #[.bool l, .bool m, Sl.v o, Sl.v p, .int .i64 q, Sl.v r])]) (cs := [.bool l, .bool m, Sl.v o, Sl.v p, .int .i64 q, Sl.v r]) (map_arr2 (ml2_cons (hAp.get rfl) (ml2_nil))) tU89 ti_93 rfl rfl (by kernel_rfl)) fun _ gL z cj fD fF _ e => ⟨_, e, cj, fun _ => ⟨l, m, o, p, q, r, z, (bv l m o p q r _ _ cj fB), Nat.le_trans hT.chg.size fD.ge, fF, rfl⟩⟩
      ·intro a w hT
       have hAp := hT.ag ao [(7, pB d 0)] ⟨rfl, trivial⟩ (by kernel_rfl)
       exact ovr hAp rfl (r_move (hAp.get rfl)) fun _ => Eq.refl _
      ·intro a w hT
       have hAp := hT.ag ao [(7, pB d 0)] ⟨rfl, trivial⟩ (by kernel_rfl)
       exact ovr hAp rfl (r_move (hAp.get rfl)) fun _ => Eq.refl _
      ·intro a w hT
       have hAp := hT.ag ao [(7, pB d 0)] ⟨rfl, trivial⟩ (by kernel_rfl)
       exact ovr hAp rfl (r_move (hAp.get rfl)) fun _ => Eq.refl _
      ·intro a w hT
       have hAp := hT.ag ao [(9, .int .i64 u)] ⟨rfl, trivial⟩ (by kernel_rfl)
       exact ovr hAp rfl (r_move (hAp.get rfl)) fun _ => Eq.refl _
      ·intro fG aD ck fH cl
       have fI := fH [(7, pB d 0), (9, .int .i64 u)] ⟨rfl, rfl, trivial⟩ (by kernel_rfl)
       have fJ : fG.tmps.getD 69 undef = Sl.v aQ := cl 4 rfl 69 rfl
       have fK := fI.add fJ
       obtain ⟨l, m, o, p, q, r, z, fL, fM, cm, fN⟩ := cl 8 rfl 73 rfl
       have aV := fK.add fN
       have gM : Chg [] au aD := ck
       have fO := fA aD l m o p q r z ck fL fM cm
       refine oneF (c := 9) aV rfl (by kernel_rfl) (constF ⟨fun _ _ _ h => h, fun _ _ _ h => h, fun _ _ _ h => h, fun _ _ _ h => h, trivial⟩) ⟨?_, ?_, ?_, ?_, trivial⟩ ?_
       ·intro a hT
        have hAp := hT.ag aV [(7, pB d 0)] ⟨rfl, trivial⟩ (by kernel_rfl)
        exact opk_val hAp rfl (r_move (hAp.get rfl)) fun _ _ e => ⟨_, e, rfl, fun _ => Eq.refl _⟩
       ·intro a hT
        have hAp := hT.ag aV [(7, pB d 0)] ⟨rfl, trivial⟩ (by kernel_rfl)
        exact opk_val hAp rfl (r_move (hAp.get rfl)) fun _ _ e => ⟨_, e, rfl, fun _ => Eq.refl _⟩
       ·intro a hT
        have hAp := hT.ag aV [(7, pB d 0)] ⟨rfl, trivial⟩ (by kernel_rfl)
        exact opk_val hAp rfl (r_move (hAp.get rfl)) fun _ _ e => ⟨_, e, rfl, fun _ => Eq.refl _⟩
       ·intro a hT
        have hAp := hT.ag aV [(9, .int .i64 u)] ⟨rfl, trivial⟩ (by kernel_rfl)
        exact opk_val hAp rfl (r_move (hAp.get rfl)) fun _ _ e => ⟨_, e, rfl, fun _ => Eq.refl _⟩
       ·intro gN hT
        have bx := hT.ag aV [(7, pB d 0), (9, .int .i64 u), (69, Sl.v aQ), (73, Sl.v (Sl.mk (some ⟨z, 0, none⟩) 1 1))] ⟨rfl, rfl, rfl, rfl, trivial⟩ (by kernel_rfl)
        have fP := fO cm
        refine (opk_run bx rfl (fun _ _ hr => r_append (bx.get rfl) (bx.get rfl) hr) fP fun gO gP bg a4 fQ gQ gR fR => ?_)
        refine ⟨_, fQ, ?_⟩
        obtain ⟨aR, rfl, fS⟩ := fR
        refine joinF a4 (by kernel_rfl) ⟨fun _ _ _ _ h => h, fun _ _ _ _ h => h, fun _ _ _ _ h => h, fun _ _ _ _ h => h, trivial⟩ ⟨?_, ?_, ?_, ?_, trivial⟩ ?_
        ·intro a w hT
         have hAp := hT.ag a4 [(7, pB d 0)] ⟨rfl, trivial⟩ (by kernel_rfl)
         exact ovr hAp rfl (r_move (hAp.get rfl)) fun _ => Eq.refl _
        ·intro a w hT
         have hAp := hT.ag a4 [(7, pB d 0)] ⟨rfl, trivial⟩ (by kernel_rfl)
         exact ovr hAp rfl (r_move (hAp.get rfl)) fun _ => Eq.refl _
        ·intro a w hT
         have hAp := hT.ag a4 [(7, pB d 0)] ⟨rfl, trivial⟩ (by kernel_rfl)
         exact ovr hAp rfl (r_move (hAp.get rfl)) fun _ => Eq.refl _
        ·intro a w hT
         have hAp := hT.ag a4 [(9, .int .i64 u)] ⟨rfl, trivial⟩ (by kernel_rfl)
         exact ovr hAp rfl (r_move (hAp.get rfl)) fun _ => Eq.refl _
        ·intro fT aS fU fV fX
         have fY := fV [(7, pB d 0), (9, .int .i64 u), (74, Sl.v aR)] ⟨rfl, rfl, rfl, trivial⟩ (by kernel_rfl)
         have fZ : fT.tmps.getD 65 undef = pB d 0 := fX 0 rfl 65 rfl
         have bz := fY.add fZ
         have f0 : Chg [] bg aS := fU
         have f1 := fS aS    f0
         refine par (D := [[], [], [1], [1, 2], [1, 2, 3], [], [], [5, 6], [5, 6, 7], [1, 2, 3, 4, 5, 6, 7, 8], [0, 1, 2, 3, 4, 5, 6, 7, 8, 9], [0, 1, 2, 3, 4, 5, 6, 7, 8, 9, 10], [0, 1, 2, 3, 4, 5, 6, 7, 8, 9, 10, 11]]) (S := [10, 11]) (F := []) (V := VL [(10, fun v _ => v = pB d 0), (11, fun v _ => v = .pointer (some ((⟨d, 0, none⟩ : Addr).add 3)))]) bz (by kernel_rfl) ⟨fun _ _ _ _ h => h, fun _ _ _ _ h => h, trivial⟩ ⟨?_, ?_, trivial⟩ ?_
         ·intro a w hT
          have hAp := hT.ag bz [(65, pB d 0)] ⟨rfl, trivial⟩ (by kernel_rfl)
          exact ovr hAp rfl (r_nilCheck (hAp.get rfl)) fun _ => Eq.refl _
         ·intro a w hT
          have hAp := hT.ag bz [] trivial (by kernel_rfl)
          have hAp := hAp.add (t := 75) (v := pB d 0) (hT.vals 10 rfl 75 rfl)
          exact ovr hAp rfl (r_fieldAddr (hAp.get rfl) Try.underlying91 rfl ti_89 (by decide)) fun _ => Eq.refl _
         ·intro f2 aT f3 f4 f5
          have f6 := f4 [(7, pB d 0), (9, .int .i64 u), (74, Sl.v aR)] ⟨rfl, rfl, rfl, trivial⟩ (by kernel_rfl)
          have f7 : f2.tmps.getD 76 undef = .pointer (some ((⟨d, 0, none⟩ : Addr).add 3)) := f5 11 rfl 76 rfl
          have bA := f6.add f7
          have f8 : Chg [] aS aT := f3
          have f9 := f1 aT    f8
          obtain ⟨aU, a9, bh, ba, ga, cn, gb, gS, gc⟩ := f9
          refine one (D := [[], [], [1], [1, 2], [1, 2, 3], [], [], [5, 6], [5, 6, 7], [1, 2, 3, 4, 5, 6, 7, 8], [0, 1, 2, 3, 4, 5, 6, 7, 8, 9], [0, 1, 2, 3, 4, 5, 6, 7, 8, 9, 10], [0, 1, 2, 3, 4, 5, 6, 7, 8, 9, 10, 11]]) (i := 12) rfl (by kernel_rfl) (opk_store bA cn (r_store (vs := [Sl.v aR]) (((bA.get rfl)).trans (congrArg (fun a => Value.pointer (some a)) ga)) (bA.get rfl) rfl ti_89 cn (Nat.ble_eq_true_of_le gb) (ones_all _ rfl)) fun gT aL gd gf gg => ?_)
          have gh := gc aL gd gf
          refine PR_end (by kernel_rfl) ?_
          have co := gg.kp [(7, pB d 0), (9, .int .i64 u)] rfl
          refine block_normal ?_
          refine then_normal (wp_region_lit ?_)
          refine sqv co rfl (r_move (co.get rfl)) fun _ cp => ?_
          obtain ⟨gi, cq⟩ := gh
          refine sqv cp rfl (r_addI (cp.get rfl) rfl gi) fun _ cr => sqv cr rfl (r_assign (cr.get rfl)) fun _ gj => sq_end ?_
          have gk := gj.kp [(7, pB d 0), (9, .int .i64 (u + 1))] rfl
          have gl := gk.kp [(7, pB d 0), (9, .int .i64 (u + 1))] rfl
          exact then_normal ⟨(u + 1, aL), ⟨gl, rfl, cq.1⟩, cq.2⟩
     ·have gm := ch.2 (of_decide_eq_false hc)
      clear hc
      refine wp_exit ?_
      refine then_exit ?_
      refine then_exit ?_
      refine block_hit ?_
      have ct := ao.kp [(7, pB d 0)] rfl
      refine then_normal (wp_seq (wp_region_lit ?_))
      refine sqv ct rfl (r_move (ct.get rfl)) fun _ cu => sqv cu rfl (r_assign (cu.get rfl)) fun _ gn => sq_end ?_
      have cv := gn.kp [(6, pB d 0)] rfl
      refine then_normal ?_
      refine wp_ret ?_
      exact res_all (vs := [pB d 0]) rfl cv ⟨res_of_tmp cv rfl, trivial⟩ gm
end Go.Proofs.Yteohbfaechfliaa
