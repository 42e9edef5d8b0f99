/-
  PRINTED BY PROGRAM: for each function its condition (vc), and that this suffices (ok).
-/
import Derived.Test.YteohbfaechfliaaQSlotsTurnedGT
namespace Go.Proofs.Yteohbfaechfliaa
open Go.RowKit
set_option linter.unusedVariables false
set_option maxHeartbeats 1000000
set_option maxRecDepth 10000
def law00_Grown.vc (k : Sl) (R : Value → World → Prop) (w : World) : Prop :=
∀ (o : World) (f : Nat) (m : Nat) (l : Nat) (b : Nat), New w f o → New w m o → New w l o → New w b o → f ≠ m → f ≠ l → f ≠ b → m ≠ l → m ≠ b → l ≠ b → Chg [] w o →
∀ (_ : Box o m 3 [.int .i64 0]),
CallK Try.prog 25 #[Sl.v k, .pointer (some (⟨m, 0, none⟩ : Addr))] o [f, l, b] (fun v aq => ∃ (ar : Int), v = .int .i64 ar ∧
∀ (_ : Box aq l 3 [.int .i64 0]),
∃ (au : Int → Sl → World → Prop) (aG : Int → Sl → World → Nat),
au (ar.tmod 4) Sl.nil aq ∧
(∀ (g : Int) (n : Sl) (y : World), au g n y →
∃ (ab : Int), (((0 ≤ g)) → y.cell? (⟨l, 0, none⟩ : Addr) = some (.int .i64 ab)) ∧
(((0 ≤ g) ∧ (ab < 40)) →
∀ (ad : World), Chg [] y ad →
CallK Try.prog 26 #[Sl.v k, .pointer (some (⟨m, 0, none⟩ : Addr)), .pointer (some (⟨l, 0, none⟩ : Addr)), .int .i64 1] ad [f, b] (fun v af => ∃ (p : Int) (q : Str) (r : Str) (s : Sl) (u : Sl), v = .agg #[.int .i64 p, .string (Bs q), .string (Bs r), Sl.v s, Sl.v u] ∧
∀ (z : World) (j : Nat), Ext af z → af.heap.size ≤ j → Box z j 26 [.int .i64 p, .string (Bs q), .string (Bs r), Sl.v s, Sl.v u] → 
∀ (aa : World), Chg [] z aa →
∀ (_ : Box aa j 26 [.int .i64 p, .string (Bs q), .string (Bs r), Sl.v s, Sl.v u]),
RunK Try.prog (Builtin.append_ #[24, 24] 24 #[Sl.v n, Sl.v (Sl.mk (some ⟨j, 0, none⟩) 1 1)]) aa [f, b] (fun v av => ∃ (x : Sl), v = Sl.v x ∧
(I64 (g - 1)) ∧
∀ (ah : World), Chg [b] av ah →
au (g - 1) x ah ∧ aG (g - 1) x ah < aG g n y))) ∧
(((¬ (0 ≤ g)) ∨ (¬ (ab < 40))) →
∀ (ax : World), Chg [f] y ax →
R (.agg #[.int .i64 1, .string (Bs []), .string (Bs []), Sl.v Sl.nil, Sl.v n]) ax)))
theorem law00_Grown.ok (k : Sl) {R : Value → World → Prop} {w : World} (aR : law00_Grown.vc k R w) : Calls Try.prog 8 #[Sl.v k] w (Ret R) := by
 refine go _ Try.func8 Try.ntmps8 aR ?_
 refine gS <| gR <| na ti_26 fun w3 f => ge <| tn <| gS <| gR ?_
 refine na ti_3 fun w6 m => ?_
 refine na ti_3 fun w8 l => ?_
 refine wn 1 1 ti_3 fun w9 => ?_
 refine wn 0 0 ti_3 fun b0 => ge <| tn <| gS <| gR ?_
 refine gbu ti_26 Try.underlying26 pl_26 (OPs.of rfl) ?_
 refine na ti_26 fun b1 b => ?_
 refine wn 0 0 ti_26 fun o => ge <| tn <| gS <| gS <| gR ?_
 refine gM ?_
 refine gT (fun h d c v => v _ f m l b (h _ (by simp)) (h _ (by simp)) (h _ (by simp)) (h _ (by simp)) (fun e => by simp [e] at d) (fun e => by simp [e] at d) (fun e => by simp [e] at d) (fun e => by simp [e] at d) (fun e => by simp [e] at d) (fun e => by simp [e] at d) c) ?_
 refine gX 2 ?_
 refine gC [3, 1, 0] Try.func25 fun _ aq => gE fun ar => gQ ?_
 refine g2 (fun aS aU => r_rem aS aU (by decide : (4 : Int) ≠ 0)) ?_
 refine gN <| ge <| tn <| gb ?_
 refine gX 1 <| gE fun _ => gE fun mu => ?_
 refine l2 mu (fun g _ => [(6, .int .i64 g)]) [(0, _), (2, _), (3, _), (4, _), (5, _)] (fun _ n => [(b, 26, [.int .i64 1, .string (Bs []), .string (Bs []), Sl.v Sl.nil, Sl.v n])]) [(f, _, _)] [2, 0] fun g n y _ => gS <| gS <| gR ?_
 refine gM ?_
 refine g2 r_geq ?_
 refine gM ?_
 refine gE fun ab => GLd tU3 (fun hg => (dT (g_t hg))) ?_
 refine G2 r_lss ?_
 refine gpa <| ge <| tn ?_
 refine gi (fun h => ⟨(dT (aT h).1), (dT (aT h).2)⟩) (fun h => ((aF h).imp (fun h => (dF h)) (fun h => (dF h)))) ?_ ?_
 ·refine gk <| tn <| gS <| gb ?_
  intro b2 al aV
  have ai := al.ag
  have aX := al.bx 1 rfl
  have aY := al.bx 0 rfl
  have aH : f ≠ b := al.ne 1 0
  let aj : List (List Nat) := [[], [0], [], [2], [2, 3], [0, 1, 2, 3, 4], [0, 1, 2, 3, 4, 5], [0, 1, 2, 3, 4, 5, 6]]
  refine draw' (by kernel_rfl) fun ad ay => ?_
  have aZ := aX.ext ay
  have aI := aY.ext ay
  have a0 : Chg [] y ad := ay
  have a1 := aV ad    a0
  refine startF (D := aj) (Fs := [0, 1, 2]) (Ef := [(0, fun v _ => v = pB b 4), (1, fun v _ => v = Sl.v n), (2, fun v _ => v = Sl.v k)]) (by kernel_rfl) ?_
  refine oneF (c := 3) ai rfl (by kernel_rfl) (constF ⟨fun _ _ _ h => h, fun _ _ _ h => h, fun _ _ _ h => h, trivial⟩) ⟨?_, ?_, ?_, trivial⟩ ?_
  ·intro a hT
   have hAp := hT.ag ai [(5, pB b 0)] ⟨rfl, trivial⟩ (by kernel_rfl)
   exact opk_val hAp rfl (r_fieldAddr (hAp.get rfl) Try.underlying26 rfl ti_24 (by decide)) fun _ _ e => ⟨_, e, rfl, fun _ => Eq.refl _⟩
  ·intro a hT
   have hAp := hT.ag ai [] trivial (by kernel_rfl)
   have hAp := hAp.add (t := 19) (v := pB b 4) (hT.vals 0 rfl 19 rfl)
   exact opk_val hAp rfl (r_load1 tU24 rfl (hAp.get rfl) ((aI.ext hT.chg).cell 4 _ rfl)) fun _ _ e => ⟨_, e, rfl, fun _ => Eq.refl _⟩
  ·intro a hT
   have hAp := hT.ag ai [(0, Sl.v k)] ⟨rfl, trivial⟩ (by kernel_rfl)
   exact opk_val hAp rfl (r_move (hAp.get rfl)) fun _ _ e => ⟨_, e, rfl, fun _ => Eq.refl _⟩
  ·intro a2 hT
   have a3 := hT.ag ai [(0, Sl.v k), (2, pB f 0), (3, pB m 0), (4, pB l 0), (5, pB b 0), (6, .int .i64 g), (16, .bool ((decide (0 ≤ g)) && (decide (ab < 40))))] ⟨rfl, rfl, rfl, rfl, rfl, rfl, rfl, trivial⟩ (by kernel_rfl)
   have a4 : a2.tmps.getD 21 undef = Sl.v k := hT.vals 2 rfl 21 rfl
   have am := a3.add a4
   refine (opk_call am rfl (r_call (args := #[Sl.v k, pB m 0, pB l 0, .int .i64 1]) Try.func26 (by decide) rfl (map_arr (ml_cons (am.get rfl) (ml_cons (am.get rfl) (ml_cons (am.get rfl) (ml_cons rfl ml_nil))))) rfl) a1 fun b3 b4 af ak a5 aJ b5 a6 => ?_)
   refine ⟨_, a5, ?_⟩
   obtain ⟨p, q, r, s, u, rfl, a7⟩ := a6
   have aK := aZ.kept aJ (.head _)
   have az := aI.kept aJ (.tail _ (.head _))
   refine parF (D := aj) (S := [4]) (F := []) (KE := [4]) (E := [(4, fun v w' => ∃ j : Nat, af.heap.size ≤ j ∧ Box w' j 26 [.int .i64 p, .string (Bs q), .string (Bs r), Sl.v s, Sl.v u] ∧ v = Sl.v (Sl.mk (some ⟨j, 0, none⟩) 1 1))]) ak rfl (by kernel_rfl) ⟨fun _ _ _ hE ⟨j, h0_, h1_, e⟩ => ⟨j, h0_, (h1_.ext hE), e⟩, fun _ _ _ _ h => h, fun _ _ _ _ h => h, fun _ _ _ _ h => h, trivial⟩ ⟨?_, ?_, ?_, ?_, trivial⟩ ?_
   ·intro a w hT
    have hAp := hT.ag ak [(22, .agg #[.int .i64 p, .string (Bs q), .string (Bs r), Sl.v s, Sl.v u])] ⟨rfl, trivial⟩ (by kernel_rfl)
    exact opk_new (fun B => .slice (some ⟨B, 0, none⟩) 1 1) hAp rfl (r_buildSlice (vs := #[(0, .agg #[.int .i64 p, .string (Bs q), .string (Bs r), Sl.v s, Sl.v u])]) (cs := [.int .i64 p, .string (Bs q), .string (Bs r), Sl.v s, Sl.v u]) (map_arr2 (ml2_cons (hAp.get rfl) (ml2_nil))) tU24 ti_26 rfl rfl (by kernel_rfl)) fun _ b6 j a8 a9 ba _ e => ⟨_, e, a8, fun _ => ⟨j, Nat.le_trans hT.chg.size a9.ge, ba, rfl⟩⟩
   ·intro a w hT
    have hAp := hT.ag ak [(5, pB b 0)] ⟨rfl, trivial⟩ (by kernel_rfl)
    exact ovr hAp rfl (r_fieldAddr (hAp.get rfl) Try.underlying26 rfl ti_24 (by decide)) fun _ => Eq.refl _
   ·intro a w hT
    have hAp := hT.ag ak [] trivial (by kernel_rfl)
    have hAp := hAp.add (t := 19) (v := pB b 4) (hT.vals 0 rfl 19 rfl)
    exact ovr hAp rfl (r_load1 tU24 rfl (hAp.get rfl) ((az.ext hT.chg).cell 4 _ rfl)) fun _ => Eq.refl _
   ·intro a w hT
    have hAp := hT.ag ak [(0, Sl.v k)] ⟨rfl, trivial⟩ (by kernel_rfl)
    exact ovr hAp rfl (r_move (hAp.get rfl)) fun _ => Eq.refl _
   ·intro b7 z an bb bd
    have bf := bb [(0, Sl.v k), (2, pB f 0), (3, pB m 0), (4, pB l 0), (5, pB b 0), (6, .int .i64 g)] ⟨rfl, rfl, rfl, rfl, rfl, rfl, trivial⟩ (by kernel_rfl)
    obtain ⟨j, aA, aL, bg⟩ := bd 4 rfl 23 rfl
    have ao := bf.add bg
    have bi := aK.ext an
    have aM := az.ext an
    have b8 : Chg [] af z := an
    have bj := a7 z j an aA aL
    have b9 : f ≠ j := Nat.ne_of_lt (Nat.lt_of_lt_of_le aK.lt aA)
    have ca : b ≠ j := Nat.ne_of_lt (Nat.lt_of_lt_of_le az.lt aA)
    refine joinF ao (by kernel_rfl) ⟨fun _ _ _ _ h => h, fun _ _ _ _ h => h, fun _ _ _ _ h => h, trivial⟩ ⟨?_, ?_, ?_, trivial⟩ ?_
    ·intro a w hT
     have hAp := hT.ag ao [(5, pB b 0)] ⟨rfl, trivial⟩ (by kernel_rfl)
     exact ovr hAp rfl (r_fieldAddr (hAp.get rfl) Try.underlying26 rfl ti_24 (by decide)) fun _ => Eq.refl _
    ·intro a w hT
     have hAp := hT.ag ao [] trivial (by kernel_rfl)
     have hAp := hAp.add (t := 19) (v := pB b 4) (hT.vals 0 rfl 19 rfl)
     exact ovr hAp rfl (r_load1 tU24 rfl (hAp.get rfl) ((aM.ext hT.chg).cell 4 _ rfl)) fun _ => Eq.refl _
    ·intro a w hT
     have hAp := hT.ag ao [(0, Sl.v k)] ⟨rfl, trivial⟩ (by kernel_rfl)
     exact ovr hAp rfl (r_move (hAp.get rfl)) fun _ => Eq.refl _
    ·intro bk aa ap bl bo
     have bp := bl [(0, Sl.v k), (2, pB f 0), (3, pB m 0), (4, pB l 0), (5, pB b 0), (6, .int .i64 g), (23, Sl.v (Sl.mk (some ⟨j, 0, none⟩) 1 1))] ⟨rfl, rfl, rfl, rfl, rfl, rfl, rfl, trivial⟩ (by kernel_rfl)
     have bq : bk.tmps.getD 20 undef = Sl.v n := bo 1 rfl 20 rfl
     have aB := bp.add bq
     have bt := bi.ext ap
     have bu := aM.ext ap
     have bv := aL.ext ap
     have bz : Chg [] z aa := ap
     have bA := bj aa    bz
     have bB := bA bv
     refine one (D := aj) (i := 5) rfl (by kernel_rfl) (opk_run aB rfl (fun _ _ hr => r_append (aB.get rfl) (aB.get rfl) hr) bB fun cb cc av aN _ aO cd bC => ?_)
     obtain ⟨x, rfl, bD⟩ := bC
     have bF := bt.kept aO (.head _)
     have bG := bu.kept aO (.tail _ (.head _))
     refine par (D := aj) (S := [6]) (F := []) (V := VL [(6, fun v _ => v = pB b 4)]) aN (by kernel_rfl) ⟨fun _ _ _ _ h => h, trivial⟩ ⟨?_, trivial⟩ ?_
     ·intro a w hT
      have hAp := hT.ag aN [(5, pB b 0)] ⟨rfl, trivial⟩ (by kernel_rfl)
      exact ovr hAp rfl (r_fieldAddr (hAp.get rfl) Try.underlying26 rfl ti_24 (by decide)) fun _ => Eq.refl _
     ·intro bH bI aC bJ bK
      have bL := bJ [(0, Sl.v k), (2, pB f 0), (3, pB m 0), (4, pB l 0), (5, pB b 0), (6, .int .i64 g), (24, Sl.v x)] ⟨rfl, rfl, rfl, rfl, rfl, rfl, rfl, trivial⟩ (by kernel_rfl)
      have bM : bH.tmps.getD 25 undef = pB b 4 := bK 6 rfl 25 rfl
      have aD := bL.add bM
      have bN := bF.ext aC
      have aP := bG.ext aC
      have bO : Chg [] av bI := aC
      refine one (D := aj) (i := 7) rfl (by kernel_rfl) (opk_store aD aP (r_store (vs := [Sl.v x]) (aD.get rfl) (aD.get rfl) rfl ti_24 aP rfl (ones_all _ rfl)) fun cf ah aQ bP bQ => ?_)
      have bR : Box ah b 26 [.int .i64 1, .string (Bs []), .string (Bs []), Sl.v Sl.nil, Sl.v x] := bP
      have bS := bN.keep aQ (by simpa using aH)
      have bT := bO.storeOld aQ
      refine PR_end (by kernel_rfl) ?_
      have bU := bQ.kp [(0, Sl.v k), (2, pB f 0), (3, pB m 0), (4, pB l 0), (5, pB b 0), (6, .int .i64 g)] rfl
      refine gK (bs := [(b, 26, [.int .i64 1, .string (Bs []), .string (Bs []), Sl.v Sl.nil, Sl.v x]), (f, 26, [.int .i64 0, .string (Bs []), .string (Bs []), Sl.v Sl.nil, Sl.v Sl.nil])]) (N := []) bU bT ⟨bR, bS, trivial⟩ (by simp [(Ne.symm aH)]) trivial (by simp) bD ?_
      refine bn <| tn <| gR <| gM ?_
      refine g2s r_subI ?_
      refine gN <| ge <| gT0 ?_
      exact k2 [0, 1]
 ·refine gx <| te <| te <| bh <| tn <| gS <| gR <| gBN 0 5 Try.underlying26 ti_26 ?_
  refine wo 1 ti_26 fun ax => ge <| tn <| gr <| gT0 ?_
  exact gzB 1 Try.underlying26 ti_26
def law00_Turned.vc (f : Int) (g : Str) (i : Str) (j : Sl) (k : Sl) (r : Sl) (R : Value → World → Prop) (w : World) : Prop :=
∀ (b : World) (c : Nat) (a : Nat) (d : Nat), New w c b → New w a b → New w d b → c ≠ a → c ≠ d → a ≠ d → Chg [] w b →
∀ (_ : Box b d 3 [.int .i64 0]),
CallK Try.prog 27 #[.agg #[.int .i64 f, .string (Bs g), .string (Bs i), Sl.v j, Sl.v k], Sl.v r, .pointer (some (⟨d, 0, none⟩ : Addr)), .int .i64 1] b [c, a] (fun v z => ∃ (l : Int) (m : Str) (n : Str) (o : Sl) (p : Sl), v = .agg #[.int .i64 l, .string (Bs m), .string (Bs n), Sl.v o, Sl.v p] ∧
∀ (s : World) (t : Nat), New z t s → Chg [] z s →
CallK Try.prog 28 #[.agg #[.int .i64 l, .string (Bs m), .string (Bs n), Sl.v o, Sl.v p]] s [c, a, t] (fun v u => ∃ (q : Bool), v = .bool q ∧
∃ (x : Int), (((q = true)) → Calls Try.prog 15 #[.agg #[.int .i64 l, .string (Bs m), .string (Bs n), Sl.v o, Sl.v p]] u (Ret fun v w' => Ext u w' ∧ v = .int .i64 x)) ∧
(∀ y : World, Ext u y →
(((q = false) ∨ (60 < x)) →
CallK Try.prog 19 #[.agg #[.int .i64 f, .string (Bs g), .string (Bs i), Sl.v j, Sl.v k]] y [c, a, t] (fun v aj => ∃ (aa : Int) (ab : Str) (ad : Str) (af : Sl) (ag : Sl), v = .agg #[.int .i64 aa, .string (Bs ab), .string (Bs ad), Sl.v af, Sl.v ag] ∧
∀ (ah : World), Chg [a] aj ah →
R (.agg #[.int .i64 aa, .string (Bs ab), .string (Bs ad), Sl.v af, Sl.v ag]) ah)) ∧
(((q = true) ∧ (¬ (60 < x))) →
∀ (ai : World), Chg [a] y ai →
R (.agg #[.int .i64 l, .string (Bs m), .string (Bs n), Sl.v o, Sl.v p]) ai))))
theorem law00_Turned.ok (f : Int) (g : Str) (i : Str) (j : Sl) (k : Sl) (r : Sl) {R : Value → World → Prop} {w : World} (ak : law00_Turned.vc f g i j k r R w) : Calls Try.prog 9 #[.agg #[.int .i64 f, .string (Bs g), .string (Bs i), Sl.v j, Sl.v k], Sl.v r] w (Ret R) := by
 refine go _ Try.func9 Try.ntmps9 ak ?_
 refine gS <| gR <| nb fun w4 c => ?_
 refine na ti_26 fun w6 a => ge <| tn <| gS <| gR ?_
 refine na ti_3 fun w9 d => ?_
 refine wn 0 0 ti_3 fun b => ge <| tn <| gS <| gR ?_
 refine gBN 2 5 Try.underlying26 ti_26 ?_
 refine gM <| gT3 ?_
 refine gX 0 ?_
 refine gC [2, 1] Try.func27 fun _ z => gE fun l => gE fun m => gE fun n => gE fun o => gE fun p => gQ ?_
 refine na ti_26 fun ao t => ?_
 refine wn 0 0 ti_26 fun s => ge <| tn <| gS <| gS <| gR ?_
 refine gBN 0 5 Try.underlying26 ti_26 <| gT1 ?_
 refine gC [1, 2, 0] Try.func28 fun _ u => gE fun q => gQ ?_
 refine g1 r_not ?_
 refine gM ?_
 refine GBN 0 5 Try.underlying26 ti_26 ?_
 refine gE fun x => GC Try.func15 (fun hg => (nF (g_f hg))) fun y => ?_
 refine G2 r_gtr ?_
 refine gpo <| ge <| tn ?_
 refine gi (fun h => ((oT h).imp (fun h => (nT h)) (fun h => (dT h)))) (fun h => ⟨(nF (oF h).1), (dF (oF h).2)⟩) ?_ ?_
 ·refine gS <| gR <| gBN 1 5 Try.underlying26 ti_26 ?_
  refine gC [1, 2, 0] Try.func19 fun _ aj => gE fun aa => gE fun ab => gE fun ad => gE fun af => gE fun ag => gQ ?_
  refine wo 2 ti_26 fun ah => ge <| tn <| gr <| tr <| gT0 ?_
  exact gzB 2 Try.underlying26 ti_26
 ·refine gk <| tn <| gS <| gR <| gBN 0 5 Try.underlying26 ti_26 ?_
  refine wo 2 ti_26 fun ai => ge <| tn <| gr <| gT0 ?_
  exact gzB 2 Try.underlying26 ti_26
def law00_Tree.vc (af : Int) (ag : Str) (ah : Str) (an : Sl) (m : Sl) (R : Value → World → Prop) (w : World) : Prop :=
∀ (l : World) (ai : Nat) (t : Nat), New w ai l → New w t l → ai ≠ t → Chg [] w l →
∃ u : Sl → World → Prop, (∀ c : Sl, ∀ w' w'' : World, Ext w' w'' → u c w' → u c w'') ∧
(∀ w' : World, Ext l w' → Calls Try.prog 43 #[Sl.v an] w' (Ret fun v w'' => Ext w' w'' ∧ ∃ c : Sl, v = Sl.v c ∧ u c w'')) ∧
∀ (aj : World) (c : Sl) (k : Nat), Ext l aj → u c aj → l.heap.size ≤ k → Box aj k 26 [.int .i64 0, .string (Bs []), .string (Bs []), Sl.v Sl.nil, Sl.v Sl.nil] → 
∀ (aq : World), Chg [k] aj aq →
∃ (ar : Int → Sl → World → Prop) (aD : Int → Sl → World → Nat),
ar 0 Sl.nil aq ∧
(∀ (b : Int) (o : Sl) (ak : World), ar b o ak →
((b < (m.n : Int)) →
∀ (p : World), Chg [] ak p →
∃ au : Addr, (((0 : Int) ≤ b ∧ b < (m.n : Int)) ∧ m.a = some au) ∧
∃ (av : Int) (ax : Str) (ay : Str) (az : Sl) (aA : Sl), (Cells p (au.add (b.toNat * 5)) [.int .i64 av, .string (Bs ax), .string (Bs ay), Sl.v az, Sl.v aA]) ∧
∃ q : Int → Str → Str → Sl → Sl → World → Prop, (∀ d : Int, ∀ f : Str, ∀ g : Str, ∀ i : Sl, ∀ j : Sl, ∀ w' w'' : World, Ext w' w'' → q d f g i j w' → q d f g i j w'') ∧
(∀ w' : World, Ext p w' → Calls Try.prog 19 #[.agg #[.int .i64 av, .string (Bs ax), .string (Bs ay), Sl.v az, Sl.v aA]] w' (Ret fun v w'' => Ext w' w'' ∧ ∃ d : Int, ∃ f : Str, ∃ g : Str, ∃ i : Sl, ∃ j : Sl, v = .agg #[.int .i64 d, .string (Bs f), .string (Bs g), Sl.v i, Sl.v j] ∧ q d f g i j w'')) ∧
∀ (x : World) (y : Int) (z : Str) (aa : Str) (ab : Sl) (ad : Sl) (r : Nat), Ext p x → q y z aa ab ad x → p.heap.size ≤ r → Box x r 26 [.int .i64 y, .string (Bs z), .string (Bs aa), Sl.v ab, Sl.v ad] → 
∀ (_ : Box x r 26 [.int .i64 y, .string (Bs z), .string (Bs aa), Sl.v ab, Sl.v ad]),
RunK Try.prog (Builtin.append_ #[24, 24] 24 #[Sl.v o, Sl.v (Sl.mk (some ⟨r, 0, none⟩) 1 1)]) x [ai, t, k] (fun v aG => ∃ (ao : Sl), v = Sl.v ao ∧
(I64 (b + 1)) ∧
∀ (ap : World), Chg [k] aG ap →
ar (b + 1) ao ap ∧ aD (b + 1) ao ap < aD b o ak)) ∧
((¬ (b < (m.n : Int))) →
∀ (aB : World), Chg [t] ak aB →
R (.agg #[.int .i64 af, .string (Bs ag), .string (Bs ah), Sl.v c, Sl.v o]) aB))
theorem law00_Tree.ok (af : Int) (ag : Str) (ah : Str) (an : Sl) (m : Sl) {R : Value → World → Prop} {w : World} (aH : law00_Tree.vc af ag ah an m R w) : Calls Try.prog 19 #[.agg #[.int .i64 af, .string (Bs ag), .string (Bs ah), Sl.v an, Sl.v m]] w (Ret R) := by
 refine go _ Try.func19 Try.ntmps19 aH ?_
 refine gS <| gR <| nb fun w3 ai => ?_
 refine na ti_26 fun w5 t => ge <| tn <| gS ?_
 refine gD fun l => gT2 <| gE fun u => gA fun aI => gA fun aJ => ?_
 refine gW 0 11 [(8, ⟨Sl, default, fun s => Sl.v s, fun s w => u s w, aI⟩), (10, rsB l (fun B => .pointer (some ⟨B, 0, none⟩)) 26 [.int .i64 0, .string (Bs []), .string (Bs []), Sl.v Sl.nil, Sl.v Sl.nil])] ?_
 refine gF 0 Try.underlying26 ti_3 ?_
 refine gB 1 tU3 ?_
 refine gF 1 Try.underlying26 ti_9 ?_
 refine gB 1 tU9 ?_
 refine gF 2 Try.underlying26 ti_9 ?_
 refine gB 1 tU9 ?_
 refine gF 3 Try.underlying26 ti_23 ?_
 refine gB 1 tU23 ?_
 refine yc rfl Try.func43 (fun w' hE _ => aJ w' hE) (fun _ _ h => h) fun c => ?_
 refine gbu ti_26 Try.underlying26 pl_26 (OPs.of rfl) ?_
 refine yn (fun B => .pointer (some ⟨B, 0, none⟩)) (cs := [.int .i64 0, .string (Bs []), .string (Bs []), Sl.v Sl.nil, Sl.v Sl.nil]) rfl (fun _ hA _ => r_alloc ti_26 rfl) (fun _ _ B _ _ _ h1 h2 => ⟨B, rfl, h1, h2⟩) fun k => ?_
 refine eB (B := k) (T := 26) (cs := [.int .i64 0, .string (Bs []), .string (Bs []), Sl.v Sl.nil, Sl.v Sl.nil]) (fun _ hF => ⟨hF.1.1, hF.1.2⟩) (fun v w' hE hF => v w' c k hE hF.2.1 hF.1.1 hF.1.2) fun aj => ?_
 refine gO 11 ?_
 refine wo 0 ti_26 fun aq => geO ?_
 refine gZ <| tn <| gS <| gS <| gR ?_
 refine gN <| ge <| tn <| gb <| gT0 <| gE fun _ => gE fun mu => ?_
 refine l2 mu (fun b _ => [(4, .int .i64 b)]) [(1, _), (2, _), (3, _)] (fun _ o => [(k, 26, [.int .i64 af, .string (Bs ag), .string (Bs ah), Sl.v c, Sl.v o])]) [(ai, _, _), (t, _, _)] [0, 2, 1] fun b o ak _ => gS <| gS <| gR ?_
 refine gM ?_
 refine gF 4 Try.underlying26 ti_24 ?_
 refine gB 1 tU24 ?_
 refine g1 (fun aK => r_len aK tU24) ?_
 refine g2 r_lss <| ge <| tn ?_
 refine gi dT dF ?_ ?_
 ·refine gk <| tn <| gS <| gb <| gD fun p => gT0 <| gE fun au => gA fun aL => gE fun av => gE fun ax => gE fun ay => gE fun az => gE fun aA => gA fun aM => gE fun q => gA fun aC => gA fun aN => ?_
  refine gW 0 9 [(7, ⟨Int × Str × Str × Sl × Sl, default, fun s => .agg #[.int .i64 s.1, .string (Bs s.2.1), .string (Bs s.2.2.1), Sl.v s.2.2.2.1, Sl.v s.2.2.2.2], fun s w => q s.1 s.2.1 s.2.2.1 s.2.2.2.1 s.2.2.2.2 w, fun s => aC s.1 s.2.1 s.2.2.1 s.2.2.2.1 s.2.2.2.2⟩), (8, ⟨Int × Str × Str × Sl × Sl × Nat, default, fun s => (fun B => .slice (some ⟨B, 0, none⟩) 1 1) s.2.2.2.2.2, fun s w' => q s.1 s.2.1 s.2.2.1 s.2.2.2.1 s.2.2.2.2.1 w' ∧ p.heap.size ≤ s.2.2.2.2.2 ∧ Box w' s.2.2.2.2.2 26 [.int .i64 s.1, .string (Bs s.2.1), .string (Bs s.2.2.1), Sl.v s.2.2.2.1, Sl.v s.2.2.2.2.1], fun s w' w'' hE h => ⟨(aC s.1 s.2.1 s.2.2.1 s.2.2.2.1 s.2.2.2.2.1 w' w'' hE h.1), h.2.1, h.2.2.ext hE⟩⟩)] ?_
  refine gF 4 Try.underlying26 ti_24 ?_
  refine gB 0 tU24 ?_
  refine gF 4 Try.underlying26 ti_24 ?_
  refine gB 1 tU24 ?_
  refine gM ?_
  refine gIx tU24 ti_26 aL ?_
  refine gP aM <| gLN Try.underlying26 ti_26 ?_
  refine yc rfl Try.func19 (fun w' hE _ => aN w' hE) (fun _ _ ⟨d, f, g, i, j, h1, h2⟩ => ⟨(d, f, g, i, j), h1, h2⟩) fun ⟨d, f, g, i, j⟩ => ?_
  refine yn (fun B => .slice (some ⟨B, 0, none⟩) 1 1) (cs := [.int .i64 d, .string (Bs f), .string (Bs g), Sl.v i, Sl.v j]) rfl (fun _ hA _ => r_buildSlice ((OPs.of rfl : OPs _ true _ _).map hA rfl) tU24 ti_26 rfl rfl (by kernel_rfl)) (fun _ _ B _ hF hA' h1 h2 => ⟨(d, f, g, i, j, B), rfl, (aC d f g i j _ _ hA' (hF.1 (by kernel_rfl))), h1, h2⟩) fun ⟨y, z, aa, ab, ad, r⟩ => ?_
  refine eB (B := r) (T := 26) (cs := [.int .i64 y, .string (Bs z), .string (Bs aa), Sl.v ab, Sl.v ad]) (fun _ hF => ⟨hF.1.2.1, hF.1.2.2⟩) (fun v w' hE hF => v w' y z aa ab ad r hE hF.1.1 hF.1.2.1 hF.1.2.2) fun x => ?_
  refine gO 9 ?_
  refine gX 0 ?_
  refine gR2 [2, 3, 1] r_append fun _ aG => gE fun ao => gQ <| geO ?_
  refine gW 10 1 [] ?_
  refine gF 4 Try.underlying26 ti_24 <| geT fun aQ => ?_
  refine gO 11 ?_
  refine wo 2 ti_24 fun ap => geO ?_
  refine gZ <| bn <| tn <| gR ?_
  refine gM ?_
  refine g2s r_addI ?_
  refine gN <| ge <| gT0 ?_
  exact k2 [2, 0, 1]
 ·refine gx <| te <| te <| bh <| tn <| gS <| gR <| gBN 0 5 Try.underlying26 ti_26 ?_
  refine wo 2 ti_26 fun aB => ge <| tn <| gr <| gT0 ?_
  exact gzB 2 Try.underlying26 ti_26
def law00_Pairs.vc (a : Sl) (R : Value → World → Prop) (w : World) : Prop :=
RunK Try.prog (Builtin.append_ #[29, 29] 29 #[Sl.v Sl.nil, Sl.v a]) w [] (fun v c => ∃ (b : Sl), v = Sl.v b ∧
R (Sl.v b) c)
theorem law00_Pairs.ok (a : Sl) {R : Value → World → Prop} {w : World} (d : law00_Pairs.vc a R w) : Calls Try.prog 20 #[Sl.v a] w (Ret R) := by
 refine go _ Try.func20 Try.ntmps20 d ?_
 refine gS <| gR <| gN <| ge <| tn <| gS <| gR ?_
 refine gM ?_
 refine gR2 [] r_append fun _ c => gE fun b => gQ ?_
 refine gN <| ge <| tn <| gr ?_
 exact gz1
def law00_SameInts.vc (c : Sl) (d : Sl) (R : Value → World → Prop) (w : World) : Prop :=
(((c.n : Int) ≠ (d.n : Int)) →
R (.bool false) w) ∧
((¬ ((c.n : Int) ≠ (d.n : Int))) →
∃ (l : Int → World → Prop) (p : Int → World → Nat),
l 0 w ∧
(∀ (b : Int) (h : World), l b h →
((b < (c.n : Int)) →
∀ (g : World), Chg [] h g →
∃ m : Addr, (((0 : Int) ≤ b ∧ b < (c.n : Int)) ∧ c.a = some m) ∧
∃ (j : Int), (g.cell? (m.add (b.toNat * 1)) = some (.int .i64 j)) ∧
∃ o : Addr, (((0 : Int) ≤ b ∧ b < (d.n : Int)) ∧ d.a = some o) ∧
∃ (k : Int), (g.cell? (o.add (b.toNat * 1)) = some (.int .i64 k)) ∧
((j ≠ k) →
∀ (f : World), Chg [] g f →
R (.bool false) f) ∧
((¬ (j ≠ k)) →
(I64 (b + 1)) ∧
∀ (f : World), Chg [] g f →
l (b + 1) f ∧ p (b + 1) f < p b h)) ∧
((¬ (b < (c.n : Int))) →
R (.bool true) h)))
theorem law00_SameInts.ok (c : Sl) (d : Sl) {R : Value → World → Prop} {w : World} (q : law00_SameInts.vc c d R w) : Calls Try.prog 23 #[Sl.v c, Sl.v d] w (Ret R) := by
 refine go _ Try.func23 Try.ntmps23 q ?_
 refine gS <| gR <| gN <| ge <| tn <| gS <| gS <| gR ?_
 refine gM ?_
 refine g1 (fun i => r_len i tU22) ?_
 refine gM ?_
 refine g1 (fun i => r_len i tU22) ?_
 refine g2 r_neq <| ge <| tn ?_
 refine gi dT dF ?_ ?_
 ·refine gS <| gR <| gN <| ge <| tn <| gr <| tr ?_
  exact gz1
 ·refine gk <| tn <| gS <| gS <| gR <| gN <| ge <| tn <| gb <| gE fun _ => gE fun mu => ?_
  refine l1 mu (fun b => [(5, .int .i64 b)]) [(0, _), (1, _)] (fun _ => []) [] [] fun b h _ => gS <| gS <| gR ?_
  refine gM ?_
  refine gM ?_
  refine g1 (fun i => r_len i tU22) ?_
  refine g2 r_lss <| ge <| tn ?_
  refine gi dT dF ?_ ?_
  ·refine gk <| tn <| gS <| gb <| gS <| gD fun g => gT0 ?_
   refine gW 0 9 [] ?_
   refine gM ?_
   refine gM ?_
   refine gI2 tU22 ti_3 fun m => ?_
   refine gE fun j => gL tU3 ?_
   refine gM ?_
   refine gM ?_
   refine gI2 tU22 ti_3 fun o => ?_
   refine gE fun k => gL tU3 ?_
   refine g2 r_neq <| geT fun f => ?_
   refine gZ <| tn ?_
   refine gi dT dF ?_ ?_
   ·refine gS <| gR <| gN <| ge <| tn <| gr <| br <| tr <| tr <| br <| tr <| gT0 ?_
    exact gz1
   ·refine gk <| bn <| tn <| gR <| gM ?_
    refine g2s r_addI ?_
    refine gN <| ge <| gT0 ?_
    exact k1 []
  ·refine gx <| te <| te <| bh <| tn <| gS <| gR <| gN <| ge <| tn <| gr ?_
   exact gz1
def law00_next.vc (c : Sl) (d : Addr) (R : Value → World → Prop) (w : World) : Prop :=
(((c.n : Int) = 0) →
R (.int .i64 0) w) ∧
((¬ ((c.n : Int) = 0)) →
∃ (m : Int), (w.cell? d = some (.int .i64 m)) ∧
(I64 (m + 1)) ∧
∃ (i o : Nat) (r : TypeId) (p : List Value), d = ⟨i, o, none⟩ ∧ Box w i r p ∧ o + 1 ≤ p.length ∧ (∀ b ∈ [], b ≠ i) ∧
(∀ q : World, Chg [i] w q → Box q i r (putAt p o [.int .i64 (m + 1)]) →
∀ (f : World), Chg [] q f →
∃ (k : Int), (f.cell? d = some (.int .i64 k)) ∧
(I64 (k * 5)) ∧
∃ (l : Int), (f.cell? d = some (.int .i64 l)) ∧
((c.n : Int) ≠ 0 ∧ I64 (l.tdiv (c.n : Int))) ∧
(I64 ((k * 5) + (l.tdiv (c.n : Int)))) ∧
∃ (j : Int), (∀ w' : World, Ext f w' → Calls Try.prog 49 #[.int .i64 ((k * 5) + (l.tdiv (c.n : Int))), .int .i64 (c.n : Int)] w' (Ret fun v w'' => Ext w' w'' ∧ v = .int .i64 j)) ∧
∃ s : Addr, (((0 : Int) ≤ j ∧ j < (c.n : Int)) ∧ c.a = some s) ∧
∃ (t : Int), (f.cell? (s.add (j.toNat * 1)) = some (.int .i64 t)) ∧
∀ (u : World), Chg [] f u →
R (.int .i64 (bits .and .i64 t 1099511627775)) u))
theorem law00_next.ok (c : Sl) (d : Addr) {R : Value → World → Prop} {w : World} (x : law00_next.vc c d R w) : Calls Try.prog 25 #[Sl.v c, .pointer (some d)] w (Ret R) := by
 refine go _ Try.func25 Try.ntmps25 x ?_
 refine gS <| gR <| gN <| ge <| tn <| gS <| gS <| gR ?_
 refine gM ?_
 refine g1 (fun g => r_len g tU22) ?_
 refine g2 r_eql <| ge <| tn ?_
 refine gi dT dF ?_ ?_
 ·refine gS <| gR <| gN <| ge <| tn <| gr <| tr ?_
  exact gz1
 ·refine gk <| tn <| gS <| gR <| gM ?_
  refine g1 r_nilCheck ?_
  refine gE fun m => gL tU3 ?_
  refine g2s r_addI ?_
  refine g1 r_nilCheck ?_
  refine wx [] ti_3 fun i o r p q => ge <| tn <| gS ?_
  refine gD fun f => gT0 <| gE fun k => gA fun y => gA fun z => gE fun l => gA fun aa => gA fun ab => gA fun ad => gE fun j => gA fun af => gE fun s => gA fun ag => gE fun t => gA fun ah => ?_
  refine gW 0 19 [(14, rsU (.int .i64 j))] ?_
  refine gM ?_
  refine gM ?_
  refine g1 r_nilCheck ?_
  refine gP y <| gL tU3 ?_
  refine gP z <| g2s r_mulI ?_
  refine gM ?_
  refine g1 r_nilCheck ?_
  refine gP aa <| gL tU3 ?_
  refine gM ?_
  refine g1 (fun g => r_len g tU22) ?_
  refine gP ab <| g2s (fun g ai h => r_quoI g ai h.1 h.2) ?_
  refine gP ad <| g2s r_addI ?_
  refine gM ?_
  refine g1 (fun g => r_len g tU22) ?_
  refine yc rfl Try.func49 (fun w' hE _ => af w' hE) (fun _ _ h => ⟨(), h, trivial⟩) fun _ => ?_
  refine gIx tU22 ti_3 ag ?_
  refine gP ah <| gL tU3 ?_
  refine g2 r_and ?_
  refine gN ?_
  refine eT fun u => ?_
  refine gZ <| tn <| gr <| gT0 ?_
  exact gz1
def law00_grown.vc (q : Sl) (r : Addr) (n : Addr) (k : Int) (R : Value → World → Prop) (w : World) : Prop :=
∀ (w6 : World) (m : Nat), New w m w6 → Chg [] w w6 →
∃ (aJ : Int), (w6.cell? n = some (.int .i64 aJ)) ∧
(I64 (aJ + 1)) ∧
∃ (ap aK : Nat) (aS : TypeId) (aL : List Value), n = ⟨ap, aK, none⟩ ∧ Box w6 ap aS aL ∧ aK + 1 ≤ aL.length ∧ (∀ b ∈ [m], b ≠ ap) ∧
(∀ aM : World, Chg [ap] w6 aM → Box aM ap aS (putAt aL aK [.int .i64 (aJ + 1)]) →
CallK Try.prog 25 #[Sl.v q, .pointer (some r)] aM [m] (fun v au => ∃ (d : Int), v = .int .i64 d ∧
(((d.tmod 7) = 0) →
(I64 (d.tdiv 7)) ∧
((0 : Int) ≤ (d.tdiv 7).tmod 4 ∧ (d.tdiv 7).tmod 4 ≤ (([120, 121, 122] : Str).length : Int)) ∧
∀ (aU : World), Chg [m] au aU →
R (.agg #[.int .i64 4, .string (Bs []), .string (Bs (List.take ((d.tdiv 7).tmod 4).toNat ([120, 121, 122] : Str))), Sl.v Sl.nil, Sl.v Sl.nil]) aU) ∧
((¬ ((d.tmod 7) = 0)) →
((((d.tmod 7) < 3) ∨ (5 < k)) →
(I64 (d.tdiv 7)) ∧
(I64 (d.tdiv 7)) ∧
(I64 (((d.tdiv 7).tmod 6) + 1)) ∧
((0 : Int) ≤ (d.tdiv 7).tmod 6 ∧ ((d.tdiv 7).tmod 6 : Int) ≤ ((d.tdiv 7).tmod 6) + 1 ∧ ((d.tdiv 7).tmod 6) + 1 ≤ (([97, 98, 99, 100, 101, 102] : Str).length : Int)) ∧
∀ (aV : World), Chg [m] au aV →
R (.agg #[.int .i64 3, .string (Bs []), .string (Bs ((List.drop ((d.tdiv 7).tmod 6).toNat ([97, 98, 99, 100, 101, 102] : Str)).take ((((d.tdiv 7).tmod 6) + 1).toNat - ((d.tdiv 7).tmod 6).toNat))), Sl.v Sl.nil, Sl.v Sl.nil]) aV) ∧
(((¬ ((d.tmod 7) < 3)) ∧ (¬ (5 < k))) →
(I64 (d.tdiv 7)) ∧
((0 : Int) ≤ (d.tdiv 7).tmod 4 ∧ (d.tdiv 7).tmod 4 < 4) ∧
(I64 (d.tdiv 28)) ∧
∀ (av : World) (j : Nat), New au j av → Chg [] au av →
∃ aX : Sl → World → Prop,
(((((d.tdiv 28).tmod 3) = 0) →
∀ (ax : World), Chg [] av ax →
(I64 (d.tdiv 84)) ∧
(I64 (d.tdiv 84)) ∧
(I64 (((d.tdiv 84).tmod 4) + 1)) ∧
((0 : Int) ≤ (d.tdiv 84).tmod 4 ∧ ((d.tdiv 84).tmod 4 : Int) ≤ ((d.tdiv 84).tmod 4) + 1 ∧ ((d.tdiv 84).tmod 4) + 1 ≤ (([48, 49, 50, 51] : Str).length : Int)) ∧
∀ (ay : World) (ak : Nat), Ext ax ay → ax.heap.size ≤ ak → Box ay ak 47 [.string (Bs ([105, 100] : Str)), .string (Bs ((List.drop ((d.tdiv 84).tmod 4).toNat ([48, 49, 50, 51] : Str)).take ((((d.tdiv 84).tmod 4) + 1).toNat - ((d.tdiv 84).tmod 4).toNat)))] → 
∀ (_ : Box ay ak 47 [.string (Bs ([105, 100] : Str)), .string (Bs ((List.drop ((d.tdiv 84).tmod 4).toNat ([48, 49, 50, 51] : Str)).take ((((d.tdiv 84).tmod 4) + 1).toNat - ((d.tdiv 84).tmod 4).toNat)))]),
RunK Try.prog (Builtin.append_ #[23, 23] 23 #[Sl.v Sl.nil, Sl.v (Sl.mk (some ⟨ak, 0, none⟩) 1 1)]) ay [m, j] (fun v bk => ∃ (aY : Sl), v = Sl.v aY ∧
∀ (aZ : World), Chg [j] bk aZ →
aX aY aZ)) ∧
((¬ (((d.tdiv 28).tmod 3) = 0)) →
aX Sl.nil av)) ∧
(∀ (aq : Sl) (aN : World), aX aq aN →
(I64 (d.tdiv 28)) ∧
∃ a0 : Sl → World → Prop,
(((((d.tdiv 28).tmod 5) = 0) →
∀ (az : World), Chg [] aN az →
(I64 (d.tdiv 84)) ∧
((0 : Int) ≤ (d.tdiv 84).tmod 3 ∧ (d.tdiv 84).tmod 3 ≤ (([117, 118] : Str).length : Int)) ∧
∀ (aA : World) (al : Nat), Ext az aA → az.heap.size ≤ al → Box aA al 47 [.string (Bs ([120] : Str)), .string (Bs (List.take ((d.tdiv 84).tmod 3).toNat ([117, 118] : Str)))] → 
∀ (_ : Box aA al 47 [.string (Bs ([120] : Str)), .string (Bs (List.take ((d.tdiv 84).tmod 3).toNat ([117, 118] : Str)))]),
RunK Try.prog (Builtin.append_ #[23, 23] 23 #[Sl.v aq, Sl.v (Sl.mk (some ⟨al, 0, none⟩) 1 1)]) aA [m, j] (fun v bl => ∃ (a1 : Sl), v = Sl.v a1 ∧
∀ (a2 : World), Chg [j] bl a2 →
a0 a1 a2)) ∧
((¬ (((d.tdiv 28).tmod 5) = 0)) →
a0 aq aN)) ∧
(∀ (z : Sl) (a3 : World), a0 z a3 →
(I64 (d.tdiv 512)) ∧
∃ (a4 : Int → Sl → World → Prop) (bo : Int → Sl → World → Nat),
a4 ((d.tdiv 512).tmod 4) Sl.nil a3 ∧
(∀ (o : Int) (u : Sl) (am : World), a4 o u am →
∃ (aB : Int), (((0 < o)) → am.cell? n = some (.int .i64 aB)) ∧
(((0 < o) ∧ (aB < 40)) →
∀ (aC : World), Chg [] am aC →
(I64 (k + 1)) ∧
CallK Try.prog 26 #[Sl.v q, .pointer (some r), .pointer (some n), .int .i64 (k + 1)] aC [m, j] (fun v aD => ∃ (aa : Int) (ab : Str) (ad : Str) (af : Sl) (ah : Sl), v = .agg #[.int .i64 aa, .string (Bs ab), .string (Bs ad), Sl.v af, Sl.v ah] ∧
∀ (an : World) (p : Nat), Ext aD an → aD.heap.size ≤ p → Box an p 26 [.int .i64 aa, .string (Bs ab), .string (Bs ad), Sl.v af, Sl.v ah] → 
∀ (ar : World), Chg [] an ar →
∀ (_ : Box ar p 26 [.int .i64 aa, .string (Bs ab), .string (Bs ad), Sl.v af, Sl.v ah]),
RunK Try.prog (Builtin.append_ #[24, 24] 24 #[Sl.v u, Sl.v (Sl.mk (some ⟨p, 0, none⟩) 1 1)]) ar [m, j] (fun v a5 => ∃ (ai : Sl), v = Sl.v ai ∧
(I64 (o - 1)) ∧
∀ (aG : World), Chg [j] a5 aG →
a4 (o - 1) ai aG ∧ bo (o - 1) ai aG < bo o u am))) ∧
(((¬ (0 < o)) ∨ (¬ (aB < 40))) →
∀ (a6 : World), Chg [m] am a6 →
R (.agg #[.int .i64 2, .string (Bs (([([98] : Str), ([112] : Str), ([100, 105, 118] : Str), ([108, 105] : Str)] : List Str).getD ((d.tdiv 7).tmod 4).toNat [])), .string (Bs []), Sl.v z, Sl.v u]) a6))))))))
theorem law00_grown.ok (q : Sl) (r : Addr) (n : Addr) (k : Int) {R : Value → World → Prop} {w : World} (bF : law00_grown.vc q r n k R w) : Calls Try.prog 26 #[Sl.v q, .pointer (some r), .pointer (some n), .int .i64 k] w (Ret R) := by
 refine go _ Try.func26 Try.ntmps26 bF ?_
 refine gS <| gR <| na ti_26 fun w6 m => ge <| tn <| gS <| gR ?_
 refine gM ?_
 refine g1 r_nilCheck <| gT1 ?_
 refine gE fun aJ => gL tU3 ?_
 refine g2s r_addI ?_
 refine g1 r_nilCheck ?_
 refine wx [0] ti_3 fun ap aK aS aL aM => ge <| tn <| gS <| gR ?_
 refine gM ?_
 refine gM ?_
 refine gC [0] Try.func25 fun _ au => gE fun d => gQ ?_
 refine gN <| ge <| tn <| gS <| gb <| gS <| gR ?_
 refine gM ?_
 refine g2 (fun f g => r_rem f g (by decide : (7 : Int) ≠ 0)) ?_
 refine g2 r_eql ?_
 refine gN <| ge <| tn ?_
 refine gi dT dF ?_ ?_
 ·refine gS <| gR <| gM ?_
  refine g2s (fun f g h => r_quoI f g (by decide : (7 : Int) ≠ 0) h) ?_
  refine g2 (fun f g => r_rem f g (by decide : (4 : Int) ≠ 0)) ?_
  refine g2s (fun f g h => r_ssliceH f g tU9 h) ?_
  refine gbu ti_26 Try.underlying26 pl_26 (OPs.of rfl) ?_
  refine wo 0 ti_26 fun aU => ge <| tn <| gr <| br <| tr <| gT0 ?_
  exact gzB 0 Try.underlying26 ti_26
 ·refine gS <| gR <| gM ?_
  refine g2 (fun f g => r_rem f g (by decide : (7 : Int) ≠ 0)) ?_
  refine g2 r_lss ?_
  refine gM ?_
  refine G1 r_move ?_
  refine G2 r_gtr ?_
  refine gpo ?_
  refine gN <| ge <| tn ?_
  refine gi (fun h => ((oT h).imp (fun h => (dT h)) (fun h => (dT h)))) (fun h => ⟨(dF (oF h).1), (dF (oF h).2)⟩) ?_ ?_
  ·refine gS <| gR <| gM ?_
   refine g2s (fun f g h => r_quoI f g (by decide : (7 : Int) ≠ 0) h) ?_
   refine g2 (fun f g => r_rem f g (by decide : (6 : Int) ≠ 0)) ?_
   refine gM ?_
   refine g2s (fun f g h => r_quoI f g (by decide : (7 : Int) ≠ 0) h) ?_
   refine g2 (fun f g => r_rem f g (by decide : (6 : Int) ≠ 0)) ?_
   refine g2s r_addI ?_
   refine g3s (fun f g a7 h => r_sslice2 f g a7 tU9 h) ?_
   refine gbu ti_26 Try.underlying26 pl_26 (OPs.of rfl) ?_
   refine wo 0 ti_26 fun aV => ge <| tn <| gr <| br <| tr <| gT0 ?_
   exact gzB 0 Try.underlying26 ti_26
  ·refine gk <| bn <| tn <| gS <| gR <| gv (fun _ _ s _ => r_buildA (cells := #[.string (Bs ([98] : Str)), .string (Bs ([112] : Str)), .string (Bs ([100, 105, 118] : Str)), .string (Bs ([108, 105] : Str))]) (map_arr2 (ml2_cons (s.ag.opv rfl) (ml2_cons (s.ag.opv rfl) (ml2_cons (s.ag.opv rfl) (ml2_cons (s.ag.opv rfl) (ml2_nil)))))) ti_98 Try.underlying98 ti_9 (by kernel_rfl)) ?_
   refine gM ?_
   refine g2s (fun f g h => r_quoI f g (by decide : (7 : Int) ≠ 0) h) ?_
   refine g2 (fun f g => r_rem f g (by decide : (4 : Int) ≠ 0)) ?_
   refine g2s (fun f g h => r_aindexS (l := ([([98] : Str), ([112] : Str), ([100, 105, 118] : Str), ([108, 105] : Str)] : List Str)) f rfl g Try.underlying98 tU9 ti_9 rfl h) ?_
   refine gbu ti_26 Try.underlying26 pl_26 (OPs.of rfl) ?_
   refine na ti_26 fun cL j => ?_
   refine wn 0 0 ti_26 fun av => ge <| tn <| gS <| gS <| gR ?_
   refine gM ?_
   refine g2s (fun f g h => r_quoI f g (by decide : (28 : Int) ≠ 0) h) ?_
   refine g2 (fun f g => r_rem f g (by decide : (3 : Int) ≠ 0)) ?_
   refine g2 r_eql <| ge <| tn <| gT1 <| gE fun J => ?_
   refine m1 (fun _ => []) [(0, _), (1, _), (2, _), (3, _), (8, _), (9, _), (10, _)] (fun aq => [(j, 26, [.int .i64 2, .string (Bs (([([98] : Str), ([112] : Str), ([100, 105, 118] : Str), ([108, 105] : Str)] : List Str).getD ((d.tdiv 7).tmod 4).toNat [])), .string (Bs []), Sl.v aq, Sl.v Sl.nil])]) [(m, _, _)] [0, 1] ?_ fun aq aN _ => ?_
   ·refine gi dT dF ?_ ?_
    ·refine gD fun ax => gT0 <| gA fun bG => gA fun bH => gA fun bI => gA fun bJ => ?_
     refine gW 0 12 [(11, rsB ax (fun B => .slice (some ⟨B, 0, none⟩) 1 1) 47 [.string (Bs ([105, 100] : Str)), .string (Bs ((List.drop ((d.tdiv 84).tmod 4).toNat ([48, 49, 50, 51] : Str)).take ((((d.tdiv 84).tmod 4) + 1).toNat - ((d.tdiv 84).tmod 4).toNat)))])] ?_
     refine gF 3 Try.underlying26 ti_23 ?_
     refine gB 0 tU23 ?_
     refine gM ?_
     refine gP bG <| g2s (fun f g h => r_quoI f g (by decide : (84 : Int) ≠ 0) h) ?_
     refine g2 (fun f g => r_rem f g (by decide : (4 : Int) ≠ 0)) ?_
     refine gM ?_
     refine gP bH <| g2s (fun f g h => r_quoI f g (by decide : (84 : Int) ≠ 0) h) ?_
     refine g2 (fun f g => r_rem f g (by decide : (4 : Int) ≠ 0)) ?_
     refine gP bI <| g2s r_addI ?_
     refine gP bJ <| g3s (fun f g a7 h => r_sslice2 f g a7 tU9 h) ?_
     refine gbu ti_47 Try.underlying47 pl_47 (OPs.of rfl) ?_
     refine yn (fun B => .slice (some ⟨B, 0, none⟩) 1 1) (cs := [.string (Bs ([105, 100] : Str)), .string (Bs ((List.drop ((d.tdiv 84).tmod 4).toNat ([48, 49, 50, 51] : Str)).take ((((d.tdiv 84).tmod 4) + 1).toNat - ((d.tdiv 84).tmod 4).toNat)))]) rfl (fun _ hA _ => r_buildSlice ((OPs.of rfl : OPs _ true _ _).map hA rfl) tU23 ti_47 rfl rfl (by kernel_rfl)) (fun _ _ B _ _ _ h1 h2 => ⟨B, rfl, h1, h2⟩) fun ak => ?_
     refine eB (B := ak) (T := 47) (cs := [.string (Bs ([105, 100] : Str)), .string (Bs ((List.drop ((d.tdiv 84).tmod 4).toNat ([48, 49, 50, 51] : Str)).take ((((d.tdiv 84).tmod 4) + 1).toNat - ((d.tdiv 84).tmod 4).toNat)))]) (fun _ hF => ⟨hF.1.1, hF.1.2⟩) (fun v w' hE hF => v w' ak hE hF.1.1 hF.1.2) fun ay => ?_
     refine gO 12 ?_
     refine gX 0 ?_
     refine gR2 [2, 1] r_append fun _ bk => gE fun aY => gQ <| geO ?_
     refine gW 13 1 [] ?_
     refine gF 3 Try.underlying26 ti_23 <| geT fun cM => ?_
     refine gO 14 ?_
     refine wo 1 ti_23 fun aZ => geO ?_
     refine gZ <| gT0 ?_
     exact j1 [1, 0]
    ·exact gk <| j1 [0, 1]
   ·refine tn <| gS <| gS <| gR <| gM ?_
    refine g2s (fun f g h => r_quoI f g (by decide : (28 : Int) ≠ 0) h) ?_
    refine g2 (fun f g => r_rem f g (by decide : (5 : Int) ≠ 0)) ?_
    refine g2 r_eql <| ge <| tn <| gE fun J => ?_
    refine m1 (fun _ => []) [(0, _), (1, _), (2, _), (3, _), (8, _), (9, _), (10, _)] (fun z => [(j, 26, [.int .i64 2, .string (Bs (([([98] : Str), ([112] : Str), ([100, 105, 118] : Str), ([108, 105] : Str)] : List Str).getD ((d.tdiv 7).tmod 4).toNat [])), .string (Bs []), Sl.v z, Sl.v Sl.nil])]) [(m, _, _)] [0, 1] ?_ fun z a3 _ => ?_
    ·refine gi dT dF ?_ ?_
     ·refine gD fun az => gT0 <| gA fun bK => gA fun bL => ?_
      refine gW 0 8 [(7, rsB az (fun B => .slice (some ⟨B, 0, none⟩) 1 1) 47 [.string (Bs ([120] : Str)), .string (Bs (List.take ((d.tdiv 84).tmod 3).toNat ([117, 118] : Str)))])] ?_
      refine gF 3 Try.underlying26 ti_23 ?_
      refine gB 0 tU23 ?_
      refine gM ?_
      refine gP bK <| g2s (fun f g h => r_quoI f g (by decide : (84 : Int) ≠ 0) h) ?_
      refine g2 (fun f g => r_rem f g (by decide : (3 : Int) ≠ 0)) ?_
      refine gP bL <| g2s (fun f g h => r_ssliceH f g tU9 h) ?_
      refine gbu ti_47 Try.underlying47 pl_47 (OPs.of rfl) ?_
      refine yn (fun B => .slice (some ⟨B, 0, none⟩) 1 1) (cs := [.string (Bs ([120] : Str)), .string (Bs (List.take ((d.tdiv 84).tmod 3).toNat ([117, 118] : Str)))]) rfl (fun _ hA _ => r_buildSlice ((OPs.of rfl : OPs _ true _ _).map hA rfl) tU23 ti_47 rfl rfl (by kernel_rfl)) (fun _ _ B _ _ _ h1 h2 => ⟨B, rfl, h1, h2⟩) fun al => ?_
      refine eB (B := al) (T := 47) (cs := [.string (Bs ([120] : Str)), .string (Bs (List.take ((d.tdiv 84).tmod 3).toNat ([117, 118] : Str)))]) (fun _ hF => ⟨hF.1.1, hF.1.2⟩) (fun v w' hE hF => v w' al hE hF.1.1 hF.1.2) fun aA => ?_
      refine gO 8 ?_
      refine gX 0 ?_
      refine gR2 [2, 1] r_append fun _ bl => gE fun a1 => gQ <| geO ?_
      refine gW 9 1 [] ?_
      refine gF 3 Try.underlying26 ti_23 <| geT fun cN => ?_
      refine gO 10 ?_
      refine wo 1 ti_23 fun a2 => geO ?_
      refine gZ <| gT0 ?_
      exact j1 [1, 0]
     ·exact gk <| j1 [0, 1]
    ·refine tn <| gS <| gS <| gR <| gM ?_
     refine g2s (fun f g h => r_quoI f g (by decide : (512 : Int) ≠ 0) h) ?_
     refine g2 (fun f g => r_rem f g (by decide : (4 : Int) ≠ 0)) ?_
     refine gN <| ge <| tn <| gb <| gE fun _ => gE fun mu => ?_
     refine l2 mu (fun o _ => [(11, .int .i64 o)]) [(0, _), (1, _), (2, _), (3, _), (8, _), (10, _)] (fun _ u => [(j, 26, [.int .i64 2, .string (Bs (([([98] : Str), ([112] : Str), ([100, 105, 118] : Str), ([108, 105] : Str)] : List Str).getD ((d.tdiv 7).tmod 4).toNat [])), .string (Bs []), Sl.v z, Sl.v u])]) [(m, _, _)] [0, 1] fun o u am _ => gS <| gS <| gR ?_
     refine gM ?_
     refine g2 r_gtr ?_
     refine gM ?_
     refine G1 r_move ?_
     refine G1 r_nilCheck ?_
     refine gE fun aB => GLd tU3 (fun hg => (dT (g_t hg))) ?_
     refine G2 r_lss ?_
     refine gpa <| ge <| tn ?_
     refine gi (fun h => ⟨(dT (aT h).1), (dT (aT h).2)⟩) (fun h => ((aF h).imp (fun h => (dF h)) (fun h => (dF h)))) ?_ ?_
     ·refine gk <| tn <| gS <| gb ?_
      intro cO aO bM
      have x := aO.ag
      have bN := aO.bx 1 rfl
      have bO := aO.bx 0 rfl
      have bp : m ≠ j := aO.ne 1 0
      let aH : List (List Nat) := [[], [0], [], [], [], [], [5], [2, 3, 4, 5, 6], [2, 3, 4, 5, 6, 7], [0, 1, 2, 3, 4, 5, 6, 7, 8], [0, 1, 2, 3, 4, 5, 6, 7, 8, 9], [0, 1, 2, 3, 4, 5, 6, 7, 8, 9, 10]]
      refine draw' (by kernel_rfl) fun aC ba => ?_
      have bP := bN.ext ba
      have bq := bO.ext ba
      have bQ : Chg [] am aC := ba
      have bR := bM aC    bQ
      obtain ⟨bb, bS⟩ := bR
      refine startF (D := aH) (Fs := [0, 1, 2, 3, 4, 5, 6]) (Ef := [(0, fun v _ => v = pB j 4), (1, fun v _ => v = Sl.v u), (2, fun v _ => v = Sl.v q), (3, fun v _ => v = .pointer (some r)), (4, fun v _ => v = .pointer (some n)), (5, fun v _ => v = .int .i64 k), (6, fun v _ => v = .int .i64 (k + 1))]) (by kernel_rfl) ?_
      refine oneF (c := 7) x rfl (by kernel_rfl) (constF ⟨fun _ _ _ h => h, fun _ _ _ h => h, fun _ _ _ h => h, fun _ _ _ h => h, fun _ _ _ h => h, fun _ _ _ h => h, fun _ _ _ h => h, trivial⟩) ⟨?_, ?_, ?_, ?_, ?_, ?_, ?_, trivial⟩ ?_
      ·intro a hT
       have hAp := hT.ag x [(10, pB j 0)] ⟨rfl, trivial⟩ (by kernel_rfl)
       exact opk_val hAp rfl (r_fieldAddr (hAp.get rfl) Try.underlying26 rfl ti_24 (by decide)) fun _ _ e => ⟨_, e, rfl, fun _ => Eq.refl _⟩
      ·intro a hT
       have hAp := hT.ag x [] trivial (by kernel_rfl)
       have hAp := hAp.add (t := 97) (v := pB j 4) (hT.vals 0 rfl 97 rfl)
       exact opk_val hAp rfl (r_load1 tU24 rfl (hAp.get rfl) ((bq.ext hT.chg).cell 4 _ rfl)) fun _ _ e => ⟨_, e, rfl, fun _ => Eq.refl _⟩
      ·intro a hT
       have hAp := hT.ag x [(0, Sl.v q)] ⟨rfl, trivial⟩ (by kernel_rfl)
       exact opk_val hAp rfl (r_move (hAp.get rfl)) fun _ _ e => ⟨_, e, rfl, fun _ => Eq.refl _⟩
      ·intro a hT
       have hAp := hT.ag x [(1, .pointer (some r))] ⟨rfl, trivial⟩ (by kernel_rfl)
       exact opk_val hAp rfl (r_move (hAp.get rfl)) fun _ _ e => ⟨_, e, rfl, fun _ => Eq.refl _⟩
      ·intro a hT
       have hAp := hT.ag x [(2, .pointer (some n))] ⟨rfl, trivial⟩ (by kernel_rfl)
       exact opk_val hAp rfl (r_move (hAp.get rfl)) fun _ _ e => ⟨_, e, rfl, fun _ => Eq.refl _⟩
      ·intro a hT
       have hAp := hT.ag x [(3, .int .i64 k)] ⟨rfl, trivial⟩ (by kernel_rfl)
       exact opk_val hAp rfl (r_move (hAp.get rfl)) fun _ _ e => ⟨_, e, rfl, fun _ => Eq.refl _⟩
      ·intro a hT
       have hAp := hT.ag x [] trivial (by kernel_rfl)
       have hAp := hAp.add (t := 102) (v := .int .i64 k) (hT.vals 5 rfl 102 rfl)
       exact opk_val hAp rfl (r_addI (hAp.get rfl) rfl bb) fun _ _ e => ⟨_, e, rfl, fun _ => Eq.refl _⟩
      ·intro aP hT
       have bT := hT.ag x [(0, Sl.v q), (1, .pointer (some r)), (2, .pointer (some n)), (3, .int .i64 k), (8, pB m 0), (10, pB j 0), (11, .int .i64 o), (94, .bool ((decide (0 < o)) && (decide (aB < 40))))] ⟨rfl, rfl, rfl, rfl, rfl, rfl, rfl, rfl, trivial⟩ (by kernel_rfl)
       have bU : aP.tmps.getD 99 undef = Sl.v q := hT.vals 2 rfl 99 rfl
       have bV := bT.add bU
       have bX : aP.tmps.getD 100 undef = .pointer (some r) := hT.vals 3 rfl 100 rfl
       have bY := bV.add bX
       have bZ : aP.tmps.getD 101 undef = .pointer (some n) := hT.vals 4 rfl 101 rfl
       have b0 := bY.add bZ
       have b1 : aP.tmps.getD 103 undef = .int .i64 (k + 1) := hT.vals 6 rfl 103 rfl
       have aI := b0.add b1
       refine (opk_call aI rfl (r_call (args := #[Sl.v q, .pointer (some r), .pointer (some n), .int .i64 (k + 1)]) Try.func26 (by decide) rfl (map_arr (ml_cons (aI.get rfl) (ml_cons (aI.get rfl) (ml_cons (aI.get rfl) (ml_cons (aI.get rfl) ml_nil))))) rfl) bS fun cP cQ aD y b2 bt cR b3 => ?_)
       refine ⟨_, b2, ?_⟩
       obtain ⟨aa, ab, ad, af, ah, rfl, b4⟩ := b3
       have bu := bP.kept bt (.head _)
       have bd := bq.kept bt (.tail _ (.head _))
       refine parF (D := aH) (S := [8]) (F := []) (KE := [8]) (E := [(8, fun v w' => ∃ p : Nat, aD.heap.size ≤ p ∧ Box w' p 26 [.int .i64 aa, .string (Bs ab), .string (Bs ad), Sl.v af, Sl.v ah] ∧ v = Sl.v (Sl.mk (some ⟨p, 0, none⟩) 1 1))]) y rfl (by kernel_rfl) ⟨fun _ _ _ hE ⟨p, h0_, h1_, e⟩ => ⟨p, h0_, (h1_.ext hE), e⟩, fun _ _ _ _ h => h, fun _ _ _ _ h => h, fun _ _ _ _ h => h, fun _ _ _ _ h => h, fun _ _ _ _ h => h, fun _ _ _ _ h => h, fun _ _ _ _ h => h, trivial⟩ ⟨?_, ?_, ?_, ?_, ?_, ?_, ?_, ?_, trivial⟩ ?_
       ·intro a w hT
        have hAp := hT.ag y [(104, .agg #[.int .i64 aa, .string (Bs ab), .string (Bs ad), Sl.v af, Sl.v ah])] ⟨rfl, trivial⟩ (by kernel_rfl)
        exact opk_new (fun B => .slice (some ⟨B, 0, none⟩) 1 1) hAp rfl (r_buildSlice (vs := #[(0, .agg #[.int .i64 aa, .string (Bs ab), .string (Bs ad), Sl.v af, Sl.v ah])]) (cs := [.int .i64 aa, .string (Bs ab), .string (Bs ad), Sl.v af, Sl.v ah]) (map_arr2 (ml2_cons (hAp.get rfl) (ml2_nil))) tU24 ti_26 rfl rfl (by kernel_rfl)) fun _ cS p b5 b6 b7 _ e => ⟨_, e, b5, fun _ => ⟨p, Nat.le_trans hT.chg.size b6.ge, b7, rfl⟩⟩
       ·intro a w hT
        have hAp := hT.ag y [(10, pB j 0)] ⟨rfl, trivial⟩ (by kernel_rfl)
        exact ovr hAp rfl (r_fieldAddr (hAp.get rfl) Try.underlying26 rfl ti_24 (by decide)) fun _ => Eq.refl _
       ·intro a w hT
        have hAp := hT.ag y [] trivial (by kernel_rfl)
        have hAp := hAp.add (t := 97) (v := pB j 4) (hT.vals 0 rfl 97 rfl)
        exact ovr hAp rfl (r_load1 tU24 rfl (hAp.get rfl) ((bd.ext hT.chg).cell 4 _ rfl)) fun _ => Eq.refl _
       ·intro a w hT
        have hAp := hT.ag y [(0, Sl.v q)] ⟨rfl, trivial⟩ (by kernel_rfl)
        exact ovr hAp rfl (r_move (hAp.get rfl)) fun _ => Eq.refl _
       ·intro a w hT
        have hAp := hT.ag y [(1, .pointer (some r))] ⟨rfl, trivial⟩ (by kernel_rfl)
        exact ovr hAp rfl (r_move (hAp.get rfl)) fun _ => Eq.refl _
       ·intro a w hT
        have hAp := hT.ag y [(2, .pointer (some n))] ⟨rfl, trivial⟩ (by kernel_rfl)
        exact ovr hAp rfl (r_move (hAp.get rfl)) fun _ => Eq.refl _
       ·intro a w hT
        have hAp := hT.ag y [(3, .int .i64 k)] ⟨rfl, trivial⟩ (by kernel_rfl)
        exact ovr hAp rfl (r_move (hAp.get rfl)) fun _ => Eq.refl _
       ·intro a w hT
        have hAp := hT.ag y [] trivial (by kernel_rfl)
        have hAp := hAp.add (t := 102) (v := .int .i64 k) (hT.vals 5 rfl 102 rfl)
        exact ovr hAp rfl (r_addI (hAp.get rfl) rfl bb) fun _ => Eq.refl _
       ·intro cT an aQ b8 b9
        have ca := b8 [(0, Sl.v q), (1, .pointer (some r)), (2, .pointer (some n)), (3, .int .i64 k), (8, pB m 0), (10, pB j 0), (11, .int .i64 o)] ⟨rfl, rfl, rfl, rfl, rfl, rfl, rfl, trivial⟩ (by kernel_rfl)
        obtain ⟨p, bf, bv, cb⟩ := b9 8 rfl 105 rfl
        have aj := ca.add cb
        have cc := bu.ext aQ
        have bz := bd.ext aQ
        have cU : Chg [] aD an := aQ
        have cd := b4 an p aQ bf bv
        have cX : m ≠ p := Nat.ne_of_lt (Nat.lt_of_lt_of_le bu.lt bf)
        have cY : j ≠ p := Nat.ne_of_lt (Nat.lt_of_lt_of_le bd.lt bf)
        refine joinF aj (by kernel_rfl) ⟨fun _ _ _ _ h => h, fun _ _ _ _ h => h, fun _ _ _ _ h => h, fun _ _ _ _ h => h, fun _ _ _ _ h => h, fun _ _ _ _ h => h, fun _ _ _ _ h => h, trivial⟩ ⟨?_, ?_, ?_, ?_, ?_, ?_, ?_, trivial⟩ ?_
        ·intro a w hT
         have hAp := hT.ag aj [(10, pB j 0)] ⟨rfl, trivial⟩ (by kernel_rfl)
         exact ovr hAp rfl (r_fieldAddr (hAp.get rfl) Try.underlying26 rfl ti_24 (by decide)) fun _ => Eq.refl _
        ·intro a w hT
         have hAp := hT.ag aj [] trivial (by kernel_rfl)
         have hAp := hAp.add (t := 97) (v := pB j 4) (hT.vals 0 rfl 97 rfl)
         exact ovr hAp rfl (r_load1 tU24 rfl (hAp.get rfl) ((bz.ext hT.chg).cell 4 _ rfl)) fun _ => Eq.refl _
        ·intro a w hT
         have hAp := hT.ag aj [(0, Sl.v q)] ⟨rfl, trivial⟩ (by kernel_rfl)
         exact ovr hAp rfl (r_move (hAp.get rfl)) fun _ => Eq.refl _
        ·intro a w hT
         have hAp := hT.ag aj [(1, .pointer (some r))] ⟨rfl, trivial⟩ (by kernel_rfl)
         exact ovr hAp rfl (r_move (hAp.get rfl)) fun _ => Eq.refl _
        ·intro a w hT
         have hAp := hT.ag aj [(2, .pointer (some n))] ⟨rfl, trivial⟩ (by kernel_rfl)
         exact ovr hAp rfl (r_move (hAp.get rfl)) fun _ => Eq.refl _
        ·intro a w hT
         have hAp := hT.ag aj [(3, .int .i64 k)] ⟨rfl, trivial⟩ (by kernel_rfl)
         exact ovr hAp rfl (r_move (hAp.get rfl)) fun _ => Eq.refl _
        ·intro a w hT
         have hAp := hT.ag aj [] trivial (by kernel_rfl)
         have hAp := hAp.add (t := 102) (v := .int .i64 k) (hT.vals 5 rfl 102 rfl)
         exact ovr hAp rfl (r_addI (hAp.get rfl) rfl bb) fun _ => Eq.refl _
        ·intro cf ar aR cg ch
         have ci := cg [(0, Sl.v q), (1, .pointer (some r)), (2, .pointer (some n)), (3, .int .i64 k), (8, pB m 0), (10, pB j 0), (11, .int .i64 o), (105, Sl.v (Sl.mk (some ⟨p, 0, none⟩) 1 1))] ⟨rfl, rfl, rfl, rfl, rfl, rfl, rfl, rfl, trivial⟩ (by kernel_rfl)
         have cj : cf.tmps.getD 98 undef = Sl.v u := ch 1 rfl 98 rfl
         have bg := ci.add cj
         have ck := cc.ext aR
         have cl := bz.ext aR
         have cm := bv.ext aR
         have cn : Chg [] an ar := aR
         have co := cd ar    cn
         have cp := co cm
         refine one (D := aH) (i := 9) rfl (by kernel_rfl) (opk_run bg rfl (fun _ _ hr => r_append (bg.get rfl) (bg.get rfl) hr) cp fun cZ c0 a5 bA _ bB c1 cq => ?_)
         obtain ⟨ai, rfl, cr⟩ := cq
         have ct := ck.kept bB (.head _)
         have cu := cl.kept bB (.tail _ (.head _))
         refine par (D := aH) (S := [10]) (F := []) (V := VL [(10, fun v _ => v = pB j 4)]) bA (by kernel_rfl) ⟨fun _ _ _ _ h => h, trivial⟩ ⟨?_, trivial⟩ ?_
         ·intro a w hT
          have hAp := hT.ag bA [(10, pB j 0)] ⟨rfl, trivial⟩ (by kernel_rfl)
          exact ovr hAp rfl (r_fieldAddr (hAp.get rfl) Try.underlying26 rfl ti_24 (by decide)) fun _ => Eq.refl _
         ·intro cv cx bi cy cz
          have cA := cy [(0, Sl.v q), (1, .pointer (some r)), (2, .pointer (some n)), (3, .int .i64 k), (8, pB m 0), (10, pB j 0), (11, .int .i64 o), (106, Sl.v ai)] ⟨rfl, rfl, rfl, rfl, rfl, rfl, rfl, rfl, trivial⟩ (by kernel_rfl)
          have cB : cv.tmps.getD 107 undef = pB j 4 := cz 10 rfl 107 rfl
          have bj := cA.add cB
          have cC := ct.ext bi
          have bC := cu.ext bi
          have cD : Chg [] a5 cx := bi
          refine one (D := aH) (i := 11) rfl (by kernel_rfl) (opk_store bj bC (r_store (vs := [Sl.v ai]) (bj.get rfl) (bj.get rfl) rfl ti_24 bC rfl (ones_all _ rfl)) fun c2 aG bD cF cG => ?_)
          have cH : Box aG j 26 [.int .i64 2, .string (Bs (([([98] : Str), ([112] : Str), ([100, 105, 118] : Str), ([108, 105] : Str)] : List Str).getD ((d.tdiv 7).tmod 4).toNat [])), .string (Bs []), Sl.v z, Sl.v ai] := cF
          have cI := cC.keep bD (by simpa using bp)
          have cJ := cD.storeOld bD
          refine PR_end (by kernel_rfl) ?_
          have cK := cG.kp [(0, Sl.v q), (1, .pointer (some r)), (2, .pointer (some n)), (3, .int .i64 k), (8, pB m 0), (10, pB j 0), (11, .int .i64 o)] rfl
          refine gK (bs := [(j, 26, [.int .i64 2, .string (Bs (([([98] : Str), ([112] : Str), ([100, 105, 118] : Str), ([108, 105] : Str)] : List Str).getD ((d.tdiv 7).tmod 4).toNat [])), .string (Bs []), Sl.v z, Sl.v ai]), (m, 26, [.int .i64 0, .string (Bs []), .string (Bs []), Sl.v Sl.nil, Sl.v Sl.nil])]) (N := []) cK cJ ⟨cH, cI, trivial⟩ (by simp [(Ne.symm bp)]) trivial (by simp) cr ?_
          refine bn <| tn <| gR <| gM ?_
          refine g2s r_subI ?_
          refine gN <| ge <| gT0 ?_
          exact k2 [0, 1]
     ·refine gx <| te <| te <| bh <| tn <| gS <| gR <| gBN 0 5 Try.underlying26 ti_26 ?_
      refine wo 1 ti_26 fun a6 => ge <| tn <| gr <| gT0 ?_
      exact gzB 1 Try.underlying26 ti_26
def law00_turned.vc (l : Int) (ai : Str) (aj : Str) (aJ : Sl) (ag : Sl) (ak : Sl) (al : Addr) (ay : Int) (R : Value → World → Prop) (w : World) : Prop :=
∀ (ab : World) (p : Nat) (m : Nat), New w p ab → New w m ab → p ≠ m → Chg [] w ab →
∃ am : Sl → World → Prop, (∀ y : Sl, ∀ w' w'' : World, Ext w' w'' → am y w' → am y w'') ∧
(∀ w' : World, Ext ab w' → Calls Try.prog 43 #[Sl.v aJ] w' (Ret fun v w'' => Ext w' w'' ∧ ∃ y : Sl, v = Sl.v y ∧ am y w'')) ∧
∀ (az : World) (y : Sl) (c : Nat), Ext ab az → am y az → ab.heap.size ≤ c → Box az c 26 [.int .i64 0, .string (Bs []), .string (Bs []), Sl.v Sl.nil, Sl.v Sl.nil] → 
∀ (aX : World), Chg [c] az aX →
CallK Try.prog 25 #[Sl.v ak, .pointer (some al)] aX [p, m, c] (fun v an => ∃ (i : Int), v = .int .i64 i ∧
∃ aA : Str → Sl → World → Prop,
(((((i.tmod 9) = 0) ∧ (l = 3)) →
(I64 (i.tdiv 9)) ∧
(I64 (i.tdiv 9)) ∧
(I64 (((i.tdiv 9).tmod 3) + 1)) ∧
((0 : Int) ≤ (i.tdiv 9).tmod 3 ∧ ((i.tdiv 9).tmod 3 : Int) ≤ ((i.tdiv 9).tmod 3) + 1 ∧ ((i.tdiv 9).tmod 3) + 1 ≤ (([103, 104, 105] : Str).length : Int)) ∧
∀ (aY : World), Chg [c] an aY →
aA ((List.drop ((i.tdiv 9).tmod 3).toNat ([103, 104, 105] : Str)).take ((((i.tdiv 9).tmod 3) + 1).toNat - ((i.tdiv 9).tmod 3).toNat)) y aY) ∧
(((¬ ((i.tmod 9) = 0)) ∨ (¬ (l = 3))) →
((((i.tmod 9) = 1) ∧ (l = 2)) →
∀ (aB : World) (aK : Nat), New an aK aB → Chg [c] an aB →
∀ (_ : Box aB aK 47 [.string (Bs ([120] : Str)), .string (Bs ([119] : Str))]),
aA aj (Sl.mk (some ⟨aK, 0, none⟩) 1 1) aB) ∧
(((¬ ((i.tmod 9) = 1)) ∨ (¬ (l = 2))) →
((((i.tmod 9) = 2) ∧ (l = 2)) →
∀ (aZ : World), Chg [c] an aZ →
aA aj Sl.nil aZ) ∧
(((¬ ((i.tmod 9) = 2)) ∨ (¬ (l = 2))) →
aA aj y an)))) ∧
(∀ (ao : Str) (ap : Sl) (a0 : World), aA ao ap a0 →
∃ (ad : Int → Sl → World → Prop) (q : Int → Sl → World → Nat),
ad 0 Sl.nil a0 ∧
(∀ (b : Int) (j : Sl) (z : World), ad b j z →
((b < (ag.n : Int)) →
CallK Try.prog 25 #[Sl.v ak, .pointer (some al)] z [p, m, c] (fun v a1 => ∃ (aa : Int), v = .int .i64 aa ∧
((0 : Int) ≤ b ∧ b < (ag.n : Int)) ∧ ∃ a2 : Addr, ag.a = some a2 ∧
∃ (a3 : Int) (a4 : Str) (a5 : Str) (a6 : Sl) (a7 : Sl), (Cells a1 (a2.add (b.toNat * 5)) [.int .i64 a3, .string (Bs a4), .string (Bs a5), Sl.v a6, Sl.v a7]) ∧
(I64 (ay + 1)) ∧
CallK Try.prog 27 #[.agg #[.int .i64 a3, .string (Bs a4), .string (Bs a5), Sl.v a6, Sl.v a7], Sl.v ak, .pointer (some al), .int .i64 (ay + 1)] a1 [p, m, c] (fun v f => ∃ (o : Int) (r : Str) (t : Str) (u : Sl) (x : Sl), v = .agg #[.int .i64 o, .string (Bs r), .string (Bs t), Sl.v u, Sl.v x] ∧
(((aa.tmod 13) = 0) →
(I64 (b + 1)) ∧
∀ (aC : World) (d : Nat), New f d aC → Chg [] f aC →
ad (b + 1) j aC ∧ q (b + 1) j aC < q b j z) ∧
((¬ ((aa.tmod 13) = 0)) →
(((aa.tmod 13) = 1) →
∀ (aq : World) (d : Nat) (aD : Nat), New f d aq → New f aD aq → d ≠ aD → Chg [] f aq →
∀ (_ : Box aq aD 26 [.int .i64 3, .string (Bs []), .string (Bs ([110, 101, 119] : Str)), Sl.v Sl.nil, Sl.v Sl.nil, .int .i64 o, .string (Bs r), .string (Bs t), Sl.v u, Sl.v x]),
RunK Try.prog (Builtin.append_ #[24, 24] 24 #[Sl.v j, Sl.v (Sl.mk (some ⟨aD, 0, none⟩) 2 2)]) aq [p, m, c, d] (fun v a9 => ∃ (aL : Sl), v = Sl.v aL ∧
(I64 (b + 1)) ∧
∀ (aM : World), Chg [c] a9 aM →
ad (b + 1) aL aM ∧ q (b + 1) aL aM < q b j z)) ∧
((¬ ((aa.tmod 13) = 1)) →
(((aa.tmod 13) = 2) →
∀ (ar : World) (d : Nat) (aG : Nat), New f d ar → New f aG ar → d ≠ aG → Chg [] f ar →
∀ (_ : Box ar aG 26 [.int .i64 o, .string (Bs r), .string (Bs t), Sl.v u, Sl.v x]),
RunK Try.prog (Builtin.append_ #[24, 24] 24 #[Sl.v (Sl.mk (some ⟨aG, 0, none⟩) 1 1), Sl.v j]) ar [p, m, c, d] (fun v ba => ∃ (aN : Sl), v = Sl.v aN ∧
(I64 (b + 1)) ∧
∀ (aO : World), Chg [c] ba aO →
ad (b + 1) aN aO ∧ q (b + 1) aN aO < q b j z)) ∧
((¬ ((aa.tmod 13) = 2)) →
(((aa.tmod 13) = 3) →
(((l ≠ 1) ∨ (o ≠ 5)) →
∀ (af : World) (d : Nat) (ah : Nat) (au : Nat), New f d af → New f ah af → New f au af → d ≠ ah → d ≠ au → ah ≠ au → Chg [] f af →
∀ (_ : Box af ah 26 [.int .i64 o, .string (Bs r), .string (Bs t), Sl.v u, Sl.v x]),
∀ (_ : Box af au 26 [.int .i64 2, .string (Bs ([100, 105, 118] : Str)), .string (Bs []), Sl.v Sl.nil, Sl.v (Sl.mk (some ⟨ah, 0, none⟩) 1 1)]),
RunK Try.prog (Builtin.append_ #[24, 24] 24 #[Sl.v j, Sl.v (Sl.mk (some ⟨au, 0, none⟩) 1 1)]) af [p, m, c, d] (fun v bb => ∃ (aP : Sl), v = Sl.v aP ∧
(I64 (b + 1)) ∧
∀ (aQ : World), Chg [c] bb aQ →
ad (b + 1) aP aQ ∧ q (b + 1) aP aQ < q b j z)) ∧
(((¬ (l ≠ 1)) ∧ (¬ (o ≠ 5))) →
∀ (av : World) (d : Nat) (aH : Nat), New f d av → New f aH av → d ≠ aH → Chg [] f av →
∀ (_ : Box av aH 26 [.int .i64 o, .string (Bs r), .string (Bs t), Sl.v u, Sl.v x]),
RunK Try.prog (Builtin.append_ #[24, 24] 24 #[Sl.v j, Sl.v (Sl.mk (some ⟨aH, 0, none⟩) 1 1)]) av [p, m, c, d] (fun v bd => ∃ (aR : Sl), v = Sl.v aR ∧
(I64 (b + 1)) ∧
∀ (aS : World), Chg [c] bd aS →
ad (b + 1) aR aS ∧ q (b + 1) aR aS < q b j z))) ∧
((¬ ((aa.tmod 13) = 3)) →
∀ (ax : World) (d : Nat) (aI : Nat), New f d ax → New f aI ax → d ≠ aI → Chg [] f ax →
∀ (_ : Box ax aI 26 [.int .i64 o, .string (Bs r), .string (Bs t), Sl.v u, Sl.v x]),
RunK Try.prog (Builtin.append_ #[24, 24] 24 #[Sl.v j, Sl.v (Sl.mk (some ⟨aI, 0, none⟩) 1 1)]) ax [p, m, c, d] (fun v bf => ∃ (aU : Sl), v = Sl.v aU ∧
(I64 (b + 1)) ∧
∀ (aV : World), Chg [c] bf aV →
ad (b + 1) aU aV ∧ q (b + 1) aU aV < q b j z)))))))) ∧
((¬ (b < (ag.n : Int))) →
∀ (a8 : World), Chg [m] z a8 →
R (.agg #[.int .i64 l, .string (Bs ai), .string (Bs ao), Sl.v ap, Sl.v j]) a8))))
theorem law00_turned.ok (l : Int) (ai : Str) (aj : Str) (aJ : Sl) (ag : Sl) (ak : Sl) (al : Addr) (ay : Int) {R : Value → World → Prop} {w : World} (bg : law00_turned.vc l ai aj aJ ag ak al ay R w) : Calls Try.prog 27 #[.agg #[.int .i64 l, .string (Bs ai), .string (Bs aj), Sl.v aJ, Sl.v ag], Sl.v ak, .pointer (some al), .int .i64 ay] w (Ret R) := by
 refine go _ Try.func27 Try.ntmps27 bg ?_
 refine gS <| gR <| nb fun w6 p => ?_
 refine na ti_26 fun w8 m => ge <| tn <| gS ?_
 refine gD fun ab => gT2 <| gE fun am => gA fun bi => gA fun bj => ?_
 refine gW 0 11 [(8, ⟨Sl, default, fun s => Sl.v s, fun s w => am s w, bi⟩), (10, rsB ab (fun B => .pointer (some ⟨B, 0, none⟩)) 26 [.int .i64 0, .string (Bs []), .string (Bs []), Sl.v Sl.nil, Sl.v Sl.nil])] ?_
 refine gF 0 Try.underlying26 ti_3 ?_
 refine gB 1 tU3 ?_
 refine gF 1 Try.underlying26 ti_9 ?_
 refine gB 1 tU9 ?_
 refine gF 2 Try.underlying26 ti_9 ?_
 refine gB 1 tU9 ?_
 refine gF 3 Try.underlying26 ti_23 ?_
 refine gB 1 tU23 ?_
 refine yc rfl Try.func43 (fun w' hE _ => bj w' hE) (fun _ _ h => h) fun y => ?_
 refine gbu ti_26 Try.underlying26 pl_26 (OPs.of rfl) ?_
 refine yn (fun B => .pointer (some ⟨B, 0, none⟩)) (cs := [.int .i64 0, .string (Bs []), .string (Bs []), Sl.v Sl.nil, Sl.v Sl.nil]) rfl (fun _ hA _ => r_alloc ti_26 rfl) (fun _ _ B _ _ _ h1 h2 => ⟨B, rfl, h1, h2⟩) fun c => ?_
 refine eB (B := c) (T := 26) (cs := [.int .i64 0, .string (Bs []), .string (Bs []), Sl.v Sl.nil, Sl.v Sl.nil]) (fun _ hF => ⟨hF.1.1, hF.1.2⟩) (fun v w' hE hF => v w' y c hE hF.2.1 hF.1.1 hF.1.2) fun az => ?_
 refine gO 11 ?_
 refine wo 0 ti_26 fun aX => geO ?_
 refine gZ <| tn <| gS <| gR ?_
 refine gM ?_
 refine gM <| gT0 ?_
 refine gC [2, 1, 0] Try.func25 fun _ an => gE fun i => gQ ?_
 refine gN <| ge <| tn <| gS <| gE fun J => ?_
 refine m2 (fun _ _ => []) [(1, _), (2, _), (3, _), (4, _), (8, _), (9, _)] (fun ao ap => [(c, 26, [.int .i64 l, .string (Bs ai), .string (Bs ao), Sl.v ap, Sl.v Sl.nil])]) [(p, _, _), (m, _, _)] [0, 2, 1] ?_ fun ao ap a0 _ => ?_
 ·refine gb <| gS <| gR <| gM ?_
  refine g2 (fun g k => r_rem g k (by decide : (9 : Int) ≠ 0)) ?_
  refine g2 r_eql ?_
  refine gM ?_
  refine GF 0 Try.underlying26 ti_3 ?_
  refine GB 2 tU3 ?_
  refine G2 r_eql ?_
  refine gpa ?_
  refine gN <| ge <| tn ?_
  refine gi (fun h => ⟨(dT (aT h).1), (dT (aT h).2)⟩) (fun h => ((aF h).imp (fun h => (dF h)) (fun h => (dF h)))) ?_ ?_
  ·refine gR <| gM ?_
   refine g2s (fun g k h => r_quoI g k (by decide : (9 : Int) ≠ 0) h) ?_
   refine g2 (fun g k => r_rem g k (by decide : (3 : Int) ≠ 0)) ?_
   refine gM ?_
   refine g2s (fun g k h => r_quoI g k (by decide : (9 : Int) ≠ 0) h) ?_
   refine g2 (fun g k => r_rem g k (by decide : (3 : Int) ≠ 0)) ?_
   refine g2s r_addI ?_
   refine g3s (fun g k bo h => r_sslice2 g k bo tU9 h) ?_
   refine gF 2 Try.underlying26 ti_9 ?_
   refine wo 0 ti_9 fun aY => ge <| bn <| gT0 ?_
   exact j2 [0, 2, 1]
  ·refine gS <| gR <| gM ?_
   refine g2 (fun g k => r_rem g k (by decide : (9 : Int) ≠ 0)) ?_
   refine g2 r_eql ?_
   refine gM ?_
   refine GF 0 Try.underlying26 ti_3 ?_
   refine GB 2 tU3 ?_
   refine G2 r_eql ?_
   refine gpa ?_
   refine gN <| ge <| tn ?_
   refine gi (fun h => ⟨(dT (aT h).1), (dT (aT h).2)⟩) (fun h => ((aF h).imp (fun h => (dF h)) (fun h => (dF h)))) ?_ ?_
   ·refine gR <| gbu ti_47 Try.underlying47 pl_47 (OPs.of rfl) ?_
    refine ns [.string (Bs ([120] : Str)), .string (Bs ([119] : Str))] tU23 ti_47 fun bs aK => ?_
    refine gF 3 Try.underlying26 ti_23 ?_
    refine wo 1 ti_23 fun aB => ge <| bn <| gT1 ?_
    refine gX 0 ?_
    exact j2 [1, 3, 2]
   ·refine gS <| gR <| gM ?_
    refine g2 (fun g k => r_rem g k (by decide : (9 : Int) ≠ 0)) ?_
    refine g2 r_eql ?_
    refine gM ?_
    refine GF 0 Try.underlying26 ti_3 ?_
    refine GB 2 tU3 ?_
    refine G2 r_eql ?_
    refine gpa ?_
    refine gN <| ge <| tn ?_
    refine gi (fun h => ⟨(dT (aT h).1), (dT (aT h).2)⟩) (fun h => ((aF h).imp (fun h => (dF h)) (fun h => (dF h)))) ?_ ?_
    ·refine gR <| gF 3 Try.underlying26 ti_23 ?_
     refine wo 0 ti_23 fun aZ => ge <| bn <| gT0 ?_
     exact j2 [0, 2, 1]
    ·exact gk <| bn <| j2 [0, 2, 1]
 ·refine tn <| gS <| gS <| gR <| gN <| ge <| tn <| gb <| gE fun _ => gE fun mu => ?_
  refine l2 mu (fun b _ => [(11, .int .i64 b)]) [(1, _), (2, _), (3, _), (4, _), (8, _), (9, _)] (fun _ j => [(c, 26, [.int .i64 l, .string (Bs ai), .string (Bs ao), Sl.v ap, Sl.v j])]) [(p, _, _), (m, _, _)] [0, 1, 2] fun b j z _ => gS <| gS <| gR ?_
  refine gM ?_
  refine gF 4 Try.underlying26 ti_24 ?_
  refine gB 1 tU24 ?_
  refine g1 (fun g => r_len g tU24) ?_
  refine g2 r_lss <| ge <| tn ?_
  refine gi dT dF ?_ ?_
  ·refine gk <| tn <| gS <| gb <| gS <| gR <| gM ?_
   refine gM ?_
   refine gC [1, 2, 0] Try.func25 fun _ a1 => gE fun aa => gQ ?_
   refine gN <| ge <| tn <| gS <| gR ?_
   refine gF 4 Try.underlying26 ti_24 ?_
   refine gB 1 tU24 ?_
   refine gM ?_
   refine gI1 tU24 ti_26 fun a2 => ?_
   refine gE fun a3 => gE fun a4 => gE fun a5 => gE fun a6 => gE fun a7 => gLN Try.underlying26 ti_26 ?_
   refine gM ?_
   refine gM ?_
   refine gM ?_
   refine g2s r_addI ?_
   refine gC [1, 2, 0] Try.func27 fun _ f => gE fun o => gE fun r => gE fun t => gE fun u => gE fun x => gQ ?_
   refine na ti_26 fun bt d => ?_
   refine wn 0 0 ti_26 fun aC => ge <| tn <| gS <| gS <| gR ?_
   refine gM ?_
   refine g2 (fun g k => r_rem g k (by decide : (13 : Int) ≠ 0)) <| ge <| tn <| gb <| gS <| gR ?_
   refine g2 r_eql ?_
   refine gN <| ge <| tn ?_
   refine gi dT dF ?_ ?_
   ·refine gx <| bm <| te <| bh <| tn <| gR ?_
    refine gM ?_
    refine g2s r_addI ?_
    refine gN <| ge <| gT1 ?_
    exact k2 [1, 2, 3]
   ·refine gS <| gR <| g2 r_eql ?_
    refine gN <| ge <| tn ?_
    refine gi dT dF ?_ ?_
    ·refine gS <| gR <| gF 4 Try.underlying26 ti_24 ?_
     refine gB 1 tU24 ?_
     refine gbu ti_26 Try.underlying26 pl_26 (OPs.of rfl) ?_
     refine gBN 0 5 Try.underlying26 ti_26 ?_
     refine ns [.int .i64 3, .string (Bs []), .string (Bs ([110, 101, 119] : Str)), Sl.v Sl.nil, Sl.v Sl.nil, .int .i64 o, .string (Bs r), .string (Bs t), Sl.v u, Sl.v x] tU24 ti_26 fun aq aD => gT2 ?_
     refine gX 0 ?_
     refine gR2 [3, 4, 2, 1] r_append fun _ a9 => gE fun aL => gQ ?_
     refine gF 4 Try.underlying26 ti_24 ?_
     refine wo 2 ti_24 fun aM => ge <| tn <| gx ?_
     refine bm <| te <| bh <| tn <| gR ?_
     refine gM ?_
     refine g2s r_addI ?_
     refine gN <| ge <| gT0 ?_
     exact k2 [2, 0, 1]
    ·refine gS <| gR <| g2 r_eql ?_
     refine gN <| ge <| tn ?_
     refine gi dT dF ?_ ?_
     ·refine gS <| gR <| gBN 0 5 Try.underlying26 ti_26 ?_
      refine ns [.int .i64 o, .string (Bs r), .string (Bs t), Sl.v u, Sl.v x] tU24 ti_26 fun ar aG => ?_
      refine gF 4 Try.underlying26 ti_24 ?_
      refine gB 2 tU24 <| gT2 ?_
      refine gX 0 ?_
      refine gR2 [3, 4, 2, 1] r_append fun _ ba => gE fun aN => gQ ?_
      refine gF 4 Try.underlying26 ti_24 ?_
      refine wo 2 ti_24 fun aO => ge <| tn <| gx ?_
      refine bm <| te <| bh <| tn <| gR ?_
      refine gM ?_
      refine g2s r_addI ?_
      refine gN <| ge <| gT0 ?_
      exact k2 [2, 0, 1]
     ·refine gS <| gR <| g2 r_eql ?_
      refine gN <| ge <| tn ?_
      refine gi dT dF ?_ ?_
      ·refine gS <| gR <| gF 0 Try.underlying26 ti_3 ?_
       refine gB 2 tU3 ?_
       refine g2 r_neq ?_
       refine gM ?_
       refine GF 0 Try.underlying26 ti_3 ?_
       refine GB 0 tU3 ?_
       refine G2 r_neq ?_
       refine gpo <| ge <| tn ?_
       refine gi (fun h => ((oT h).imp (fun h => (dT h)) (fun h => (dT h)))) (fun h => ⟨(dF (oF h).1), (dF (oF h).2)⟩) ?_ ?_
       ·refine gS <| gR <| gF 4 Try.underlying26 ti_24 ?_
        refine gB 1 tU24 ?_
        refine gBN 0 5 Try.underlying26 ti_26 ?_
        refine ns [.int .i64 o, .string (Bs r), .string (Bs t), Sl.v u, Sl.v x] tU24 ti_26 fun bu ah => ?_
        refine gbu ti_26 Try.underlying26 pl_26 (OPs.of rfl) ?_
        refine ns [.int .i64 2, .string (Bs ([100, 105, 118] : Str)), .string (Bs []), Sl.v Sl.nil, Sl.v (Sl.mk (some ⟨ah, 0, none⟩) 1 1)] tU24 ti_26 fun af au => gT3 ?_
        refine gX 1 ?_
        refine gX 0 ?_
        refine gR2 [4, 5, 3, 2] r_append fun _ bb => gE fun aP => gQ ?_
        refine gF 4 Try.underlying26 ti_24 ?_
        refine wo 2 ti_24 fun aQ => ge <| tn <| gx ?_
        refine bm <| te <| bh <| tn <| gR ?_
        refine gM ?_
        refine g2s r_addI ?_
        refine gN <| ge <| gT0 ?_
        exact k2 [2, 0, 1]
       ·refine gk <| bn <| tn <| gR <| gF 4 Try.underlying26 ti_24 ?_
        refine gB 1 tU24 ?_
        refine gBN 0 5 Try.underlying26 ti_26 ?_
        refine ns [.int .i64 o, .string (Bs r), .string (Bs t), Sl.v u, Sl.v x] tU24 ti_26 fun av aH => gT2 ?_
        refine gX 0 ?_
        refine gR2 [3, 4, 2, 1] r_append fun _ bd => gE fun aR => gQ ?_
        refine gF 4 Try.underlying26 ti_24 ?_
        refine wo 2 ti_24 fun aS => ge <| bn <| tn <| gR ?_
        refine gM ?_
        refine g2s r_addI ?_
        refine gN <| ge <| gT0 ?_
        exact k2 [2, 0, 1]
      ·refine gk <| bn <| tn <| gR <| gF 4 Try.underlying26 ti_24 ?_
       refine gB 1 tU24 ?_
       refine gBN 0 5 Try.underlying26 ti_26 ?_
       refine ns [.int .i64 o, .string (Bs r), .string (Bs t), Sl.v u, Sl.v x] tU24 ti_26 fun ax aI => gT2 ?_
       refine gX 0 ?_
       refine gR2 [3, 4, 2, 1] r_append fun _ bf => gE fun aU => gQ ?_
       refine gF 4 Try.underlying26 ti_24 ?_
       refine wo 2 ti_24 fun aV => ge <| bn <| tn <| gR ?_
       refine gM ?_
       refine g2s r_addI ?_
       refine gN <| ge <| gT0 ?_
       exact k2 [2, 0, 1]
  ·refine gx <| te <| te <| bh <| tn <| gS <| gR <| gBN 0 5 Try.underlying26 ti_26 ?_
   refine wo 2 ti_26 fun a8 => ge <| tn <| gr <| gT0 ?_
   exact gzB 2 Try.underlying26 ti_26
def law00_Attrs.vc (a : Sl) (R : Value → World → Prop) (w : World) : Prop :=
RunK Try.prog (Builtin.append_ #[23, 23] 23 #[Sl.v Sl.nil, Sl.v a]) w [] (fun v c => ∃ (b : Sl), v = Sl.v b ∧
R (Sl.v b) c)
theorem law00_Attrs.ok (a : Sl) {R : Value → World → Prop} {w : World} (d : law00_Attrs.vc a R w) : Calls Try.prog 43 #[Sl.v a] w (Ret R) := by
 refine go _ Try.func43 Try.ntmps43 d ?_
 refine gS <| gR <| gN <| ge <| tn <| gS <| gR ?_
 refine gM ?_
 refine gR2 [] r_append fun _ c => gE fun b => gQ ?_
 refine gN <| ge <| tn <| gr ?_
 exact gz1
def law00_Place.vc (b : Int) (a : Int) (R : Value → World → Prop) (w : World) : Prop :=
(a ≠ 0) ∧
(((b.tmod a) < 0) →
(I64 ((b.tmod a) + a)) ∧
R (.int .i64 ((b.tmod a) + a)) w) ∧
((¬ ((b.tmod a) < 0)) →
R (.int .i64 (b.tmod a)) w)
theorem law00_Place.ok (b : Int) (a : Int) {R : Value → World → Prop} {w : World} (c : law00_Place.vc b a R w) : Calls Try.prog 49 #[.int .i64 b, .int .i64 a] w (Ret R) := by
 refine go _ Try.func49 Try.ntmps49 c ?_
 refine gS <| gR <| gN <| ge <| tn <| gS <| gR ?_
 refine gM ?_
 refine gM ?_
 refine g2s r_rem ?_
 refine gN <| ge <| tn <| gS <| gS <| gR ?_
 refine gM ?_
 refine g2 r_lss <| ge <| tn ?_
 refine gi dT dF ?_ ?_
 ·refine gR <| gM ?_
  refine gM ?_
  refine g2s r_addI ?_
  refine gN <| ge <| tn <| gS <| gR ?_
  refine gM ?_
  refine gN <| ge <| tn <| gr ?_
  exact gz1
 ·refine gk <| tn <| gS <| gR <| gM ?_
  refine gN <| ge <| tn <| gr ?_
  exact gz1
def law00_SameAttrs.vc (c : Sl) (d : Sl) (R : Value → World → Prop) (w : World) : Prop :=
(((c.n : Int) ≠ (d.n : Int)) →
R (.bool false) w) ∧
((¬ ((c.n : Int) ≠ (d.n : Int))) →
∃ (o : Int → World → Prop) (r : Int → World → Nat),
o 0 w ∧
(∀ (b : Int) (i : World), o b i →
((b < (c.n : Int)) →
∀ (h : World), Chg [] i h →
∃ p : Addr, (((0 : Int) ≤ b ∧ b < (c.n : Int)) ∧ c.a = some p) ∧
∃ (j : Str) (k : Str), (Cells h (p.add (b.toNat * 2)) [.string (Bs j), .string (Bs k)]) ∧
∃ q : Addr, (((0 : Int) ≤ b ∧ b < (d.n : Int)) ∧ d.a = some q) ∧
∃ (l : Str) (m : Str), (Cells h (q.add (b.toNat * 2)) [.string (Bs l), .string (Bs m)]) ∧
((¬ (j = l ∧ k = m)) →
∀ (f : World), Chg [] h f →
R (.bool false) f) ∧
((¬ (¬ (j = l ∧ k = m))) →
(I64 (b + 1)) ∧
∀ (f : World), Chg [] h f →
o (b + 1) f ∧ r (b + 1) f < r b i)) ∧
((¬ (b < (c.n : Int))) →
R (.bool true) i)))
theorem law00_SameAttrs.ok (c : Sl) (d : Sl) {R : Value → World → Prop} {w : World} (s : law00_SameAttrs.vc c d R w) : Calls Try.prog 69 #[Sl.v c, Sl.v d] w (Ret R) := by
 refine go _ Try.func69 Try.ntmps69 s ?_
 refine gS <| gR <| gN <| ge <| tn <| gS <| gS <| gR ?_
 refine gM ?_
 refine g1 (fun g => r_len g tU23) ?_
 refine gM ?_
 refine g1 (fun g => r_len g tU23) ?_
 refine g2 r_neq <| ge <| tn ?_
 refine gi dT dF ?_ ?_
 ·refine gS <| gR <| gN <| ge <| tn <| gr <| tr ?_
  exact gz1
 ·refine gk <| tn <| gS <| gS <| gR <| gN <| ge <| tn <| gb <| gE fun _ => gE fun mu => ?_
  refine l1 mu (fun b => [(5, .int .i64 b)]) [(0, _), (1, _)] (fun _ => []) [] [] fun b i _ => gS <| gS <| gR ?_
  refine gM ?_
  refine gM ?_
  refine g1 (fun g => r_len g tU23) ?_
  refine g2 r_lss <| ge <| tn ?_
  refine gi dT dF ?_ ?_
  ·refine gk <| tn <| gS <| gb <| gS <| gD fun h => gT0 ?_
   refine gW 0 9 [] ?_
   refine gM ?_
   refine gM ?_
   refine gI2 tU23 ti_47 fun p => ?_
   refine gE fun j => gE fun k => gLN Try.underlying47 ti_47 ?_
   refine gM ?_
   refine gM ?_
   refine gI2 tU23 ti_47 fun q => ?_
   refine gE fun l => gE fun m => gLN Try.underlying47 ti_47 ?_
   refine g2 (fun g t => r_aneqd g t (eq_47 _ _ _ _)) <| geT fun f => ?_
   refine gZ <| tn ?_
   refine gi dT dF ?_ ?_
   ·refine gS <| gR <| gN <| ge <| tn <| gr <| br <| tr <| tr <| br <| tr <| gT0 ?_
    exact gz1
   ·refine gk <| bn <| tn <| gR <| gM ?_
    refine g2s r_addI ?_
    refine gN <| ge <| gT0 ?_
    exact k1 []
  ·refine gx <| te <| te <| bh <| tn <| gS <| gR <| gN <| ge <| tn <| gr ?_
   exact gz1
end Go.Proofs.Yteohbfaechfliaa
