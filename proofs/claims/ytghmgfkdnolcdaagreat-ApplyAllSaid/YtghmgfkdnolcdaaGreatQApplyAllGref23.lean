/-
  PRINTED BY PROGRAM: for each function its condition (vc), and that this suffices (ok).
-/
import Derived.Test.YtghmgfkdnolcdaaGreatQApplyAllGT
namespace Go.Proofs.YtghmgfkdnolcdaaGreat
open Go.RowKit
set_option linter.unusedVariables false
set_option maxHeartbeats 1000000
set_option maxRecDepth 10000
def ref23_Apply.vc (d : Int) (f : Str) (g : Str) (h : Sl) (i : Sl) (o : Sl) (R : Value → World → Prop) (w : World) : Prop :=
∀ (l : World) (p : Nat) (c : Nat), New w p l → New w c l → p ≠ c → Chg [] w l →
CallK Tryz.prog 15 #[.agg #[.int .i64 d, .string (Bs f), .string (Bs g), Sl.v h, Sl.v i], Sl.v o] l [p, c] (fun v m => ∃ (b : Sl) (j : Int) (k : Int), v = .tuple #[Sl.v b, .int .i64 j, .int .i64 k] ∧
((k ≠ 0) →
∀ (y : World), Chg [c] m y →
R (.tuple #[.agg #[.int .i64 0, .string (Bs []), .string (Bs []), Sl.v Sl.nil, Sl.v Sl.nil], .int .i64 j, .int .i64 k]) y) ∧
((¬ (k ≠ 0)) →
(((b.n : Int) = 0) →
∀ (z : World), Chg [c] m z →
R (.tuple #[.agg #[.int .i64 d, .string (Bs f), .string (Bs g), Sl.v h, Sl.v i], .int .i64 0, .int .i64 0]) z) ∧
((¬ ((b.n : Int) = 0)) →
(I64 ((b.n : Int) - 1)) ∧
((0 : Int) ≤ (b.n : Int) - 1 ∧ (b.n : Int) - 1 < (b.n : Int)) ∧ ∃ aa : Addr, b.a = some aa ∧
∃ (q : Int) (r : Str) (t : Str) (u : Sl) (x : Sl), (Cells m (aa.add (((b.n : Int) - 1).toNat * 5)) [.int .i64 q, .string (Bs r), .string (Bs t), Sl.v u, Sl.v x]) ∧
∀ (ab : World), Chg [c] m ab →
R (.tuple #[.agg #[.int .i64 q, .string (Bs r), .string (Bs t), Sl.v u, Sl.v x], .int .i64 j, .int .i64 0]) ab)))
theorem ref23_Apply.ok (d : Int) (f : Str) (g : Str) (h : Sl) (i : Sl) (o : Sl) {R : Value → World → Prop} {w : World} (af : ref23_Apply.vc d f g h i o R w) : Calls Tryz.prog 10 #[.agg #[.int .i64 d, .string (Bs f), .string (Bs g), Sl.v h, Sl.v i], Sl.v o] w (Ret R) := by
 refine go _ Tryz.func10 Tryz.ntmps10 af ?_
 refine gS <| gR <| nb fun w4 p => ?_
 refine na ti_25 fun l c => ?_
 refine gN ?_
 refine gN <| ge <| tn <| gS <| gR ?_
 refine gBN 1 5 Tryz.underlying25 ti_25 ?_
 refine gM <| gT2 ?_
 refine gC [1, 0] Tryz.func15 fun _ m => gE fun b => gE fun j => gE fun k => gQ ?_
 refine gM ?_
 refine gx1 ?_
 refine gx1 ?_
 refine gx1 ?_
 refine gN ?_
 refine gN ?_
 refine gN <| ge <| tn <| gS <| gS <| gR ?_
 refine gM ?_
 refine g2 r_neq <| ge <| tn ?_
 refine gi dT dF ?_ ?_
 ·refine gS <| gR <| gbu ti_25 Tryz.underlying25 pl_25 (OPs.of rfl) ?_
  refine gM ?_
  refine gM ?_
  refine wo 0 ti_25 fun y => ?_
  refine gN ?_
  refine gN <| ge <| tn <| gr <| tr <| gT0 ?_
  exact gz [.agg #[.int .i64 0, .string (Bs []), .string (Bs []), Sl.v Sl.nil, Sl.v Sl.nil], .int .i64 j, .int .i64 k] rfl (fun _ s => ⟨res_of_cell s.ag rfl (s.bx 0 rfl) Tryz.underlying25 rfl ti_25, res_of_tmp s.ag rfl, res_of_tmp s.ag rfl, trivial⟩)
 ·refine gk <| tn <| gS <| gS <| gR <| gM ?_
  refine g1 (fun ad => r_len ad tU23) ?_
  refine g2 r_eql <| ge <| tn ?_
  refine gi dT dF ?_ ?_
  ·refine gS <| gR <| gBN 1 5 Tryz.underlying25 ti_25 ?_
   refine wo 0 ti_25 fun z => ?_
   refine gN ?_
   refine gN <| ge <| tn <| gr <| tr <| gT0 ?_
   exact gz [.agg #[.int .i64 d, .string (Bs f), .string (Bs g), Sl.v h, Sl.v i], .int .i64 0, .int .i64 0] rfl (fun _ s => ⟨res_of_cell s.ag rfl (s.bx 0 rfl) Tryz.underlying25 rfl ti_25, res_of_tmp s.ag rfl, res_of_tmp s.ag rfl, trivial⟩)
  ·refine gk <| tn <| gS <| gR <| gM ?_
   refine gM ?_
   refine g1 (fun ad => r_len ad tU23) ?_
   refine g2s r_subI ?_
   refine gI1 tU23 ti_25 fun aa => ?_
   refine gE fun q => gE fun r => gE fun t => gE fun u => gE fun x => gLN Tryz.underlying25 ti_25 ?_
   refine gM ?_
   refine wo 0 ti_25 fun ab => ?_
   refine gN ?_
   refine gN <| ge <| tn <| gr <| gT0 ?_
   exact gz [.agg #[.int .i64 q, .string (Bs r), .string (Bs t), Sl.v u, Sl.v x], .int .i64 j, .int .i64 0] rfl (fun _ s => ⟨res_of_cell s.ag rfl (s.bx 0 rfl) Tryz.underlying25 rfl ti_25, res_of_tmp s.ag rfl, res_of_tmp s.ag rfl, trivial⟩)
def ref23_Right.vc (f : Int) (g : Int) (l : Int) (m : Int) (o : Int) (j : Str) (k : Str) (R : Value → World → Prop) (w : World) : Prop :=
(((g < 0) ∨ (1048576 < g)) →
∀ (w3 : World) (d : Nat), New w d w3 → Chg [] w w3 →
R (.bool false) w3) ∧
(((¬ (g < 0)) ∧ (¬ (1048576 < g))) →
((f = 1) →
∀ (n : World) (d : Nat) (b : Nat), New w d n → New w b n → d ≠ b → Chg [] w n →
R (.bool ((decide (1 ≤ o)) && (decide (o ≤ 5)))) n) ∧
((¬ (f = 1)) →
((f = 2) →
∀ (n : World) (d : Nat) (b : Nat), New w d n → New w b n → d ≠ b → Chg [] w n →
R (.bool (decide (f = f ∧ g = g ∧ 0 = l ∧ 0 = m ∧ 0 = o ∧ ([] : Str) = j ∧ ([] : Str) = k))) n) ∧
((¬ (f = 2)) →
((f = 3) →
∀ (r : World) (d : Nat) (b : Nat), New w d r → New w b r → d ≠ b → Chg [] w r →
∀ (aa : World), Chg [b] r aa →
∀ (ak : World), Chg [b] aa ak →
R (.bool (decide (f = f ∧ g = g ∧ l = l ∧ m = m ∧ 0 = o ∧ ([] : Str) = j ∧ ([] : Str) = k))) ak) ∧
((¬ (f = 3)) →
((f = 4) →
∀ (s : World) (d : Nat) (b : Nat), New w d s → New w b s → d ≠ b → Chg [] w s →
∀ (ab : World), Chg [b] s ab →
∀ (al : World), Chg [b] ab al →
R (.bool (decide (f = f ∧ g = g ∧ 0 = l ∧ 0 = m ∧ 0 = o ∧ j = j ∧ k = k))) al) ∧
((¬ (f = 4)) →
((f = 5) →
∀ (ad : World) (d : Nat) (b : Nat), New w d ad → New w b ad → d ≠ b → Chg [] w ad →
R (.bool (decide (f = f ∧ g = g ∧ 0 = l ∧ 0 = m ∧ 0 = o ∧ j = j ∧ ([] : Str) = k))) ad) ∧
((¬ (f = 5)) →
((f = 6) →
∀ (af : World) (d : Nat) (b : Nat), New w d af → New w b af → d ≠ b → Chg [] w af →
R (.bool (decide (f = f ∧ g = g ∧ 0 = l ∧ 0 = m ∧ 0 = o ∧ ([] : Str) = j ∧ k = k))) af) ∧
((¬ (f = 6)) →
∀ (n : World) (d : Nat) (b : Nat), New w d n → New w b n → d ≠ b → Chg [] w n →
R (.bool false) n)))))))
theorem ref23_Right.ok (f : Int) (g : Int) (l : Int) (m : Int) (o : Int) (j : Str) (k : Str) {R : Value → World → Prop} {w : World} (aZ : ref23_Right.vc f g l m o j k R w) : Calls Tryz.prog 13 #[.agg #[.int .i64 f, .int .i64 g, .int .i64 l, .int .i64 m, .int .i64 o, .string (Bs j), .string (Bs k)]] w (Ret R) := by
 refine go _ Tryz.func13 Tryz.ntmps13 aZ ?_
 refine gS <| gR <| nb fun w3 d => ?_
 refine gN <| ge <| tn <| gS <| gS <| gR ?_
 refine gF 1 Tryz.underlying38 ti_3 ?_
 refine gB 0 tU3 ?_
 refine g2 r_lss ?_
 refine gM ?_
 refine GF 1 Tryz.underlying38 ti_3 ?_
 refine GB 0 tU3 ?_
 refine G2 r_gtr ?_
 refine gpo <| ge <| tn ?_
 refine gi (fun h => ((oT h).imp (fun h => (dT h)) (fun h => (dT h)))) (fun h => ⟨(dF (oF h).1), (dF (oF h).2)⟩) ?_ ?_
 ·refine gS <| gR <| gN <| ge <| tn <| gr <| tr <| gT1 ?_
  exact gz1
 ·refine gk <| tn <| gS <| gR <| gF 0 Tryz.underlying38 ti_3 ?_
  refine gB 0 tU3 ?_
  refine gF 1 Tryz.underlying38 ti_3 ?_
  refine gB 0 tU3 ?_
  refine gbK #[.int .i64 f, .int .i64 g, .int .i64 0, .int .i64 0, .int .i64 0, .string (Bs []), .string (Bs [])] ti_38 Tryz.underlying38 pl_38 ?_
  refine na ti_38 fun w8 b => ?_
  refine wn 0 0 ti_38 fun n => ge <| tn <| gS <| gS <| gR ?_
  refine gF 0 Tryz.underlying38 ti_3 ?_
  refine gB 1 tU3 <| ge <| tn <| gb <| gS <| gR ?_
  refine g2 r_eql ?_
  refine gN <| ge <| tn ?_
  refine gi dT dF ?_ ?_
  ·refine gS <| gR <| gF 4 Tryz.underlying38 ti_3 ?_
   refine gB 1 tU3 ?_
   refine g2 r_geq ?_
   refine gM ?_
   refine GF 4 Tryz.underlying38 ti_3 ?_
   refine GB 1 tU3 ?_
   refine G2 r_leq ?_
   refine gpa ?_
   refine gN <| ge <| tn <| gr <| br <| tr <| gT2 ?_
   exact gz1
  ·refine gS <| gR <| g2 r_eql ?_
   refine gN <| ge <| tn ?_
   refine gi dT dF ?_ ?_
   ·refine gk <| bn <| tn <| gS <| gR <| gBN 0 7 Tryz.underlying38 ti_38 ?_
    refine gBN 1 7 Tryz.underlying38 ti_38 ?_
    refine g2 (fun p q => r_aeql p q (eq_38 _ _ _ _ _ _ _ _ _ _ _ _ _ _)) ?_
    refine gN <| ge <| tn <| gr <| gT2 ?_
    exact gz1
   ·refine gS <| gR <| g2 r_eql ?_
    refine gN <| ge <| tn ?_
    refine gi dT dF ?_ ?_
    ·intro cB u a0
     have x := u.ag
     have a1 := u.bx 1 rfl
     have a2 := u.bx 0 rfl
     have a3 := u.chg
     have a4 := u.new d (by simp)
     have a5 := u.new b (by simp)
     have am : d ≠ b := u.ne 1 0
     let ao : List (List Nat) := [[], [0], [], [2], [0, 1], [0, 1, 4], [0, 1, 2, 3, 4, 5], [0, 1, 2, 3, 4, 5, 6]]
     refine draw' (by kernel_rfl) fun r ah => ?_
     have ap := a1.ext ah
     have aH := a2.ext ah
     have a6 := a3.more ah
     have a7 := a4.up ah.size
     have a8 := a5.up ah.size
     have a9 := a0 r d b a7 a8 am a6
     refine startF (D := ao) (Fs := [0, 1, 2, 3, 4]) (Ef := [(0, fun v _ => v = pB d 2), (1, fun v _ => v = .int .i64 l), (2, fun v _ => v = pB d 3), (3, fun v _ => v = .int .i64 m), (4, fun v _ => v = pB b 2)]) (by kernel_rfl) ?_
     refine oneF (c := 5) x rfl (by kernel_rfl) (constF ⟨fun _ _ _ h => h, fun _ _ _ h => h, fun _ _ _ h => h, fun _ _ _ h => h, fun _ _ _ h => h, trivial⟩) ⟨?_, ?_, ?_, ?_, ?_, trivial⟩ ?_
     ·intro a hT
      have hAp := hT.ag x [(1, pB d 0)] ⟨rfl, trivial⟩ (by kernel_rfl)
      exact opk_val hAp rfl (r_fieldAddr (hAp.get rfl) Tryz.underlying38 rfl ti_3 (by decide)) fun _ _ e => ⟨_, e, rfl, fun _ => Eq.refl _⟩
     ·intro a hT
      have hAp := hT.ag x [] trivial (by kernel_rfl)
      have hAp := hAp.add (t := 33) (v := pB d 2) (hT.vals 0 rfl 33 rfl)
      exact opk_val hAp rfl (r_load1 tU3 rfl (hAp.get rfl) ((ap.ext hT.chg).cell 2 _ rfl)) fun _ _ e => ⟨_, e, rfl, fun _ => Eq.refl _⟩
     ·intro a hT
      have hAp := hT.ag x [(1, pB d 0)] ⟨rfl, trivial⟩ (by kernel_rfl)
      exact opk_val hAp rfl (r_fieldAddr (hAp.get rfl) Tryz.underlying38 rfl ti_3 (by decide)) fun _ _ e => ⟨_, e, rfl, fun _ => Eq.refl _⟩
     ·intro a hT
      have hAp := hT.ag x [] trivial (by kernel_rfl)
      have hAp := hAp.add (t := 35) (v := pB d 3) (hT.vals 2 rfl 35 rfl)
      exact opk_val hAp rfl (r_load1 tU3 rfl (hAp.get rfl) ((ap.ext hT.chg).cell 3 _ rfl)) fun _ _ e => ⟨_, e, rfl, fun _ => Eq.refl _⟩
     ·intro a hT
      have hAp := hT.ag x [(3, pB b 0)] ⟨rfl, trivial⟩ (by kernel_rfl)
      exact opk_val hAp rfl (r_fieldAddr (hAp.get rfl) Tryz.underlying38 rfl ti_3 (by decide)) fun _ _ e => ⟨_, e, rfl, fun _ => Eq.refl _⟩
     ·intro aI hT
      have ba := hT.ag x [(1, pB d 0), (3, pB b 0), (18, .int .i64 f), (31, .bool (decide (f = 3)))] ⟨rfl, rfl, rfl, rfl, trivial⟩ (by kernel_rfl)
      have bb : aI.tmps.getD 34 undef = .int .i64 l := hT.vals 1 rfl 34 rfl
      have bd := ba.add bb
      have bf : aI.tmps.getD 37 undef = pB b 2 := hT.vals 4 rfl 37 rfl
      have aq := bd.add bf
      refine opk_storeF aq aH (r_store (vs := [.int .i64 l]) (aq.get rfl) (aq.get rfl) rfl ti_3 aH rfl (ones_all _ rfl)) fun aJ aK bg bi => ⟨undef, Eq.refl _, ?_⟩
      have bj : Box aJ b 38 [.int .i64 f, .int .i64 g, .int .i64 l, .int .i64 0, .int .i64 0, .string (Bs []), .string (Bs [])] := bg
      have aL := ap.keep aK (by simpa using am)
      have bk : Chg [b] r aJ := aK
      refine PRF_drop (X := [0, 1, 4]) (Fs' := [2, 3]) bi (by kernel_rfl) fun cC bl cD => ?_
      have ar := bl [(1, pB d 0), (3, pB b 0)] ⟨rfl, rfl, trivial⟩ (by kernel_rfl)
      refine joinF ar (by kernel_rfl) ⟨fun _ _ _ _ h => h, fun _ _ _ _ h => h, trivial⟩ ⟨?_, ?_, trivial⟩ ?_
      ·intro a w hT
       have hAp := hT.ag ar [(1, pB d 0)] ⟨rfl, trivial⟩ (by kernel_rfl)
       exact ovr hAp rfl (r_fieldAddr (hAp.get rfl) Tryz.underlying38 rfl ti_3 (by decide)) fun _ => Eq.refl _
      ·intro a w hT
       have hAp := hT.ag ar [] trivial (by kernel_rfl)
       have hAp := hAp.add (t := 35) (v := pB d 3) (hT.vals 2 rfl 35 rfl)
       exact ovr hAp rfl (r_load1 tU3 rfl (hAp.get rfl) ((aL.ext hT.chg).cell 3 _ rfl)) fun _ => Eq.refl _
      ·intro bo aa au bp bq
       have bt := bp [(1, pB d 0), (3, pB b 0)] ⟨rfl, rfl, trivial⟩ (by kernel_rfl)
       have bu : bo.tmps.getD 36 undef = .int .i64 m := bq 3 rfl 36 rfl
       have aM := bt.add bu
       have bv := aL.ext au
       have bz := bj.ext au
       have bA := bk.more au
       have bB := a9 aa    bA
       refine par (D := ao) (S := [6]) (F := []) (V := VL [(6, fun v _ => v = pB b 3)]) aM (by kernel_rfl) ⟨fun _ _ _ _ h => h, trivial⟩ ⟨?_, trivial⟩ ?_
       ·intro a w hT
        have hAp := hT.ag aM [(3, pB b 0)] ⟨rfl, trivial⟩ (by kernel_rfl)
        exact ovr hAp rfl (r_fieldAddr (hAp.get rfl) Tryz.underlying38 rfl ti_3 (by decide)) fun _ => Eq.refl _
       ·intro bC bD av bF bG
        have bH := bF [(1, pB d 0), (3, pB b 0), (36, .int .i64 m)] ⟨rfl, rfl, rfl, trivial⟩ (by kernel_rfl)
        have bI : bC.tmps.getD 38 undef = pB b 3 := bG 6 rfl 38 rfl
        have ax := bH.add bI
        have bJ := bv.ext av
        have aN := bz.ext av
        have bK : Chg [] aa bD := av
        refine one (D := ao) (i := 7) rfl (by kernel_rfl) (opk_store ax aN (r_store (vs := [.int .i64 m]) (ax.get rfl) (ax.get rfl) rfl ti_3 aN rfl (ones_all _ rfl)) fun cF ak aO bL bM => ?_)
        have bN : Box ak b 38 [.int .i64 f, .int .i64 g, .int .i64 l, .int .i64 m, .int .i64 0, .string (Bs []), .string (Bs [])] := bL
        have bO := bJ.keep aO (by simpa using am)
        have bP := bK.storeOld aO
        refine PR_end (by kernel_rfl) ?_
        have bQ := bM.kp [(1, pB d 0), (3, pB b 0)] rfl
        refine gK (bs := [(b, 38, [.int .i64 f, .int .i64 g, .int .i64 l, .int .i64 m, .int .i64 0, .string (Bs []), .string (Bs [])]), (d, 38, [.int .i64 f, .int .i64 g, .int .i64 l, .int .i64 m, .int .i64 o, .string (Bs j), .string (Bs k)])]) (N := []) bQ bP ⟨bN, bO, trivial⟩ (by simp [(Ne.symm am)]) trivial (by simp) bB ?_
        refine bn <| tn <| gS <| gR <| gBN 0 7 Tryz.underlying38 ti_38 ?_
        refine gBN 1 7 Tryz.underlying38 ti_38 ?_
        refine g2 (fun p q => r_aeql p q (eq_38 _ _ _ _ _ _ _ _ _ _ _ _ _ _)) ?_
        refine gN <| ge <| tn <| gr <| gT0 ?_
        exact gz1
    ·refine gS <| gR <| g2 r_eql ?_
     refine gN <| ge <| tn ?_
     refine gi dT dF ?_ ?_
     ·intro cG y bR
      have z := y.ag
      have bS := y.bx 1 rfl
      have bT := y.bx 0 rfl
      have bU := y.chg
      have bV := y.new d (by simp)
      have bX := y.new b (by simp)
      have an : d ≠ b := y.ne 1 0
      let ay : List (List Nat) := [[], [0], [], [2], [0, 1], [0, 1, 4], [0, 1, 2, 3, 4, 5], [0, 1, 2, 3, 4, 5, 6]]
      refine draw' (by kernel_rfl) fun s ai => ?_
      have az := bS.ext ai
      have aP := bT.ext ai
      have bY := bU.more ai
      have bZ := bV.up ai.size
      have b0 := bX.up ai.size
      have b1 := bR s d b bZ b0 an bY
      refine startF (D := ay) (Fs := [0, 1, 2, 3, 4]) (Ef := [(0, fun v _ => v = pB d 5), (1, fun v _ => v = .string (Bs j)), (2, fun v _ => v = pB d 6), (3, fun v _ => v = .string (Bs k)), (4, fun v _ => v = pB b 5)]) (by kernel_rfl) ?_
      refine oneF (c := 5) z rfl (by kernel_rfl) (constF ⟨fun _ _ _ h => h, fun _ _ _ h => h, fun _ _ _ h => h, fun _ _ _ h => h, fun _ _ _ h => h, trivial⟩) ⟨?_, ?_, ?_, ?_, ?_, trivial⟩ ?_
      ·intro a hT
       have hAp := hT.ag z [(1, pB d 0)] ⟨rfl, trivial⟩ (by kernel_rfl)
       exact opk_val hAp rfl (r_fieldAddr (hAp.get rfl) Tryz.underlying38 rfl ti_9 (by decide)) fun _ _ e => ⟨_, e, rfl, fun _ => Eq.refl _⟩
      ·intro a hT
       have hAp := hT.ag z [] trivial (by kernel_rfl)
       have hAp := hAp.add (t := 41) (v := pB d 5) (hT.vals 0 rfl 41 rfl)
       exact opk_val hAp rfl (r_load1 tU9 rfl (hAp.get rfl) ((az.ext hT.chg).cell 5 _ rfl)) fun _ _ e => ⟨_, e, rfl, fun _ => Eq.refl _⟩
      ·intro a hT
       have hAp := hT.ag z [(1, pB d 0)] ⟨rfl, trivial⟩ (by kernel_rfl)
       exact opk_val hAp rfl (r_fieldAddr (hAp.get rfl) Tryz.underlying38 rfl ti_9 (by decide)) fun _ _ e => ⟨_, e, rfl, fun _ => Eq.refl _⟩
      ·intro a hT
       have hAp := hT.ag z [] trivial (by kernel_rfl)
       have hAp := hAp.add (t := 43) (v := pB d 6) (hT.vals 2 rfl 43 rfl)
       exact opk_val hAp rfl (r_load1 tU9 rfl (hAp.get rfl) ((az.ext hT.chg).cell 6 _ rfl)) fun _ _ e => ⟨_, e, rfl, fun _ => Eq.refl _⟩
      ·intro a hT
       have hAp := hT.ag z [(3, pB b 0)] ⟨rfl, trivial⟩ (by kernel_rfl)
       exact opk_val hAp rfl (r_fieldAddr (hAp.get rfl) Tryz.underlying38 rfl ti_9 (by decide)) fun _ _ e => ⟨_, e, rfl, fun _ => Eq.refl _⟩
      ·intro aQ hT
       have b2 := hT.ag z [(1, pB d 0), (3, pB b 0), (18, .int .i64 f), (39, .bool (decide (f = 4)))] ⟨rfl, rfl, rfl, rfl, trivial⟩ (by kernel_rfl)
       have b3 : aQ.tmps.getD 42 undef = .string (Bs j) := hT.vals 1 rfl 42 rfl
       have b4 := b2.add b3
       have b5 : aQ.tmps.getD 45 undef = pB b 5 := hT.vals 4 rfl 45 rfl
       have aA := b4.add b5
       refine opk_storeF aA aP (r_store (vs := [.string (Bs j)]) (aA.get rfl) (aA.get rfl) rfl ti_9 aP rfl (ones_all _ rfl)) fun aR aS b6 b7 => ⟨undef, Eq.refl _, ?_⟩
       have b8 : Box aR b 38 [.int .i64 f, .int .i64 g, .int .i64 0, .int .i64 0, .int .i64 0, .string (Bs j), .string (Bs [])] := b6
       have aU := az.keep aS (by simpa using an)
       have b9 : Chg [b] s aR := aS
       refine PRF_drop (X := [0, 1, 4]) (Fs' := [2, 3]) b7 (by kernel_rfl) fun cH ca cI => ?_
       have aB := ca [(1, pB d 0), (3, pB b 0)] ⟨rfl, rfl, trivial⟩ (by kernel_rfl)
       refine joinF aB (by kernel_rfl) ⟨fun _ _ _ _ h => h, fun _ _ _ _ h => h, trivial⟩ ⟨?_, ?_, trivial⟩ ?_
       ·intro a w hT
        have hAp := hT.ag aB [(1, pB d 0)] ⟨rfl, trivial⟩ (by kernel_rfl)
        exact ovr hAp rfl (r_fieldAddr (hAp.get rfl) Tryz.underlying38 rfl ti_9 (by decide)) fun _ => Eq.refl _
       ·intro a w hT
        have hAp := hT.ag aB [] trivial (by kernel_rfl)
        have hAp := hAp.add (t := 43) (v := pB d 6) (hT.vals 2 rfl 43 rfl)
        exact ovr hAp rfl (r_load1 tU9 rfl (hAp.get rfl) ((aU.ext hT.chg).cell 6 _ rfl)) fun _ => Eq.refl _
       ·intro cb ab aC cc cd
        have cf := cc [(1, pB d 0), (3, pB b 0)] ⟨rfl, rfl, trivial⟩ (by kernel_rfl)
        have cg : cb.tmps.getD 44 undef = .string (Bs k) := cd 3 rfl 44 rfl
        have aV := cf.add cg
        have ch := aU.ext aC
        have ci := b8.ext aC
        have cj := b9.more aC
        have ck := b1 ab    cj
        refine par (D := ay) (S := [6]) (F := []) (V := VL [(6, fun v _ => v = pB b 6)]) aV (by kernel_rfl) ⟨fun _ _ _ _ h => h, trivial⟩ ⟨?_, trivial⟩ ?_
        ·intro a w hT
         have hAp := hT.ag aV [(3, pB b 0)] ⟨rfl, trivial⟩ (by kernel_rfl)
         exact ovr hAp rfl (r_fieldAddr (hAp.get rfl) Tryz.underlying38 rfl ti_9 (by decide)) fun _ => Eq.refl _
        ·intro cl cm aD cn co
         have cp := cn [(1, pB d 0), (3, pB b 0), (44, .string (Bs k))] ⟨rfl, rfl, rfl, trivial⟩ (by kernel_rfl)
         have cq : cl.tmps.getD 46 undef = pB b 6 := co 6 rfl 46 rfl
         have aG := cp.add cq
         have cr := ch.ext aD
         have aX := ci.ext aD
         have cs : Chg [] ab cm := aD
         refine one (D := ay) (i := 7) rfl (by kernel_rfl) (opk_store aG aX (r_store (vs := [.string (Bs k)]) (aG.get rfl) (aG.get rfl) rfl ti_9 aX rfl (ones_all _ rfl)) fun cJ al aY ct cu => ?_)
         have cv : Box al b 38 [.int .i64 f, .int .i64 g, .int .i64 0, .int .i64 0, .int .i64 0, .string (Bs j), .string (Bs k)] := ct
         have cx := cr.keep aY (by simpa using an)
         have cy := cs.storeOld aY
         refine PR_end (by kernel_rfl) ?_
         have cz := cu.kp [(1, pB d 0), (3, pB b 0)] rfl
         refine gK (bs := [(b, 38, [.int .i64 f, .int .i64 g, .int .i64 0, .int .i64 0, .int .i64 0, .string (Bs j), .string (Bs k)]), (d, 38, [.int .i64 f, .int .i64 g, .int .i64 l, .int .i64 m, .int .i64 o, .string (Bs j), .string (Bs k)])]) (N := []) cz cy ⟨cv, cx, trivial⟩ (by simp [(Ne.symm an)]) trivial (by simp) ck ?_
         refine bn <| tn <| gS <| gR <| gBN 0 7 Tryz.underlying38 ti_38 ?_
         refine gBN 1 7 Tryz.underlying38 ti_38 ?_
         refine g2 (fun p q => r_aeql p q (eq_38 _ _ _ _ _ _ _ _ _ _ _ _ _ _)) ?_
         refine gN <| ge <| tn <| gr <| gT0 ?_
         exact gz1
     ·refine gS <| gR <| g2 r_eql ?_
      refine gN <| ge <| tn ?_
      refine gi dT dF ?_ ?_
      ·refine gR <| gF 5 Tryz.underlying38 ti_9 ?_
       refine gB 1 tU9 ?_
       refine gF 5 Tryz.underlying38 ti_9 ?_
       refine wn 0 0 ti_9 fun ad => ge <| bn <| tn <| gS <| gR ?_
       refine gBN 0 7 Tryz.underlying38 ti_38 ?_
       refine gBN 1 7 Tryz.underlying38 ti_38 ?_
       refine g2 (fun p q => r_aeql p q (eq_38 _ _ _ _ _ _ _ _ _ _ _ _ _ _)) ?_
       refine gN <| ge <| tn <| gr <| gT2 ?_
       exact gz1
      ·refine gS <| gR <| g2 r_eql ?_
       refine gN <| ge <| tn ?_
       refine gi dT dF ?_ ?_
       ·refine gR <| gF 6 Tryz.underlying38 ti_9 ?_
        refine gB 1 tU9 ?_
        refine gF 6 Tryz.underlying38 ti_9 ?_
        refine wn 0 0 ti_9 fun af => ge <| bn <| tn <| gS <| gR ?_
        refine gBN 0 7 Tryz.underlying38 ti_38 ?_
        refine gBN 1 7 Tryz.underlying38 ti_38 ?_
        refine g2 (fun p q => r_aeql p q (eq_38 _ _ _ _ _ _ _ _ _ _ _ _ _ _)) ?_
        refine gN <| ge <| tn <| gr <| gT2 ?_
        exact gz1
       ·refine gS <| gR <| gN <| ge <| tn <| gr <| br <| tr <| gT2 ?_
        exact gz1
def ref23_Each.vc (k : Int) (l : Str) (m : Str) (p : Sl) (q : Sl) (c : Sl) (R : Value → World → Prop) (w : World) : Prop :=
∀ (r : World) (ag : Nat), New w ag r → Chg [] w r →
CallK Tryz.prog 24 #[.agg #[.int .i64 k, .string (Bs l), .string (Bs m), Sl.v p, Sl.v q]] r [ag] (fun v s => ∃ (f : Option Addr), v = .pointer f ∧
(((Option.isNone f) = true) →
R (.tuple #[Sl.v Sl.nil, .int .i64 0, .int .i64 1]) s) ∧
(((Option.isNone f) = false) →
((1500 < (c.n : Int)) →
R (.tuple #[Sl.v Sl.nil, .int .i64 0, .int .i64 2]) s) ∧
((¬ (1500 < (c.n : Int))) →
∃ (ah : Sl → Int → World → Prop) (aG : Sl → Int → World → Nat),
ah Sl.nil 0 s ∧
(∀ (d : Sl) (b : Int) (h : World), ah d b h →
((b < (c.n : Int)) →
((0 : Int) ≤ b ∧ b < (c.n : Int)) ∧ ∃ ai : Addr, c.a = some ai ∧
∃ (aj : Int) (ak : Int) (al : Int) (am : Int) (an : Int) (ao : Str) (ap : Str), (Cells h (ai.add (b.toNat * 7)) [.int .i64 aj, .int .i64 ak, .int .i64 al, .int .i64 am, .int .i64 an, .string (Bs ao), .string (Bs ap)]) ∧
CallK Tryz.prog 13 #[.agg #[.int .i64 aj, .int .i64 ak, .int .i64 al, .int .i64 am, .int .i64 an, .string (Bs ao), .string (Bs ap)]] h [] (fun v t => ∃ (u : Bool), v = .bool u ∧
((u = false) →
R (.tuple #[Sl.v d, .int .i64 b, .int .i64 15]) t) ∧
((u = true) →
((0 : Int) ≤ b ∧ b < (c.n : Int)) ∧ ∃ aq : Addr, c.a = some aq ∧
∃ (ar : Int) (au : Int) (av : Int) (ax : Int) (ay : Int) (az : Str) (aA : Str), (Cells t (aq.add (b.toNat * 7)) [.int .i64 ar, .int .i64 au, .int .i64 av, .int .i64 ax, .int .i64 ay, .string (Bs az), .string (Bs aA)]) ∧
CallK Tryz.prog 25 #[.pointer f, .agg #[.int .i64 ar, .int .i64 au, .int .i64 av, .int .i64 ax, .int .i64 ay, .string (Bs az), .string (Bs aA)]] t [] (fun v aB => ∃ (i : Int), v = .int .i64 i ∧
((i ≠ 0) →
R (.tuple #[Sl.v d, .int .i64 b, .int .i64 i]) aB) ∧
((¬ (i ≠ 0)) →
CallK Tryz.prog 26 #[.pointer f, .int .i64 0] aB [] (fun v aC => ∃ (x : Int) (y : Str) (z : Str) (aa : Sl) (ab : Sl), v = .agg #[.int .i64 x, .string (Bs y), .string (Bs z), Sl.v aa, Sl.v ab] ∧
∀ (j : World) (ad : Nat), New aC ad j → Chg [] aC j →
∀ (_ : Box j ad 25 [.int .i64 x, .string (Bs y), .string (Bs z), Sl.v aa, Sl.v ab]),
RunK Tryz.prog (Builtin.append_ #[23, 23] 23 #[Sl.v d, Sl.v (Sl.mk (some ⟨ad, 0, none⟩) 1 1)]) j [] (fun v aD => ∃ (af : Sl), v = Sl.v af ∧
(I64 (b + 1)) ∧
ah af (b + 1) aD ∧ aG af (b + 1) aD < aG d b h))))))) ∧
((¬ (b < (c.n : Int))) →
R (.tuple #[Sl.v d, .int .i64 (c.n : Int), .int .i64 0]) h)))))
theorem ref23_Each.ok (k : Int) (l : Str) (m : Str) (p : Sl) (q : Sl) (c : Sl) {R : Value → World → Prop} {w : World} (aH : ref23_Each.vc k l m p q c R w) : Calls Tryz.prog 15 #[.agg #[.int .i64 k, .string (Bs l), .string (Bs m), Sl.v p, Sl.v q], Sl.v c] w (Ret R) := by
 refine go _ Tryz.func15 Tryz.ntmps15 aH ?_
 refine gS <| gR <| nb fun r ag => ?_
 refine gN ?_
 refine gN ?_
 refine gN <| ge <| tn <| gS <| gR ?_
 refine gBN 0 5 Tryz.underlying25 ti_25 <| gT1 ?_
 refine gC [0] Tryz.func24 fun _ s => gE fun f => gQ ?_
 refine gN <| ge <| tn <| gS <| gS <| gR ?_
 refine gM ?_
 refine g2 (fun g aI => r_pnil (o := f) g aI tU58) <| ge <| tn ?_
 refine gi id id ?_ ?_
 ·refine gS <| gR <| gN ?_
  refine gN ?_
  refine gN <| ge <| tn <| gr <| tr ?_
  exact gz3
 ·refine gk <| tn <| gS <| gS <| gR <| gM ?_
  refine g1 (fun g => r_len g tU26) ?_
  refine g2 r_gtr <| ge <| tn ?_
  refine gi dT dF ?_ ?_
  ·refine gS <| gR <| gN ?_
   refine gN ?_
   refine gN <| ge <| tn <| gr <| tr ?_
   exact gz3
  ·refine gk <| tn <| gS <| gR <| gN <| ge <| tn <| gS <| gS <| gR ?_
   refine gN <| ge <| tn <| gb <| gE fun _ => gE fun mu => ?_
   refine l2 mu (fun d b => [(8, Sl.v d), (9, .int .i64 b)]) [(1, _), (7, _)] (fun _ _ => []) [] [] fun d b h _ => gS <| gS <| gR ?_
   refine gM ?_
   refine gM ?_
   refine g1 (fun g => r_len g tU26) ?_
   refine g2 r_lss <| ge <| tn ?_
   refine gi dT dF ?_ ?_
   ·refine gk <| tn <| gS <| gb <| gS <| gS <| gR <| gM ?_
    refine gM ?_
    refine gI1 tU26 ti_38 fun ai => ?_
    refine gE fun aj => gE fun ak => gE fun al => gE fun am => gE fun an => gE fun ao => gE fun ap => gLN Tryz.underlying38 ti_38 ?_
    refine gC [] Tryz.func13 fun _ t => gE fun u => gQ ?_
    refine g1 r_not <| ge <| tn ?_
    refine gi nT nF ?_ ?_
    ·refine gS <| gR <| gM ?_
     refine gM ?_
     refine gN ?_
     refine gN ?_
     refine gN <| ge <| tn <| gr <| tr <| br <| tr <| tr <| br <| tr ?_
     exact gz3
    ·refine gk <| tn <| gS <| gS <| gR <| gM ?_
     refine gM ?_
     refine gM ?_
     refine gI1 tU26 ti_38 fun aq => ?_
     refine gE fun ar => gE fun au => gE fun av => gE fun ax => gE fun ay => gE fun az => gE fun aA => gLN Tryz.underlying38 ti_38 ?_
     refine gC [] Tryz.func25 fun _ aB => gE fun i => gQ ?_
     refine gN <| ge <| tn <| gS <| gR ?_
     refine gM ?_
     refine g2 r_neq <| ge <| tn ?_
     refine gi dT dF ?_ ?_
     ·refine gS <| gR <| gM ?_
      refine gM ?_
      refine gM ?_
      refine gN ?_
      refine gN ?_
      refine gN <| ge <| tn <| gr <| tr <| br <| tr <| tr <| br <| tr ?_
      exact gz3
     ·refine gk <| tn <| gR <| gM ?_
      refine gM ?_
      refine gC [] Tryz.func26 fun _ aC => gE fun x => gE fun y => gE fun z => gE fun aa => gE fun ab => gQ ?_
      refine ns [.int .i64 x, .string (Bs y), .string (Bs z), Sl.v aa, Sl.v ab] tU23 ti_25 fun j ad => gT1 ?_
      refine gX 0 ?_
      refine gR2 [] r_append fun _ aD => gE fun af => gQ ?_
      refine gN <| ge <| bn <| tn <| gR ?_
      refine gM ?_
      refine g2s r_addI ?_
      refine gN <| ge ?_
      exact k2 []
   ·refine gx <| te <| te <| bh <| tn <| gS <| gR <| gM ?_
    refine gM ?_
    refine g1 (fun g => r_len g tU26) ?_
    refine gN ?_
    refine gN ?_
    refine gN <| ge <| tn <| gr ?_
    exact gz3
end Go.Proofs.YtghmgfkdnolcdaaGreat
