/-
  PRINTED BY PROGRAM: for each function its condition (vc), and that this suffices (ok).
-/
import Derived.Test.YteohbfaechfliaaQSlotsTurnedGT
namespace Go.Proofs.Yteohbfaechfliaa
open Go.RowKit
set_option linter.unusedVariables false
set_option maxHeartbeats 1000000
set_option maxRecDepth 10000
def ref20_Z_Distance.vc (d : Addr) (k : Int) (g : Int) (l : Int) (f : Int) (R : Value → World → Prop) (w : World) : Prop :=
(((k = g) ∨ (l = f)) →
(I64 (g - k)) ∧
(I64 ((g - k) + f)) ∧
(I64 (((g - k) + f) - l)) ∧
∀ (w7 : World) (m : Nat) (j : Nat), New w m w7 → New w j w7 → m ≠ j → Chg [] w w7 →
R (.int .i64 (((g - k) + f) - l)) w7) ∧
(((¬ (k = g)) ∧ (¬ (l = f))) →
∀ (aN : World) (m : Nat) (j : Nat) (p : Nat), New w m aN → New w j aN → New w p aN → m ≠ j → m ≠ p → j ≠ p → Chg [] w aN →
∃ (bC : Int → World → Prop) (b8 : Int → World → Nat),
bC 0 aN ∧
(∀ (ai : Int) (aO : World), bC ai aO →
∃ (a1 : Sl), (aO.cell? (d.add 6) = some (Sl.v a1)) ∧
((ai < (a1.n : Int)) →
∀ (aP : World), Chg [] aO aP →
∃ (a2 : Sl), (aP.cell? (d.add 6) = some (Sl.v a2)) ∧
∃ bD : Addr, (((0 : Int) ≤ ai ∧ ai < (a2.n : Int)) ∧ a2.a = some bD) ∧
∃ (a3 : Int) (a4 : Int) (a5 : Int) (a6 : Int), (Cells aP (bD.add (ai.toNat * 4)) [.int .i64 a3, .int .i64 a4, .int .i64 a5, .int .i64 a6]) ∧
((a3 = k ∧ a4 = g ∧ a5 = l ∧ a6 = f) →
∀ (am : World), Chg [] aP am →
∃ (a7 : Sl), (am.cell? (d.add 7) = some (Sl.v a7)) ∧
((0 : Int) ≤ ai ∧ ai < (a7.n : Int)) ∧ ∃ bF : Addr, a7.a = some bF ∧
∃ (bG : Int), (am.cell? (bF.add (ai.toNat * 1)) = some (.int .i64 bG)) ∧
R (.int .i64 bG) am) ∧
((¬ (a3 = k ∧ a4 = g ∧ a5 = l ∧ a6 = f)) →
(I64 (ai + 1)) ∧
∀ (am : World), Chg [] aP am →
bC (ai + 1) am ∧ b8 (ai + 1) am < b8 ai aO)) ∧
((¬ (ai < (a1.n : Int))) →
CallK Try.prog 87 #[.pointer (some d), .agg #[.int .i64 k, .int .i64 g], .agg #[.int .i64 l, .int .i64 f]] aO [m, j, p] (fun v aQ => ∃ (aC : Int) (aD : Int) (aG : Int) (aH : Int) (an : Int) (ao : Int) (ap : Int) (aq : Int), v = .tuple #[.agg #[.int .i64 aC, .int .i64 aD], .agg #[.int .i64 aG, .int .i64 aH], .agg #[.int .i64 an, .int .i64 ao], .agg #[.int .i64 ap, .int .i64 aq]] ∧
∀ (ar : World) (ad : Nat) (af : Nat) (z : Nat) (aa : Nat), New aQ ad ar → New aQ af ar → New aQ z ar → New aQ aa ar → ad ≠ af → ad ≠ z → ad ≠ aa → af ≠ z → af ≠ aa → z ≠ aa → Chg [] aQ ar →
CallK Try.prog 77 #[.pointer (some d), .agg #[.int .i64 aC, .int .i64 aD], .agg #[.int .i64 aG, .int .i64 aH]] ar [m, j, p, ad, af, z, aa] (fun v b9 => ∃ (o : Int), v = .int .i64 o ∧
CallK Try.prog 77 #[.pointer (some d), .agg #[.int .i64 an, .int .i64 ao], .agg #[.int .i64 ap, .int .i64 aq]] b9 [m, j, p, ad, af, z, aa] (fun v a8 => ∃ (q : Int), v = .int .i64 q ∧
(I64 (o + q)) ∧
∃ (r : Int), (∀ w' : World, Ext a8 w' → Calls Try.prog 88 #[.pointer (some d), .agg #[.int .i64 k, .int .i64 g], .agg #[.int .i64 l, .int .i64 f]] w' (Ret fun v w'' => Ext w' w'' ∧ v = .int .i64 r)) ∧
(I64 ((o + q) + r)) ∧
∀ (a9 : World), Chg [] a8 a9 →
(I64 (g - 1)) ∧
(I64 (f - 1)) ∧
CallK Try.prog 77 #[.pointer (some d), .agg #[.int .i64 k, .int .i64 (g - 1)], .agg #[.int .i64 l, .int .i64 f]] a9 [m, j, p] (fun v ca => ∃ (x : Int), v = .int .i64 x ∧
(I64 (x + 1)) ∧
CallK Try.prog 77 #[.pointer (some d), .agg #[.int .i64 k, .int .i64 g], .agg #[.int .i64 l, .int .i64 (f - 1)]] ca [m, j, p] (fun v bH => ∃ (y : Int), v = .int .i64 y ∧
(I64 (y + 1)) ∧
∀ (aZ : World), Chg [] bH aZ →
∀ (au : World), Chg [] aZ au →
∃ (aI : Sl), (au.cell? (d.add 6) = some (Sl.v aI)) ∧
∀ (aJ : World) (ah : Nat), Ext au aJ → au.heap.size ≤ ah → Box aJ ah 140 [.int .i64 k, .int .i64 g, .int .i64 l, .int .i64 f] → 
∀ (_ : Box aJ ah 140 [.int .i64 k, .int .i64 g, .int .i64 l, .int .i64 f]),
RunK Try.prog (Builtin.append_ #[125, 125] 125 #[Sl.v aI, Sl.v (Sl.mk (some ⟨ah, 0, none⟩) 1 1)]) aJ [p] (fun v bI => ∃ (aR : Sl), v = Sl.v aR ∧
∀ (aS : World), Chg [] bI aS →
∀ (aU : World), Chg [] aS aU →
∃ (aV ba : Nat) (bJ : TypeId) (bb : List Value), (d.add 6) = ⟨aV, ba, none⟩ ∧ Box aU aV bJ bb ∧ ba + 1 ≤ bb.length ∧ (∀ b ∈ [p], b ≠ aV) ∧
(∀ aK : World, Chg [aV] aU aK → Box aK aV bJ (putAt bb ba [Sl.v aR]) →
∃ (bK : Sl), (aK.cell? (d.add 7) = some (Sl.v bK)) ∧
∀ (a0 : World) (bd : Nat), New aK bd a0 → Chg [] aK a0 →
∀ (_ : Box a0 bd 3 [.int .i64 (min (min ((o + q) + r) (x + 1)) (y + 1))]),
RunK Try.prog (Builtin.append_ #[22, 22] 22 #[Sl.v bK, Sl.v (Sl.mk (some ⟨bd, 0, none⟩) 1 1)]) a0 [] (fun v bL => ∃ (bM : Sl), v = Sl.v bM ∧
∃ (aX bf : Nat) (bN : TypeId) (bg : List Value), (d.add 7) = ⟨aX, bf, none⟩ ∧ Box bL aX bN bg ∧ bf + 1 ≤ bg.length ∧ (∀ b ∈ [], b ≠ aX) ∧
(∀ bi : World, Chg [aX] bL bi → Box bi aX bN (putAt bg bf [Sl.v bM]) →
R (.int .i64 (min (min ((o + q) + r) (x + 1)) (y + 1))) bi))))))))))))
theorem ref20_Z_Distance.ok (d : Addr) (k : Int) (g : Int) (l : Int) (f : Int) {R : Value → World → Prop} {w : World} (cF : ref20_Z_Distance.vc d k g l f R w) : Calls Try.prog 77 #[.pointer (some d), .agg #[.int .i64 k, .int .i64 g], .agg #[.int .i64 l, .int .i64 f]] w (Ret R) := by
 refine go _ Try.func77 Try.ntmps77 cF ?_
 refine gS <| gR <| nb fun w5 m => ?_
 refine nb fun w7 j => ?_
 refine gN <| ge <| tn <| gS <| gS <| gR ?_
 refine gF 0 Try.underlying129 ti_3 ?_
 refine gB 1 tU3 ?_
 refine gF 1 Try.underlying129 ti_3 ?_
 refine gB 1 tU3 ?_
 refine g2 r_eql ?_
 refine gM ?_
 refine GF 0 Try.underlying129 ti_3 ?_
 refine GB 0 tU3 ?_
 refine GF 1 Try.underlying129 ti_3 ?_
 refine GB 0 tU3 ?_
 refine G2 r_eql ?_
 refine gpo <| ge <| tn ?_
 refine gi (fun h => ((oT h).imp (fun h => (dT h)) (fun h => (dT h)))) (fun h => ⟨(dF (oF h).1), (dF (oF h).2)⟩) ?_ ?_
 ·refine gS <| gR <| gF 1 Try.underlying129 ti_3 ?_
  refine gB 1 tU3 ?_
  refine gF 0 Try.underlying129 ti_3 ?_
  refine gB 1 tU3 ?_
  refine g2s r_subI ?_
  refine gF 1 Try.underlying129 ti_3 ?_
  refine gB 0 tU3 ?_
  refine g2s r_addI ?_
  refine gF 0 Try.underlying129 ti_3 ?_
  refine gB 0 tU3 ?_
  refine g2s r_subI ?_
  refine gN <| ge <| tn <| gr <| tr <| gT2 ?_
  exact gz1
 ·refine gk <| tn <| gS <| gR <| gF 0 Try.underlying129 ti_3 ?_
  refine gB 1 tU3 ?_
  refine gF 1 Try.underlying129 ti_3 ?_
  refine gB 1 tU3 ?_
  refine gF 0 Try.underlying129 ti_3 ?_
  refine gB 0 tU3 ?_
  refine gF 1 Try.underlying129 ti_3 ?_
  refine gB 0 tU3 ?_
  refine gv (fun _ _ s _ => r_buildA (cells := #[.int .i64 k, .int .i64 g, .int .i64 l, .int .i64 f]) (map_arr2 (ml2_cons (s.ag.opv rfl) (ml2_cons (s.ag.opv rfl) (ml2_cons (s.ag.opv rfl) (ml2_cons (s.ag.opv rfl) (ml2_nil)))))) ti_140 Try.underlying140 ti_3 (by kernel_rfl)) ?_
  refine na ti_140 fun h3 p => ?_
  refine wn 0 0 ti_140 fun aN => ge <| tn <| gS <| gS <| gR ?_
  refine gN <| ge <| tn <| gb <| gT3 <| gE fun _ => gE fun mu => ?_
  refine l1 mu (fun ai => [(8, .int .i64 ai)]) [(0, _), (4, _), (5, _), (7, _)] (fun _ => []) [(m, _, _), (j, _, _), (p, _, _)] [2, 1, 0] fun ai aO _ => gS <| gS <| gR ?_
  refine gM ?_
  refine gM ?_
  refine g1 r_nilCheck ?_
  refine gF 6 Try.underlying127 ti_125 ?_
  refine gE fun a1 => gL tU125 ?_
  refine g1 (fun bO => r_len bO tU125) ?_
  refine g2 r_lss <| ge <| tn ?_
  refine gi dT dF ?_ ?_
  ·refine gk <| tn <| gS <| gb <| gS <| gD fun aP => gT0 ?_
   refine gW 0 9 [] ?_
   refine gM ?_
   refine g1 r_nilCheck ?_
   refine gF 6 Try.underlying127 ti_125 ?_
   refine gE fun a2 => gL tU125 ?_
   refine gM ?_
   refine gI2 tU125 ti_140 fun bD => ?_
   refine gE fun a3 => gE fun a4 => gE fun a5 => gE fun a6 => gLN Try.underlying140 ti_140 ?_
   refine gBN 2 4 Try.underlying140 ti_140 ?_
   refine g2 (fun bO cG => r_aeql bO cG (eq_140 _ _ _ _ _ _ _ _)) <| geT fun am => ?_
   refine gZ <| tn ?_
   refine gi dT dF ?_ ?_
   ·refine gS <| gR <| gM ?_
    refine g1 r_nilCheck ?_
    refine gF 7 Try.underlying127 ti_22 <| gT0 ?_
    refine gE fun a7 => gL tU22 ?_
    refine gM ?_
    refine gI1 tU22 ti_3 fun bF => ?_
    refine gE fun bG => gL tU3 ?_
    refine gN <| ge <| tn <| gr <| br <| tr <| tr <| br <| tr ?_
    exact gz1
   ·refine gk <| bn <| tn <| gR <| gM ?_
    refine g2s r_addI ?_
    refine gN <| ge <| gT0 ?_
    exact k1 [0, 1, 2]
  ·refine gx <| te <| te <| bh <| tn <| gS <| gR <| gM ?_
   refine gBN 0 2 Try.underlying129 ti_129 ?_
   refine gBN 1 2 Try.underlying129 ti_129 ?_
   refine gC [0, 1, 2] Try.func87 fun _ aQ => gE fun aC => gE fun aD => gE fun aG => gE fun aH => gE fun an => gE fun ao => gE fun ap => gE fun aq => gQ ?_
   refine gM ?_
   refine gx1 ?_
   refine gx1 ?_
   refine gx1 ?_
   refine gx1 ?_
   refine na ti_129 fun h4 ad => ?_
   refine na ti_129 fun h5 af => ?_
   refine na ti_129 fun h6 z => ?_
   refine na ti_129 fun h7 aa => ?_
   refine wn 3 3 ti_129 fun h8 => ?_
   refine wn 2 2 ti_129 fun h9 => ?_
   refine wn 1 1 ti_129 fun ia => ?_
   refine wn 0 0 ti_129 fun ib => ge <| tn <| gS ?_
   intro id u cH
   have al := u.ag
   have cI := u.bx 4 rfl
   have cJ := u.bx 5 rfl
   have cK := u.bx 6 rfl
   have cL := u.bx 3 rfl
   have cM := u.bx 2 rfl
   have cN := u.bx 1 rfl
   have cO := u.bx 0 rfl
   have cP := u.chg
   have cQ := u.new ad (by simp)
   have cR := u.new af (by simp)
   have cS := u.new z (by simp)
   have cT := u.new aa (by simp)
   have cU : m ≠ j := u.ne 4 5
   have cX : m ≠ p := u.ne 4 6
   have cY : j ≠ p := u.ne 5 6
   have ig : m ≠ ad := u.ne 4 3
   have ih : j ≠ ad := u.ne 5 3
   have ii : p ≠ ad := u.ne 6 3
   have ij : m ≠ af := u.ne 4 2
   have ik : j ≠ af := u.ne 5 2
   have il : p ≠ af := u.ne 6 2
   have cZ : ad ≠ af := u.ne 3 2
   have im : m ≠ z := u.ne 4 1
   have io : j ≠ z := u.ne 5 1
   have ip : p ≠ z := u.ne 6 1
   have c0 : ad ≠ z := u.ne 3 1
   have c1 : af ≠ z := u.ne 2 1
   have iq : m ≠ aa := u.ne 4 0
   have ir : j ≠ aa := u.ne 5 0
   have it : p ≠ aa := u.ne 6 0
   have c2 : ad ≠ aa := u.ne 3 0
   have c3 : af ≠ aa := u.ne 2 0
   have c4 : z ≠ aa := u.ne 1 0
   let cb : List (List Nat) := [[], [], [], [0, 1, 2], [], [], [], [0, 1, 2, 3, 4, 5, 6], [0, 1, 2, 3, 4, 5, 6, 7], [], [], [], [0, 1, 2, 3, 4, 5, 6, 7, 9, 10, 11], [0, 1, 2, 3, 4, 5, 6, 7, 8, 9, 10, 11, 12], [0, 1, 2, 3, 4, 5, 6, 7, 8, 9, 10, 11, 12, 13]]
   refine draw' (by kernel_rfl) fun ar aj => ?_
   have cc := cI.ext aj
   have cd := cJ.ext aj
   have c5 := cK.ext aj
   have cf := cL.ext aj
   have cg := cM.ext aj
   have ch := cN.ext aj
   have ci := cO.ext aj
   have c6 := cP.more aj
   have c7 := cQ.up aj.size
   have c8 := cR.up aj.size
   have c9 := cS.up aj.size
   have da := cT.up aj.size
   have db := cH ar ad af z aa c7 c8 c9 da cZ c0 c2 c1 c3 c4 c6
   refine startF (D := cb) (Fs := [0, 1, 2, 4, 5, 6, 9, 10, 11]) (Ef := [(0, fun v _ => v = .pointer (some d)), (1, fun v _ => v = .agg #[.int .i64 aC, .int .i64 aD]), (2, fun v _ => v = .agg #[.int .i64 aG, .int .i64 aH]), (4, fun v _ => v = .pointer (some d)), (5, fun v _ => v = .agg #[.int .i64 an, .int .i64 ao]), (6, fun v _ => v = .agg #[.int .i64 ap, .int .i64 aq]), (9, fun v _ => v = .pointer (some d)), (10, fun v _ => v = .agg #[.int .i64 k, .int .i64 g]), (11, fun v _ => v = .agg #[.int .i64 l, .int .i64 f])]) (by kernel_rfl) ?_
   refine oneF (c := 3) al rfl (by kernel_rfl) (constF ⟨fun _ _ _ h => h, fun _ _ _ h => h, fun _ _ _ h => h, fun _ _ _ h => h, fun _ _ _ h => h, fun _ _ _ h => h, fun _ _ _ h => h, fun _ _ _ h => h, fun _ _ _ h => h, trivial⟩) ⟨?_, ?_, ?_, ?_, ?_, ?_, ?_, ?_, ?_, trivial⟩ ?_
   ·intro a hT
    have hAp := hT.ag al [(0, .pointer (some d))] ⟨rfl, trivial⟩ (by kernel_rfl)
    exact opk_val hAp rfl (r_move (hAp.get rfl)) fun _ _ e => ⟨_, e, rfl, fun _ => Eq.refl _⟩
   ·intro a hT
    have hAp := hT.ag al [(9, pB ad 0)] ⟨rfl, trivial⟩ (by kernel_rfl)
    exact opk_val hAp rfl (r_loadN (cs := [.int .i64 aC, .int .i64 aD]) Try.underlying129 rfl ti_129 (hAp.get rfl) ((cf.ext hT.chg).part 0 _ rfl)) fun _ _ e => ⟨_, e, rfl, fun _ => Eq.refl _⟩
   ·intro a hT
    have hAp := hT.ag al [(10, pB af 0)] ⟨rfl, trivial⟩ (by kernel_rfl)
    exact opk_val hAp rfl (r_loadN (cs := [.int .i64 aG, .int .i64 aH]) Try.underlying129 rfl ti_129 (hAp.get rfl) ((cg.ext hT.chg).part 0 _ rfl)) fun _ _ e => ⟨_, e, rfl, fun _ => Eq.refl _⟩
   ·intro a hT
    have hAp := hT.ag al [(0, .pointer (some d))] ⟨rfl, trivial⟩ (by kernel_rfl)
    exact opk_val hAp rfl (r_move (hAp.get rfl)) fun _ _ e => ⟨_, e, rfl, fun _ => Eq.refl _⟩
   ·intro a hT
    have hAp := hT.ag al [(11, pB z 0)] ⟨rfl, trivial⟩ (by kernel_rfl)
    exact opk_val hAp rfl (r_loadN (cs := [.int .i64 an, .int .i64 ao]) Try.underlying129 rfl ti_129 (hAp.get rfl) ((ch.ext hT.chg).part 0 _ rfl)) fun _ _ e => ⟨_, e, rfl, fun _ => Eq.refl _⟩
   ·intro a hT
    have hAp := hT.ag al [(12, pB aa 0)] ⟨rfl, trivial⟩ (by kernel_rfl)
    exact opk_val hAp rfl (r_loadN (cs := [.int .i64 ap, .int .i64 aq]) Try.underlying129 rfl ti_129 (hAp.get rfl) ((ci.ext hT.chg).part 0 _ rfl)) fun _ _ e => ⟨_, e, rfl, fun _ => Eq.refl _⟩
   ·intro a hT
    have hAp := hT.ag al [(0, .pointer (some d))] ⟨rfl, trivial⟩ (by kernel_rfl)
    exact opk_val hAp rfl (r_move (hAp.get rfl)) fun _ _ e => ⟨_, e, rfl, fun _ => Eq.refl _⟩
   ·intro a hT
    have hAp := hT.ag al [(4, pB m 0)] ⟨rfl, trivial⟩ (by kernel_rfl)
    exact opk_val hAp rfl (r_loadN (cs := [.int .i64 k, .int .i64 g]) Try.underlying129 rfl ti_129 (hAp.get rfl) ((cc.ext hT.chg).part 0 _ rfl)) fun _ _ e => ⟨_, e, rfl, fun _ => Eq.refl _⟩
   ·intro a hT
    have hAp := hT.ag al [(5, pB j 0)] ⟨rfl, trivial⟩ (by kernel_rfl)
    exact opk_val hAp rfl (r_loadN (cs := [.int .i64 l, .int .i64 f]) Try.underlying129 rfl ti_129 (hAp.get rfl) ((cd.ext hT.chg).part 0 _ rfl)) fun _ _ e => ⟨_, e, rfl, fun _ => Eq.refl _⟩
   ·intro bP hT
    have dc := hT.ag al [(0, .pointer (some d)), (4, pB m 0), (5, pB j 0), (7, pB p 0), (9, pB ad 0), (10, pB af 0), (11, pB z 0), (12, pB aa 0)] ⟨rfl, rfl, rfl, rfl, rfl, rfl, rfl, rfl, trivial⟩ (by kernel_rfl)
    have dd : bP.tmps.getD 80 undef = .pointer (some d) := hT.vals 0 rfl 80 rfl
    have df := dc.add dd
    have dg : bP.tmps.getD 81 undef = .agg #[.int .i64 aC, .int .i64 aD] := hT.vals 1 rfl 81 rfl
    have dh := df.add dg
    have di : bP.tmps.getD 82 undef = .agg #[.int .i64 aG, .int .i64 aH] := hT.vals 2 rfl 82 rfl
    have bj := dh.add di
    refine (opk_call bj rfl (r_call (args := #[.pointer (some d), .agg #[.int .i64 aC, .int .i64 aD], .agg #[.int .i64 aG, .int .i64 aH]]) Try.func77 (by decide) rfl (map_arr (ml_cons (bj.get rfl) (ml_cons (bj.get rfl) (ml_cons (bj.get rfl) ml_nil)))) rfl) db fun iu iv b9 dj dk aL ix dl => ?_)
    refine ⟨_, dk, ?_⟩
    obtain ⟨o, rfl, dm⟩ := dl
    have cj := cc.kept aL (.head _)
    have ck := cd.kept aL (.tail _ (.head _))
    have dn := c5.kept aL (.tail _ (.tail _ (.head _)))
    have dp := cf.kept aL (.tail _ (.tail _ (.tail _ (.head _))))
    have dq := cg.kept aL (.tail _ (.tail _ (.tail _ (.tail _ (.head _)))))
    have cl := ch.kept aL (.tail _ (.tail _ (.tail _ (.tail _ (.tail _ (.head _))))))
    have cm := ci.kept aL (.tail _ (.tail _ (.tail _ (.tail _ (.tail _ (.tail _ (.head _)))))))
    refine PRF_drop (X := [0, 1, 2]) (Fs' := [4, 5, 6, 9, 10, 11]) dj (by kernel_rfl) fun iy dr iz => ?_
    have av := dr [(0, .pointer (some d)), (4, pB m 0), (5, pB j 0), (7, pB p 0), (11, pB z 0), (12, pB aa 0), (83, .int .i64 o)] ⟨rfl, rfl, rfl, rfl, rfl, rfl, rfl, trivial⟩ (by kernel_rfl)
    refine oneF (c := 7) av rfl (by kernel_rfl) (constF ⟨fun _ _ _ h => h, fun _ _ _ h => h, fun _ _ _ h => h, fun _ _ _ h => h, fun _ _ _ h => h, fun _ _ _ h => h, trivial⟩) ⟨?_, ?_, ?_, ?_, ?_, ?_, trivial⟩ ?_
    ·intro a hT
     have hAp := hT.ag av [(0, .pointer (some d))] ⟨rfl, trivial⟩ (by kernel_rfl)
     exact opk_val hAp rfl (r_move (hAp.get rfl)) fun _ _ e => ⟨_, e, rfl, fun _ => Eq.refl _⟩
    ·intro a hT
     have hAp := hT.ag av [(11, pB z 0)] ⟨rfl, trivial⟩ (by kernel_rfl)
     exact opk_val hAp rfl (r_loadN (cs := [.int .i64 an, .int .i64 ao]) Try.underlying129 rfl ti_129 (hAp.get rfl) ((cl.ext hT.chg).part 0 _ rfl)) fun _ _ e => ⟨_, e, rfl, fun _ => Eq.refl _⟩
    ·intro a hT
     have hAp := hT.ag av [(12, pB aa 0)] ⟨rfl, trivial⟩ (by kernel_rfl)
     exact opk_val hAp rfl (r_loadN (cs := [.int .i64 ap, .int .i64 aq]) Try.underlying129 rfl ti_129 (hAp.get rfl) ((cm.ext hT.chg).part 0 _ rfl)) fun _ _ e => ⟨_, e, rfl, fun _ => Eq.refl _⟩
    ·intro a hT
     have hAp := hT.ag av [(0, .pointer (some d))] ⟨rfl, trivial⟩ (by kernel_rfl)
     exact opk_val hAp rfl (r_move (hAp.get rfl)) fun _ _ e => ⟨_, e, rfl, fun _ => Eq.refl _⟩
    ·intro a hT
     have hAp := hT.ag av [(4, pB m 0)] ⟨rfl, trivial⟩ (by kernel_rfl)
     exact opk_val hAp rfl (r_loadN (cs := [.int .i64 k, .int .i64 g]) Try.underlying129 rfl ti_129 (hAp.get rfl) ((cj.ext hT.chg).part 0 _ rfl)) fun _ _ e => ⟨_, e, rfl, fun _ => Eq.refl _⟩
    ·intro a hT
     have hAp := hT.ag av [(5, pB j 0)] ⟨rfl, trivial⟩ (by kernel_rfl)
     exact opk_val hAp rfl (r_loadN (cs := [.int .i64 l, .int .i64 f]) Try.underlying129 rfl ti_129 (hAp.get rfl) ((ck.ext hT.chg).part 0 _ rfl)) fun _ _ e => ⟨_, e, rfl, fun _ => Eq.refl _⟩
    ·intro bQ hT
     have ds := hT.ag av [(0, .pointer (some d)), (4, pB m 0), (5, pB j 0), (7, pB p 0), (11, pB z 0), (12, pB aa 0), (83, .int .i64 o)] ⟨rfl, rfl, rfl, rfl, rfl, rfl, rfl, trivial⟩ (by kernel_rfl)
     have dt : bQ.tmps.getD 84 undef = .pointer (some d) := hT.vals 4 rfl 84 rfl
     have du := ds.add dt
     have dv : bQ.tmps.getD 85 undef = .agg #[.int .i64 an, .int .i64 ao] := hT.vals 5 rfl 85 rfl
     have dx := du.add dv
     have dy : bQ.tmps.getD 86 undef = .agg #[.int .i64 ap, .int .i64 aq] := hT.vals 6 rfl 86 rfl
     have bk := dx.add dy
     refine (opk_call bk rfl (r_call (args := #[.pointer (some d), .agg #[.int .i64 an, .int .i64 ao], .agg #[.int .i64 ap, .int .i64 aq]]) Try.func77 (by decide) rfl (map_arr (ml_cons (bk.get rfl) (ml_cons (bk.get rfl) (ml_cons (bk.get rfl) ml_nil)))) rfl) dm fun iA iB a8 dz dA aM iC dB => ?_)
     refine ⟨_, dA, ?_⟩
     obtain ⟨q, rfl, dC⟩ := dB
     have cn := cj.kept aM (.head _)
     have co := ck.kept aM (.tail _ (.head _))
     have dD := dn.kept aM (.tail _ (.tail _ (.head _)))
     have dG := dp.kept aM (.tail _ (.tail _ (.tail _ (.head _))))
     have dH := dq.kept aM (.tail _ (.tail _ (.tail _ (.tail _ (.head _)))))
     have dI := cl.kept aM (.tail _ (.tail _ (.tail _ (.tail _ (.tail _ (.head _))))))
     have dJ := cm.kept aM (.tail _ (.tail _ (.tail _ (.tail _ (.tail _ (.tail _ (.head _)))))))
     refine PRF_drop (X := [4, 5, 6]) (Fs' := [9, 10, 11]) dz (by kernel_rfl) fun iD dK iF => ?_
     have ax := dK [(0, .pointer (some d)), (4, pB m 0), (5, pB j 0), (7, pB p 0), (83, .int .i64 o), (87, .int .i64 q)] ⟨rfl, rfl, rfl, rfl, rfl, rfl, trivial⟩ (by kernel_rfl)
     obtain ⟨dL, dM⟩ := dC
     obtain ⟨r, dN, dO⟩ := dM
     obtain ⟨dP, dQ⟩ := dO
     refine parF (D := cb) (S := [8, 12, 13, 14]) (F := []) (KE := [8, 12, 13, 14]) (E := [(8, fun v _ => v = .int .i64 (o + q)), (12, fun v _ => v = .int .i64 r), (13, fun v _ => v = .int .i64 ((o + q) + r)), (14, fun v _ => v = .int .i64 ((o + q) + r))]) ax rfl (by kernel_rfl) ⟨fun _ _ _ _ h => h, fun _ _ _ _ h => h, fun _ _ _ _ h => h, fun _ _ _ _ h => h, fun _ _ _ _ h => h, fun _ _ _ _ h => h, fun _ _ _ _ h => h, trivial⟩ ⟨?_, ?_, ?_, ?_, ?_, ?_, ?_, trivial⟩ ?_
     ·intro a w hT
      have hAp := hT.ag ax [(83, .int .i64 o), (87, .int .i64 q)] ⟨rfl, rfl, trivial⟩ (by kernel_rfl)
      exact ovr hAp rfl (r_addI (hAp.get rfl) (hAp.get rfl) dL) fun _ => Eq.refl _
     ·intro a w hT
      have hAp := hT.ag ax [] trivial (by kernel_rfl)
      have hAp := hAp.add (t := 89) (v := .pointer (some d)) (hT.vals 9 rfl 89 rfl)
      have hAp := hAp.add (t := 90) (v := .agg #[.int .i64 k, .int .i64 g]) (hT.vals 10 rfl 90 rfl)
      have hAp := hAp.add (t := 91) (v := .agg #[.int .i64 l, .int .i64 f]) (hT.vals 11 rfl 91 rfl)
      exact opk_callX hAp rfl (r_call (args := #[.pointer (some d), .agg #[.int .i64 k, .int .i64 g], .agg #[.int .i64 l, .int .i64 f]]) Try.func88 (by decide) rfl (map_arr (ml_cons (hAp.get rfl) (ml_cons (hAp.get rfl) (ml_cons (hAp.get rfl) ml_nil)))) rfl) (dN w hT.chg) fun _ _ _ _ e hR => ⟨_, e, hR.1, fun _ => hR.2⟩
     ·intro a w hT
      have hAp := hT.ag ax [] trivial (by kernel_rfl)
      have hAp := hAp.add (t := 88) (v := .int .i64 (o + q)) (hT.vals 8 rfl 88 rfl)
      have hAp := hAp.add (t := 92) (v := .int .i64 r) (hT.vals 12 rfl 92 rfl)
      exact ovr hAp rfl (r_addI (hAp.get rfl) (hAp.get rfl) dP) fun _ => Eq.refl _
     ·intro a w hT
      have hAp := hT.ag ax [] trivial (by kernel_rfl)
      have hAp := hAp.add (t := 93) (v := .int .i64 ((o + q) + r)) (hT.vals 13 rfl 93 rfl)
      exact ovr hAp rfl (r_assign (hAp.get rfl)) fun _ => Eq.refl _
     ·intro a w hT
      have hAp := hT.ag ax [(0, .pointer (some d))] ⟨rfl, trivial⟩ (by kernel_rfl)
      exact ovr hAp rfl (r_move (hAp.get rfl)) fun _ => Eq.refl _
     ·intro a w hT
      have hAp := hT.ag ax [(4, pB m 0)] ⟨rfl, trivial⟩ (by kernel_rfl)
      exact ovr hAp rfl (r_loadN (cs := [.int .i64 k, .int .i64 g]) Try.underlying129 rfl ti_129 (hAp.get rfl) ((cn.ext hT.chg).part 0 _ rfl)) fun _ => Eq.refl _
     ·intro a w hT
      have hAp := hT.ag ax [(5, pB j 0)] ⟨rfl, trivial⟩ (by kernel_rfl)
      exact ovr hAp rfl (r_loadN (cs := [.int .i64 l, .int .i64 f]) Try.underlying129 rfl ti_129 (hAp.get rfl) ((co.ext hT.chg).part 0 _ rfl)) fun _ => Eq.refl _
     ·intro dR dS ay dU dV
      have dX := dU [(0, .pointer (some d)), (4, pB m 0), (5, pB j 0), (7, pB p 0)] ⟨rfl, rfl, rfl, rfl, trivial⟩ (by kernel_rfl)
      have dY : dR.tmps.getD 13 undef = .int .i64 ((o + q) + r) := dV 14 rfl 13 rfl
      have dZ := dX.add dY
      have d0 := cn.ext ay
      have d1 := co.ext ay
      have d2 := dD.ext ay
      have d3 := dG.ext ay
      have d4 := dH.ext ay
      have d5 := dI.ext ay
      have d6 := dJ.ext ay
      have d7 : Chg [] a8 dS := ay
      refine PRF_drop (X := [9, 10, 11]) (Fs' := []) dZ (by kernel_rfl) fun iG d8 iH => ?_
      have d9 := d8 [(0, .pointer (some d)), (4, pB m 0), (5, pB j 0), (7, pB p 0), (13, .int .i64 ((o + q) + r))] ⟨rfl, rfl, rfl, rfl, rfl, trivial⟩ (by kernel_rfl)
      refine joinF d9 (by kernel_rfl) trivial trivial ?_
      ·intro iI iJ az fa iK
       have fb := fa [(0, .pointer (some d)), (4, pB m 0), (5, pB j 0), (7, pB p 0), (13, .int .i64 ((o + q) + r))] ⟨rfl, rfl, rfl, rfl, rfl, trivial⟩ (by kernel_rfl)
       have fc := d0.ext az
       have fd := d1.ext az
       have ff := d2.ext az
       have iL := d3.ext az
       have iM := d4.ext az
       have iN := d5.ext az
       have iO := d6.ext az
       have fg := d7.more az
       refine PR_end (by kernel_rfl) ?_
       have fh := fb.kp [(0, .pointer (some d)), (4, pB m 0), (5, pB j 0), (7, pB p 0), (13, .int .i64 ((o + q) + r))] rfl
       refine gK (bs := [(p, 140, [.int .i64 k, .int .i64 g, .int .i64 l, .int .i64 f]), (j, 129, [.int .i64 l, .int .i64 f]), (m, 129, [.int .i64 k, .int .i64 g])]) (N := []) fh fg ⟨ff, fd, fc, trivial⟩ (by simp [(Ne.symm cY), (Ne.symm cX), (Ne.symm cU)]) trivial (by simp) dQ ?_
       refine tn <| gS ?_
       intro iP aA fi
       have ab := aA.ag
       have fj := aA.bx 2 rfl
       have fk := aA.bx 1 rfl
       have fl := aA.bx 0 rfl
       have fm := aA.chg
       have iQ : m ≠ j := aA.ne 2 1
       have iR : m ≠ p := aA.ne 2 0
       have iS : j ≠ p := aA.ne 1 0
       let bR : List (List Nat) := [[], [], [], [2], [], [4], [4, 5], [2, 3, 4, 5, 6], [], [1, 2, 3, 4, 5, 6, 7, 8], [1, 2, 3, 4, 5, 6, 7, 8, 9], [], [], [], [13], [], [15], [15, 16], [13, 14, 15, 16, 17], [1, 2, 3, 4, 5, 6, 7, 8, 9, 11, 12, 13, 14, 15, 16, 17, 18], [1, 2, 3, 4, 5, 6, 7, 8, 9, 11, 12, 13, 14, 15, 16, 17, 18, 19], [0, 1, 2, 3, 4, 5, 6, 7, 8, 9, 10, 11, 12, 13, 14, 15, 16, 17, 18, 19, 20], [0, 1, 2, 3, 4, 5, 6, 7, 8, 9, 10, 11, 12, 13, 14, 15, 16, 17, 18, 19, 20, 21]]
       refine draw' (by kernel_rfl) fun a9 bl => ?_
       have bo := fj.ext bl
       have bp := fk.ext bl
       have fn := fl.ext bl
       have fo := fm.more bl
       have fp := fi a9    fo
       obtain ⟨fq, fr⟩ := fp
       obtain ⟨cp, fs⟩ := fr
       refine startF (D := bR) (Fs := [0, 1, 2, 3, 4, 5, 6, 7, 8, 11, 12, 13, 14, 15, 16, 17, 18]) (Ef := [(0, fun v _ => v = .int .i64 ((o + q) + r)), (1, fun v _ => v = .pointer (some d)), (2, fun v _ => v = pB m 0), (3, fun v _ => v = .int .i64 k), (4, fun v _ => v = pB m 1), (5, fun v _ => v = .int .i64 g), (6, fun v _ => v = .int .i64 (g - 1)), (7, fun v _ => v = .agg #[.int .i64 k, .int .i64 (g - 1)]), (8, fun v _ => v = .agg #[.int .i64 l, .int .i64 f]), (11, fun v _ => v = .pointer (some d)), (12, fun v _ => v = .agg #[.int .i64 k, .int .i64 g]), (13, fun v _ => v = pB j 0), (14, fun v _ => v = .int .i64 l), (15, fun v _ => v = pB j 1), (16, fun v _ => v = .int .i64 f), (17, fun v _ => v = .int .i64 (f - 1)), (18, fun v _ => v = .agg #[.int .i64 l, .int .i64 (f - 1)])]) (by kernel_rfl) ?_
       refine oneF (c := 9) ab rfl (by kernel_rfl) (constF ⟨fun _ _ _ h => h, fun _ _ _ h => h, fun _ _ _ h => h, fun _ _ _ h => h, fun _ _ _ h => h, fun _ _ _ h => h, fun _ _ _ h => h, fun _ _ _ h => h, fun _ _ _ h => h, fun _ _ _ h => h, fun _ _ _ h => h, fun _ _ _ h => h, fun _ _ _ h => h, fun _ _ _ h => h, fun _ _ _ h => h, fun _ _ _ h => h, fun _ _ _ h => h, trivial⟩) ⟨?_, ?_, ?_, ?_, ?_, ?_, ?_, ?_, ?_, ?_, ?_, ?_, ?_, ?_, ?_, ?_, ?_, trivial⟩ ?_
       ·intro a hT
        have hAp := hT.ag ab [(13, .int .i64 ((o + q) + r))] ⟨rfl, trivial⟩ (by kernel_rfl)
        exact opk_val hAp rfl (r_move (hAp.get rfl)) fun _ _ e => ⟨_, e, rfl, fun _ => Eq.refl _⟩
       ·intro a hT
        have hAp := hT.ag ab [(0, .pointer (some d))] ⟨rfl, trivial⟩ (by kernel_rfl)
        exact opk_val hAp rfl (r_move (hAp.get rfl)) fun _ _ e => ⟨_, e, rfl, fun _ => Eq.refl _⟩
       ·intro a hT
        have hAp := hT.ag ab [(4, pB m 0)] ⟨rfl, trivial⟩ (by kernel_rfl)
        exact opk_val hAp rfl (r_fieldAddr (hAp.get rfl) Try.underlying129 rfl ti_3 (by decide)) fun _ _ e => ⟨_, e, rfl, fun _ => Eq.refl _⟩
       ·intro a hT
        have hAp := hT.ag ab [] trivial (by kernel_rfl)
        have hAp := hAp.add (t := 96) (v := pB m 0) (hT.vals 2 rfl 96 rfl)
        exact opk_val hAp rfl (r_load1 tU3 rfl (hAp.get rfl) ((bo.ext hT.chg).cell 0 _ rfl)) fun _ _ e => ⟨_, e, rfl, fun _ => Eq.refl _⟩
       ·intro a hT
        have hAp := hT.ag ab [(4, pB m 0)] ⟨rfl, trivial⟩ (by kernel_rfl)
        exact opk_val hAp rfl (r_fieldAddr (hAp.get rfl) Try.underlying129 rfl ti_3 (by decide)) fun _ _ e => ⟨_, e, rfl, fun _ => Eq.refl _⟩
       ·intro a hT
        have hAp := hT.ag ab [] trivial (by kernel_rfl)
        have hAp := hAp.add (t := 98) (v := pB m 1) (hT.vals 4 rfl 98 rfl)
        exact opk_val hAp rfl (r_load1 tU3 rfl (hAp.get rfl) ((bo.ext hT.chg).cell 1 _ rfl)) fun _ _ e => ⟨_, e, rfl, fun _ => Eq.refl _⟩
       ·intro a hT
        have hAp := hT.ag ab [] trivial (by kernel_rfl)
        have hAp := hAp.add (t := 99) (v := .int .i64 g) (hT.vals 5 rfl 99 rfl)
        exact opk_val hAp rfl (r_subI (hAp.get rfl) rfl fq) fun _ _ e => ⟨_, e, rfl, fun _ => Eq.refl _⟩
       ·intro a hT
        have hAp := hT.ag ab [] trivial (by kernel_rfl)
        have hAp := hAp.add (t := 97) (v := .int .i64 k) (hT.vals 3 rfl 97 rfl)
        have hAp := hAp.add (t := 100) (v := .int .i64 (g - 1)) (hT.vals 6 rfl 100 rfl)
        exact opk_val hAp rfl (r_build (vs := #[(0, .int .i64 k), (1, .int .i64 (g - 1))]) (cells := #[.int .i64 k, .int .i64 (g - 1)]) (map_arr2 (ml2_cons (hAp.get rfl) (ml2_cons (hAp.get rfl) (ml2_nil)))) ti_129 Try.underlying129 pl_129 (by kernel_rfl)) fun _ _ e => ⟨_, e, rfl, fun _ => Eq.refl _⟩
       ·intro a hT
        have hAp := hT.ag ab [(5, pB j 0)] ⟨rfl, trivial⟩ (by kernel_rfl)
        exact opk_val hAp rfl (r_loadN (cs := [.int .i64 l, .int .i64 f]) Try.underlying129 rfl ti_129 (hAp.get rfl) ((bp.ext hT.chg).part 0 _ rfl)) fun _ _ e => ⟨_, e, rfl, fun _ => Eq.refl _⟩
       ·intro a hT
        have hAp := hT.ag ab [(0, .pointer (some d))] ⟨rfl, trivial⟩ (by kernel_rfl)
        exact opk_val hAp rfl (r_move (hAp.get rfl)) fun _ _ e => ⟨_, e, rfl, fun _ => Eq.refl _⟩
       ·intro a hT
        have hAp := hT.ag ab [(4, pB m 0)] ⟨rfl, trivial⟩ (by kernel_rfl)
        exact opk_val hAp rfl (r_loadN (cs := [.int .i64 k, .int .i64 g]) Try.underlying129 rfl ti_129 (hAp.get rfl) ((bo.ext hT.chg).part 0 _ rfl)) fun _ _ e => ⟨_, e, rfl, fun _ => Eq.refl _⟩
       ·intro a hT
        have hAp := hT.ag ab [(5, pB j 0)] ⟨rfl, trivial⟩ (by kernel_rfl)
        exact opk_val hAp rfl (r_fieldAddr (hAp.get rfl) Try.underlying129 rfl ti_3 (by decide)) fun _ _ e => ⟨_, e, rfl, fun _ => Eq.refl _⟩
       ·intro a hT
        have hAp := hT.ag ab [] trivial (by kernel_rfl)
        have hAp := hAp.add (t := 107) (v := pB j 0) (hT.vals 13 rfl 107 rfl)
        exact opk_val hAp rfl (r_load1 tU3 rfl (hAp.get rfl) ((bp.ext hT.chg).cell 0 _ rfl)) fun _ _ e => ⟨_, e, rfl, fun _ => Eq.refl _⟩
       ·intro a hT
        have hAp := hT.ag ab [(5, pB j 0)] ⟨rfl, trivial⟩ (by kernel_rfl)
        exact opk_val hAp rfl (r_fieldAddr (hAp.get rfl) Try.underlying129 rfl ti_3 (by decide)) fun _ _ e => ⟨_, e, rfl, fun _ => Eq.refl _⟩
       ·intro a hT
        have hAp := hT.ag ab [] trivial (by kernel_rfl)
        have hAp := hAp.add (t := 109) (v := pB j 1) (hT.vals 15 rfl 109 rfl)
        exact opk_val hAp rfl (r_load1 tU3 rfl (hAp.get rfl) ((bp.ext hT.chg).cell 1 _ rfl)) fun _ _ e => ⟨_, e, rfl, fun _ => Eq.refl _⟩
       ·intro a hT
        have hAp := hT.ag ab [] trivial (by kernel_rfl)
        have hAp := hAp.add (t := 110) (v := .int .i64 f) (hT.vals 16 rfl 110 rfl)
        exact opk_val hAp rfl (r_subI (hAp.get rfl) rfl cp) fun _ _ e => ⟨_, e, rfl, fun _ => Eq.refl _⟩
       ·intro a hT
        have hAp := hT.ag ab [] trivial (by kernel_rfl)
        have hAp := hAp.add (t := 108) (v := .int .i64 l) (hT.vals 14 rfl 108 rfl)
        have hAp := hAp.add (t := 111) (v := .int .i64 (f - 1)) (hT.vals 17 rfl 111 rfl)
        exact opk_val hAp rfl (r_build (vs := #[(0, .int .i64 l), (1, .int .i64 (f - 1))]) (cells := #[.int .i64 l, .int .i64 (f - 1)]) (map_arr2 (ml2_cons (hAp.get rfl) (ml2_cons (hAp.get rfl) (ml2_nil)))) ti_129 Try.underlying129 pl_129 (by kernel_rfl)) fun _ _ e => ⟨_, e, rfl, fun _ => Eq.refl _⟩
       ·intro bS hT
        have ft := hT.ag ab [(0, .pointer (some d)), (4, pB m 0), (5, pB j 0), (7, pB p 0), (13, .int .i64 ((o + q) + r))] ⟨rfl, rfl, rfl, rfl, rfl, trivial⟩ (by kernel_rfl)
        have fu : bS.tmps.getD 95 undef = .pointer (some d) := hT.vals 1 rfl 95 rfl
        have fv := ft.add fu
        have fx : bS.tmps.getD 101 undef = .agg #[.int .i64 k, .int .i64 (g - 1)] := hT.vals 7 rfl 101 rfl
        have fy := fv.add fx
        have fz : bS.tmps.getD 102 undef = .agg #[.int .i64 l, .int .i64 f] := hT.vals 8 rfl 102 rfl
        have bq := fy.add fz
        refine (opk_call bq rfl (r_call (args := #[.pointer (some d), .agg #[.int .i64 k, .int .i64 (g - 1)], .agg #[.int .i64 l, .int .i64 f]]) Try.func77 (by decide) rfl (map_arr (ml_cons (bq.get rfl) (ml_cons (bq.get rfl) (ml_cons (bq.get rfl) ml_nil)))) rfl) fs fun iT iU ca fA fB bT iV fC => ?_)
        refine ⟨_, fB, ?_⟩
        obtain ⟨x, rfl, fD⟩ := fC
        have cq := bo.kept bT (.head _)
        have bU := bp.kept bT (.tail _ (.head _))
        have fF := fn.kept bT (.tail _ (.tail _ (.head _)))
        refine PRF_drop (X := [1, 2, 3, 4, 5, 6, 7, 8]) (Fs' := [0, 11, 12, 13, 14, 15, 16, 17, 18]) fA (by kernel_rfl) fun iX fG iY => ?_
        have ak := fG [(0, .pointer (some d)), (4, pB m 0), (5, pB j 0), (7, pB p 0), (13, .int .i64 ((o + q) + r)), (103, .int .i64 x)] ⟨rfl, rfl, rfl, rfl, rfl, rfl, trivial⟩ (by kernel_rfl)
        obtain ⟨bV, fH⟩ := fD
        refine PRF_more (Fs' := [10]) (En := [(10, fun v _ => v = .int .i64 (x + 1))]) (by kernel_rfl) ?_
        refine oneF (c := 19) ak rfl (by kernel_rfl) (constF ⟨fun _ _ _ h => h, fun _ _ _ h => h, fun _ _ _ h => h, fun _ _ _ h => h, fun _ _ _ h => h, fun _ _ _ h => h, fun _ _ _ h => h, fun _ _ _ h => h, fun _ _ _ h => h, fun _ _ _ h => h, trivial⟩) ⟨?_, ?_, ?_, ?_, ?_, ?_, ?_, ?_, ?_, ?_, trivial⟩ ?_
        ·intro a hT
         have hAp := hT.ag ak [(13, .int .i64 ((o + q) + r))] ⟨rfl, trivial⟩ (by kernel_rfl)
         exact opk_val hAp rfl (r_move (hAp.get rfl)) fun _ _ e => ⟨_, e, rfl, fun _ => Eq.refl _⟩
        ·intro a hT
         have hAp := hT.ag ak [(0, .pointer (some d))] ⟨rfl, trivial⟩ (by kernel_rfl)
         exact opk_val hAp rfl (r_move (hAp.get rfl)) fun _ _ e => ⟨_, e, rfl, fun _ => Eq.refl _⟩
        ·intro a hT
         have hAp := hT.ag ak [(4, pB m 0)] ⟨rfl, trivial⟩ (by kernel_rfl)
         exact opk_val hAp rfl (r_loadN (cs := [.int .i64 k, .int .i64 g]) Try.underlying129 rfl ti_129 (hAp.get rfl) ((cq.ext hT.chg).part 0 _ rfl)) fun _ _ e => ⟨_, e, rfl, fun _ => Eq.refl _⟩
        ·intro a hT
         have hAp := hT.ag ak [(5, pB j 0)] ⟨rfl, trivial⟩ (by kernel_rfl)
         exact opk_val hAp rfl (r_fieldAddr (hAp.get rfl) Try.underlying129 rfl ti_3 (by decide)) fun _ _ e => ⟨_, e, rfl, fun _ => Eq.refl _⟩
        ·intro a hT
         have hAp := hT.ag ak [] trivial (by kernel_rfl)
         have hAp := hAp.add (t := 107) (v := pB j 0) (hT.vals 13 rfl 107 rfl)
         exact opk_val hAp rfl (r_load1 tU3 rfl (hAp.get rfl) ((bU.ext hT.chg).cell 0 _ rfl)) fun _ _ e => ⟨_, e, rfl, fun _ => Eq.refl _⟩
        ·intro a hT
         have hAp := hT.ag ak [(5, pB j 0)] ⟨rfl, trivial⟩ (by kernel_rfl)
         exact opk_val hAp rfl (r_fieldAddr (hAp.get rfl) Try.underlying129 rfl ti_3 (by decide)) fun _ _ e => ⟨_, e, rfl, fun _ => Eq.refl _⟩
        ·intro a hT
         have hAp := hT.ag ak [] trivial (by kernel_rfl)
         have hAp := hAp.add (t := 109) (v := pB j 1) (hT.vals 15 rfl 109 rfl)
         exact opk_val hAp rfl (r_load1 tU3 rfl (hAp.get rfl) ((bU.ext hT.chg).cell 1 _ rfl)) fun _ _ e => ⟨_, e, rfl, fun _ => Eq.refl _⟩
        ·intro a hT
         have hAp := hT.ag ak [] trivial (by kernel_rfl)
         have hAp := hAp.add (t := 110) (v := .int .i64 f) (hT.vals 16 rfl 110 rfl)
         exact opk_val hAp rfl (r_subI (hAp.get rfl) rfl cp) fun _ _ e => ⟨_, e, rfl, fun _ => Eq.refl _⟩
        ·intro a hT
         have hAp := hT.ag ak [] trivial (by kernel_rfl)
         have hAp := hAp.add (t := 108) (v := .int .i64 l) (hT.vals 14 rfl 108 rfl)
         have hAp := hAp.add (t := 111) (v := .int .i64 (f - 1)) (hT.vals 17 rfl 111 rfl)
         exact opk_val hAp rfl (r_build (vs := #[(0, .int .i64 l), (1, .int .i64 (f - 1))]) (cells := #[.int .i64 l, .int .i64 (f - 1)]) (map_arr2 (ml2_cons (hAp.get rfl) (ml2_cons (hAp.get rfl) (ml2_nil)))) ti_129 Try.underlying129 pl_129 (by kernel_rfl)) fun _ _ e => ⟨_, e, rfl, fun _ => Eq.refl _⟩
        ·intro a hT
         have hAp := hT.ag ak [(103, .int .i64 x)] ⟨rfl, trivial⟩ (by kernel_rfl)
         exact opk_val hAp rfl (r_addI (hAp.get rfl) rfl bV) fun _ _ e => ⟨_, e, rfl, fun _ => Eq.refl _⟩
        ·intro bX hT
         have fI := hT.ag ak [(0, .pointer (some d)), (4, pB m 0), (5, pB j 0), (7, pB p 0), (13, .int .i64 ((o + q) + r)), (103, .int .i64 x)] ⟨rfl, rfl, rfl, rfl, rfl, rfl, trivial⟩ (by kernel_rfl)
         have fJ : bX.tmps.getD 105 undef = .pointer (some d) := hT.vals 11 rfl 105 rfl
         have fK := fI.add fJ
         have fL : bX.tmps.getD 106 undef = .agg #[.int .i64 k, .int .i64 g] := hT.vals 12 rfl 106 rfl
         have fM := fK.add fL
         have fN : bX.tmps.getD 112 undef = .agg #[.int .i64 l, .int .i64 (f - 1)] := hT.vals 18 rfl 112 rfl
         have bt := fM.add fN
         refine (opk_call bt rfl (r_call (args := #[.pointer (some d), .agg #[.int .i64 k, .int .i64 g], .agg #[.int .i64 l, .int .i64 (f - 1)]]) Try.func77 (by decide) rfl (map_arr (ml_cons (bt.get rfl) (ml_cons (bt.get rfl) (ml_cons (bt.get rfl) ml_nil)))) rfl) fH fun iZ i0 bH fO fP bY i1 fQ => ?_)
         refine ⟨_, fP, ?_⟩
         obtain ⟨y, rfl, fR⟩ := fQ
         have fS := cq.kept bY (.head _)
         have fT := bU.kept bY (.tail _ (.head _))
         have fU := fF.kept bY (.tail _ (.tail _ (.head _)))
         refine PRF_drop (X := [11, 12, 13, 14, 15, 16, 17, 18]) (Fs' := [0, 10]) fO (by kernel_rfl) fun i2 fV i3 => ?_
         have bu := fV [(0, .pointer (some d)), (7, pB p 0), (13, .int .i64 ((o + q) + r)), (103, .int .i64 x), (113, .int .i64 y)] ⟨rfl, rfl, rfl, rfl, rfl, trivial⟩ (by kernel_rfl)
         obtain ⟨fX, fY⟩ := fR
         refine parF (D := bR) (S := [20]) (F := []) (KE := [20]) (E := [(20, fun v _ => v = .int .i64 (y + 1))]) bu rfl (by kernel_rfl) ⟨fun _ _ _ _ h => h, fun _ _ _ _ h => h, fun _ _ _ _ h => h, trivial⟩ ⟨?_, ?_, ?_, trivial⟩ ?_
         ·intro a w hT
          have hAp := hT.ag bu [(113, .int .i64 y)] ⟨rfl, trivial⟩ (by kernel_rfl)
          exact ovr hAp rfl (r_addI (hAp.get rfl) rfl fX) fun _ => Eq.refl _
         ·intro a w hT
          have hAp := hT.ag bu [(13, .int .i64 ((o + q) + r))] ⟨rfl, trivial⟩ (by kernel_rfl)
          exact ovr hAp rfl (r_move (hAp.get rfl)) fun _ => Eq.refl _
         ·intro a w hT
          have hAp := hT.ag bu [(103, .int .i64 x)] ⟨rfl, trivial⟩ (by kernel_rfl)
          exact ovr hAp rfl (r_addI (hAp.get rfl) rfl bV) fun _ => Eq.refl _
         ·intro fZ f0 bv f1 f2
          have f3 := f1 [(0, .pointer (some d)), (7, pB p 0), (13, .int .i64 ((o + q) + r)), (103, .int .i64 x)] ⟨rfl, rfl, rfl, rfl, trivial⟩ (by kernel_rfl)
          have f4 : fZ.tmps.getD 114 undef = .int .i64 (y + 1) := f2 20 rfl 114 rfl
          have bZ := f3.add f4
          have f5 := fS.ext bv
          have f6 := fT.ext bv
          have f7 := fU.ext bv
          have f8 : Chg [] bH f0 := bv
          refine joinF bZ (by kernel_rfl) ⟨fun _ _ _ _ h => h, fun _ _ _ _ h => h, trivial⟩ ⟨?_, ?_, trivial⟩ ?_
          ·intro a w hT
           have hAp := hT.ag bZ [(13, .int .i64 ((o + q) + r))] ⟨rfl, trivial⟩ (by kernel_rfl)
           exact ovr hAp rfl (r_move (hAp.get rfl)) fun _ => Eq.refl _
          ·intro a w hT
           have hAp := hT.ag bZ [(103, .int .i64 x)] ⟨rfl, trivial⟩ (by kernel_rfl)
           exact ovr hAp rfl (r_addI (hAp.get rfl) rfl bV) fun _ => Eq.refl _
          ·intro cr aZ bz f9 ct
           have ga := f9 [(0, .pointer (some d)), (7, pB p 0), (13, .int .i64 ((o + q) + r)), (114, .int .i64 (y + 1))] ⟨rfl, rfl, rfl, rfl, trivial⟩ (by kernel_rfl)
           have gc : cr.tmps.getD 94 undef = .int .i64 ((o + q) + r) := ct 0 rfl 94 rfl
           have gd := ga.add gc
           have gf : cr.tmps.getD 104 undef = .int .i64 (x + 1) := ct 10 rfl 104 rfl
           have b0 := gd.add gf
           have gg := f5.ext bz
           have gh := f6.ext bz
           have gj := f7.ext bz
           have gm := f8.more bz
           have gq := fY aZ    gm
           refine par (D := bR) (S := [21, 22]) (F := []) (V := VL [(21, fun v _ => v = .int .i64 (min (min ((o + q) + r) (x + 1)) (y + 1))), (22, fun v _ => v = .int .i64 (min (min ((o + q) + r) (x + 1)) (y + 1)))]) b0 (by kernel_rfl) ⟨fun _ _ _ _ h => h, fun _ _ _ _ h => h, trivial⟩ ⟨?_, ?_, trivial⟩ ?_
           ·intro a w hT
            have hAp := hT.ag b0 [(94, .int .i64 ((o + q) + r)), (104, .int .i64 (x + 1)), (114, .int .i64 (y + 1))] ⟨rfl, rfl, rfl, trivial⟩ (by kernel_rfl)
            exact ovr hAp rfl (r_min3 (hAp.get rfl) (hAp.get rfl) (hAp.get rfl)) fun _ => Eq.refl _
           ·intro a w hT
            have hAp := hT.ag b0 [] trivial (by kernel_rfl)
            have hAp := hAp.add (t := 115) (v := .int .i64 (min (min ((o + q) + r) (x + 1)) (y + 1))) (hT.vals 21 rfl 115 rfl)
            exact ovr hAp rfl (r_assign (hAp.get rfl)) fun _ => Eq.refl _
           ·intro gu gG bA gJ gU
            have gV := gJ [(0, .pointer (some d)), (7, pB p 0)] ⟨rfl, rfl, trivial⟩ (by kernel_rfl)
            have gY : gu.tmps.getD 13 undef = .int .i64 (min (min ((o + q) + r) (x + 1)) (y + 1)) := gU 22 rfl 13 rfl
            have g0 := gV.add gY
            have i4 := gg.ext bA
            have i5 := gh.ext bA
            have g4 := gj.ext bA
            have g5 : Chg [] aZ gG := bA
            refine PR_end (by kernel_rfl) ?_
            have g6 := g0.kp [(0, .pointer (some d)), (7, pB p 0), (13, .int .i64 (min (min ((o + q) + r) (x + 1)) (y + 1)))] rfl
            refine gK (bs := [(p, 140, [.int .i64 k, .int .i64 g, .int .i64 l, .int .i64 f])]) (N := []) g6 g5 ⟨g4, trivial⟩ (by simp) trivial (by simp) gq ?_
            refine tn <| gS ?_
            intro i6 b1 g7
            have aB := b1.ag
            have g8 := b1.bx 0 rfl
            have g9 := b1.chg
            let bB : List (List Nat) := [[], [], [1], [1, 2], [1, 2, 3], [], [5], [1, 2, 3, 4, 5, 6], [0, 1, 2, 3, 4, 5, 6, 7], [0, 1, 2, 3, 4, 5, 6, 7, 8], [0, 1, 2, 3, 4, 5, 6, 7, 8, 9]]
            refine draw' (by kernel_rfl) fun au cu => ?_
            have b2 := g8.ext cu
            have ha := g9.more cu
            have hb := g7 au    ha
            refine startF (D := bB) (Fs := [0, 1, 5]) (Ef := [(0, fun v _ => v = .pointer (some d)), (1, fun v _ => v = .pointer (some d)), (5, fun v _ => v = .agg #[.int .i64 k, .int .i64 g, .int .i64 l, .int .i64 f])]) (by kernel_rfl) ?_
            obtain ⟨aI, hc, hd⟩ := hb
            refine parF (D := bB) (S := [2, 3, 4, 6]) (F := []) (KE := [2, 3, 4, 6]) (E := [(2, fun v _ => v = .pointer (some d)), (3, fun v _ => v = .pointer (some (d.add 6))), (4, fun v _ => v = Sl.v aI), (6, fun v w' => ∃ ah : Nat, au.heap.size ≤ ah ∧ Box w' ah 140 [.int .i64 k, .int .i64 g, .int .i64 l, .int .i64 f] ∧ v = Sl.v (Sl.mk (some ⟨ah, 0, none⟩) 1 1))]) aB rfl (by kernel_rfl) ⟨fun _ _ _ _ h => h, fun _ _ _ _ h => h, fun _ _ _ _ h => h, fun _ _ _ hE ⟨ah, h0_, h1_, e⟩ => ⟨ah, h0_, (h1_.ext hE), e⟩, fun _ _ _ _ h => h, fun _ _ _ _ h => h, fun _ _ _ _ h => h, trivial⟩ ⟨?_, ?_, ?_, ?_, ?_, ?_, ?_, trivial⟩ ?_
            ·intro a w hT
             have hAp := hT.ag aB [] trivial (by kernel_rfl)
             have hAp := hAp.add (t := 117) (v := .pointer (some d)) (hT.vals 1 rfl 117 rfl)
             exact ovr hAp rfl (r_nilCheck (hAp.get rfl)) fun _ => Eq.refl _
            ·intro a w hT
             have hAp := hT.ag aB [] trivial (by kernel_rfl)
             have hAp := hAp.add (t := 118) (v := .pointer (some d)) (hT.vals 2 rfl 118 rfl)
             exact ovr hAp rfl (r_fieldAddr (hAp.get rfl) Try.underlying127 rfl ti_125 (by decide)) fun _ => Eq.refl _
            ·intro a w hT
             have hAp := hT.ag aB [] trivial (by kernel_rfl)
             have hAp := hAp.add (t := 119) (v := .pointer (some (d.add 6))) (hT.vals 3 rfl 119 rfl)
             exact ovr hAp rfl (r_load1 tU125 rfl (hAp.get rfl) (Ext.cell hT.chg hc)) fun _ => Eq.refl _
            ·intro a w hT
             have hAp := hT.ag aB [] trivial (by kernel_rfl)
             have hAp := hAp.add (t := 121) (v := .agg #[.int .i64 k, .int .i64 g, .int .i64 l, .int .i64 f]) (hT.vals 5 rfl 121 rfl)
             exact opk_new (fun B => .slice (some ⟨B, 0, none⟩) 1 1) hAp rfl (r_buildSlice (vs := #[(0, .agg #[.int .i64 k, .int .i64 g, .int .i64 l, .int .i64 f])]) (cs := [.int .i64 k, .int .i64 g, .int .i64 l, .int .i64 f]) (map_arr2 (ml2_cons (hAp.get rfl) (ml2_nil))) tU125 ti_140 rfl rfl (by kernel_rfl)) fun _ i7 ah hf hg hh _ e => ⟨_, e, hf, fun _ => ⟨ah, Nat.le_trans hT.chg.size hg.ge, hh, rfl⟩⟩
            ·intro a w hT
             have hAp := hT.ag aB [(0, .pointer (some d))] ⟨rfl, trivial⟩ (by kernel_rfl)
             exact ovr hAp rfl (r_move (hAp.get rfl)) fun _ => Eq.refl _
            ·intro a w hT
             have hAp := hT.ag aB [(0, .pointer (some d))] ⟨rfl, trivial⟩ (by kernel_rfl)
             exact ovr hAp rfl (r_move (hAp.get rfl)) fun _ => Eq.refl _
            ·intro a w hT
             have hAp := hT.ag aB [(7, pB p 0)] ⟨rfl, trivial⟩ (by kernel_rfl)
             exact ovr hAp rfl (r_loadN (cs := [.int .i64 k, .int .i64 g, .int .i64 l, .int .i64 f]) Try.underlying140 rfl ti_140 (hAp.get rfl) ((b2.ext hT.chg).part 0 _ rfl)) fun _ => Eq.refl _
            ·intro hi aJ b3 hj cv
             have hk := hj [(0, .pointer (some d)), (7, pB p 0), (13, .int .i64 (min (min ((o + q) + r) (x + 1)) (y + 1)))] ⟨rfl, rfl, rfl, trivial⟩ (by kernel_rfl)
             have hl : hi.tmps.getD 120 undef = Sl.v aI := cv 4 rfl 120 rfl
             have hm := hk.add hl
             obtain ⟨ah, cx, cy, hn⟩ := cv 6 rfl 122 rfl
             have ho := hm.add hn
             have hp := b2.ext b3
             have i8 : Chg [] au aJ := b3
             have hq := hd aJ ah b3 cx cy
             have i9 : p ≠ ah := Nat.ne_of_lt (Nat.lt_of_lt_of_le b2.lt cx)
             refine PRF_drop (X := [1, 5]) (Fs' := [0]) ho (by kernel_rfl) fun ja hs jb => ?_
             have b4 := hs [(0, .pointer (some d)), (13, .int .i64 (min (min ((o + q) + r) (x + 1)) (y + 1))), (120, Sl.v aI), (122, Sl.v (Sl.mk (some ⟨ah, 0, none⟩) 1 1))] ⟨rfl, rfl, rfl, rfl, trivial⟩ (by kernel_rfl)
             refine oneF (c := 7) b4 rfl (by kernel_rfl) (constF ⟨fun _ _ _ h => h, trivial⟩) ⟨?_, trivial⟩ ?_
             ·intro a hT
              have hAp := hT.ag b4 [(0, .pointer (some d))] ⟨rfl, trivial⟩ (by kernel_rfl)
              exact opk_val hAp rfl (r_move (hAp.get rfl)) fun _ _ e => ⟨_, e, rfl, fun _ => Eq.refl _⟩
             ·intro jc hT
              have b5 := hT.ag b4 [(0, .pointer (some d)), (13, .int .i64 (min (min ((o + q) + r) (x + 1)) (y + 1))), (120, Sl.v aI), (122, Sl.v (Sl.mk (some ⟨ah, 0, none⟩) 1 1))] ⟨rfl, rfl, rfl, rfl, trivial⟩ (by kernel_rfl)
              have ht := hq cy
              refine (opk_run b5 rfl (fun _ _ hr => r_append (b5.get rfl) (b5.get rfl) hr) ht fun jd jf bI cz hu hv jg hx => ?_)
              refine ⟨_, hu, ?_⟩
              obtain ⟨aR, rfl, hy⟩ := hx
              have hz := hp.kept hv (.head _)
              refine joinF cz (by kernel_rfl) ⟨fun _ _ _ _ h => h, trivial⟩ ⟨?_, trivial⟩ ?_
              ·intro a w hT
               have hAp := hT.ag cz [(0, .pointer (some d))] ⟨rfl, trivial⟩ (by kernel_rfl)
               exact ovr hAp rfl (r_move (hAp.get rfl)) fun _ => Eq.refl _
              ·intro hA aS cA hB hC
               have hD := hB [(0, .pointer (some d)), (13, .int .i64 (min (min ((o + q) + r) (x + 1)) (y + 1))), (123, Sl.v aR)] ⟨rfl, rfl, rfl, trivial⟩ (by kernel_rfl)
               have hF : hA.tmps.getD 116 undef = .pointer (some d) := hC 0 rfl 116 rfl
               have b6 := hD.add hF
               have hG := hz.ext cA
               have hH : Chg [] bI aS := cA
               have hI := hy aS    hH
               refine par (D := bB) (S := [8, 9]) (F := []) (V := VL [(8, fun v _ => v = .pointer (some d)), (9, fun v _ => v = .pointer (some (d.add 6)))]) b6 (by kernel_rfl) ⟨fun _ _ _ _ h => h, fun _ _ _ _ h => h, trivial⟩ ⟨?_, ?_, trivial⟩ ?_
               ·intro a w hT
                have hAp := hT.ag b6 [(116, .pointer (some d))] ⟨rfl, trivial⟩ (by kernel_rfl)
                exact ovr hAp rfl (r_nilCheck (hAp.get rfl)) fun _ => Eq.refl _
               ·intro a w hT
                have hAp := hT.ag b6 [] trivial (by kernel_rfl)
                have hAp := hAp.add (t := 124) (v := .pointer (some d)) (hT.vals 8 rfl 124 rfl)
                exact ovr hAp rfl (r_fieldAddr (hAp.get rfl) Try.underlying127 rfl ti_125 (by decide)) fun _ => Eq.refl _
               ·intro hJ aU cB hK hL
                have hM := hK [(0, .pointer (some d)), (13, .int .i64 (min (min ((o + q) + r) (x + 1)) (y + 1))), (123, Sl.v aR)] ⟨rfl, rfl, rfl, trivial⟩ (by kernel_rfl)
                have hN : hJ.tmps.getD 125 undef = .pointer (some (d.add 6)) := hL 9 rfl 125 rfl
                have b7 := hM.add hN
                have hO := hG.ext cB
                have hP : Chg [] aS aU := cB
                have hQ := hI aU    hP
                obtain ⟨aV, ba, bJ, bb, hS, cC, hU, hV, hX⟩ := hQ
                refine one (D := bB) (i := 10) rfl (by kernel_rfl) (opk_store b7 cC (r_store (vs := [Sl.v aR]) (((b7.get rfl)).trans (congrArg (fun a => Value.pointer (some a)) hS)) (b7.get rfl) rfl ti_125 cC (Nat.ble_eq_true_of_le hU) (ones_all _ rfl)) fun jh aK cD hY hZ => ?_)
                have ji := hO.keep cD (by have := hV p (by simp); simpa using this)
                have h0 := hX aK cD hY
                refine PR_end (by kernel_rfl) ?_
                have h1 := hZ.kp [(0, .pointer (some d)), (13, .int .i64 (min (min ((o + q) + r) (x + 1)) (y + 1)))] rfl
                refine gK (bs := []) (N := []) h1 (Chg.refl [] _) trivial (by simp) trivial (by simp) h0 ?_
                refine tn <| gS <| gR <| gM ?_
                refine gM ?_
                refine g1 r_nilCheck ?_
                refine gF 7 Try.underlying127 ti_22 ?_
                refine gE fun bK => gL tU22 ?_
                refine gM ?_
                refine ns [.int .i64 (min (min ((o + q) + r) (x + 1)) (y + 1))] tU22 ti_3 fun a0 bd => gT1 ?_
                refine gX 0 ?_
                refine gR2 [] r_append fun _ bL => gE fun bM => gQ ?_
                refine g1 r_nilCheck ?_
                refine gF 7 Try.underlying127 ti_22 ?_
                refine wx [] ti_22 fun aX bf bN bg bi => ge <| tn <| gS <| gR ?_
                refine gM ?_
                refine gN <| ge <| tn <| gr ?_
                exact gz1
def ref20_firsts.vc (h : Sl) (d : Sl) (R : Value → World → Prop) (w : World) : Prop :=
∃ (m : Sl → Int → World → Prop) (r : Sl → Int → World → Nat),
m Sl.nil 0 w ∧
(∀ (f : Sl) (b : Int) (c : World), m f b c →
((b < (d.n : Int)) →
((0 : Int) ≤ b ∧ b < (d.n : Int)) ∧ ∃ o : Addr, d.a = some o ∧
∃ (i : Int), (c.cell? (o.add (b.toNat * 1)) = some (.int .i64 i)) ∧
((0 : Int) ≤ i ∧ i < (h.n : Int)) ∧ ∃ p : Addr, h.a = some p ∧
∃ (g : Int), (c.cell? ((p.add (i.toNat * 15)).add 1) = some (.int .i64 g)) ∧
(I64 (b - g)) ∧
(I64 ((b - g) + 1)) ∧
∀ (j : World) (k : Nat), New c k j → Chg [] c j →
∀ (_ : Box j k 3 [.int .i64 ((b - g) + 1)]),
RunK Try.prog (Builtin.append_ #[22, 22] 22 #[Sl.v f, Sl.v (Sl.mk (some ⟨k, 0, none⟩) 1 1)]) j [] (fun v q => ∃ (l : Sl), v = Sl.v l ∧
(I64 (b + 1)) ∧
m l (b + 1) q ∧ r l (b + 1) q < r f b c)) ∧
((¬ (b < (d.n : Int))) →
R (Sl.v f) c))
theorem ref20_firsts.ok (h : Sl) (d : Sl) {R : Value → World → Prop} {w : World} (s : ref20_firsts.vc h d R w) : Calls Try.prog 86 #[Sl.v h, Sl.v d] w (Ret R) := by
 refine go _ Try.func86 Try.ntmps86 s ?_
 refine gS <| gR <| gN <| ge <| tn <| gS <| gR ?_
 refine gN <| ge <| tn <| gS <| gS <| gR ?_
 refine gN <| ge <| tn <| gb <| gE fun _ => gE fun mu => ?_
 refine l2 mu (fun f b => [(5, Sl.v f), (6, .int .i64 b)]) [(0, _), (1, _)] (fun _ _ => []) [] [] fun f b c _ => gS <| gS <| gR ?_
 refine gM ?_
 refine gM ?_
 refine g1 (fun t => r_len t tU22) ?_
 refine g2 r_lss <| ge <| tn ?_
 refine gi dT dF ?_ ?_
 ·refine gk <| tn <| gS <| gb <| gR <| gM ?_
  refine gM ?_
  refine gM ?_
  refine gM ?_
  refine gM ?_
  refine gI1 tU22 ti_3 fun o => ?_
  refine gE fun i => gL tU3 ?_
  refine gI1 tU31 ti_38 fun p => ?_
  refine gF 1 Try.underlying38 ti_3 ?_
  refine gE fun g => gL tU3 ?_
  refine g2s r_subI ?_
  refine g2s r_addI ?_
  refine ns [.int .i64 ((b - g) + 1)] tU22 ti_3 fun j k => gT1 ?_
  refine gX 0 ?_
  refine gR2 [] r_append fun _ q => gE fun l => gQ ?_
  refine gN <| ge <| bn <| tn <| gR ?_
  refine gM ?_
  refine g2s r_addI ?_
  refine gN <| ge ?_
  exact k2 []
 ·refine gx <| te <| te <| bh <| tn <| gS <| gR <| gM ?_
  refine gN <| ge <| tn <| gr ?_
  exact gz1
def ref20_Z_parts.vc (al : Addr) (x : Int) (u : Int) (q : Int) (k : Int) (R : Value → World → Prop) (w : World) : Prop :=
∀ (aa : World) (j : Nat) (g : Nat) (l : Nat) (m : Nat) (o : Nat) (p : Nat), New w j aa → New w g aa → New w l aa → New w m aa → New w o aa → New w p aa → j ≠ g → j ≠ l → j ≠ m → j ≠ o → j ≠ p → g ≠ l → g ≠ m → g ≠ o → g ≠ p → l ≠ m → l ≠ o → l ≠ p → m ≠ o → m ≠ p → o ≠ p → Chg [] w aa →
∃ (ao : Sl), (aa.cell? (al.add 4) = some (Sl.v ao)) ∧
(I64 (u - 1)) ∧
∃ ar : Addr, (((0 : Int) ≤ u - 1 ∧ u - 1 < (ao.n : Int)) ∧ ao.a = some ar) ∧
∃ (f : Int), (aa.cell? (ar.add ((u - 1).toNat * 1)) = some (.int .i64 f)) ∧
∃ (ap : Sl), (aa.cell? (al.add 5) = some (Sl.v ap)) ∧
(I64 (k - 1)) ∧
∃ au : Addr, (((0 : Int) ≤ k - 1 ∧ k - 1 < (ap.n : Int)) ∧ ap.a = some au) ∧
∃ (b : Int), (aa.cell? (au.add ((k - 1).toNat * 1)) = some (.int .i64 b)) ∧
∀ (am : World), Chg [] aa am →
(I64 (u - 1)) ∧
(I64 (k - 1)) ∧
∀ (aq : World), Chg [p, o, m, l] am aq →
R (.tuple #[.agg #[.int .i64 f, .int .i64 (u - 1)], .agg #[.int .i64 b, .int .i64 (k - 1)], .agg #[.int .i64 x, .int .i64 f], .agg #[.int .i64 q, .int .i64 b]]) aq
theorem ref20_Z_parts.ok (al : Addr) (x : Int) (u : Int) (q : Int) (k : Int) {R : Value → World → Prop} {w : World} (aY : ref20_Z_parts.vc al x u q k R w) : Calls Try.prog 87 #[.pointer (some al), .agg #[.int .i64 x, .int .i64 u], .agg #[.int .i64 q, .int .i64 k]] w (Ret R) := by
 refine go _ Try.func87 Try.ntmps87 aY ?_
 refine gS <| gR <| nb fun w5 j => ?_
 refine nb fun w7 g => ?_
 refine na ti_129 fun w9 l => ?_
 refine na ti_129 fun cu m => ?_
 refine na ti_129 fun cv o => ?_
 refine na ti_129 fun cx p => ge <| tn <| gS ?_
 refine gD fun aa => ?_
 refine gT (fun h d c v => v _ j g l m o p (h _ (by simp)) (h _ (by simp)) (h _ (by simp)) (h _ (by simp)) (h _ (by simp)) (h _ (by simp)) (fun e => by simp [e] at d) (fun e => by simp [e] at d) (fun e => by simp [e] at d) (fun e => by simp [e] at d) (fun e => by simp [e] at d) (fun e => by simp [e] at d) (fun e => by simp [e] at d) (fun e => by simp [e] at d) (fun e => by simp [e] at d) (fun e => by simp [e] at d) (fun e => by simp [e] at d) (fun e => by simp [e] at d) (fun e => by simp [e] at d) (fun e => by simp [e] at d) (fun e => by simp [e] at d) c) ?_
 refine gW 0 20 [] ?_
 refine gM ?_
 refine g1 r_nilCheck ?_
 refine gF 4 Try.underlying127 ti_22 ?_
 refine gE fun ao => gL tU22 ?_
 refine gF 1 Try.underlying129 ti_3 ?_
 refine gB 5 tU3 ?_
 refine g2s r_subI ?_
 refine gI2 tU22 ti_3 fun ar => ?_
 refine gE fun f => gL tU3 ?_
 refine gM ?_
 refine g1 r_nilCheck ?_
 refine gF 5 Try.underlying127 ti_22 ?_
 refine gE fun ap => gL tU22 ?_
 refine gF 1 Try.underlying129 ti_3 ?_
 refine gB 4 tU3 ?_
 refine g2s r_subI ?_
 refine gI2 tU22 ti_3 fun au => ?_
 refine gE fun b => gL tU3 ?_
 refine gN ?_
 refine gN <| geT fun cy => ?_
 refine gZ <| tn <| gS ?_
 intro cz r aZ
 have y := r.ag
 have a0 := r.bx 5 rfl
 have a1 := r.bx 4 rfl
 have a2 := r.bx 3 rfl
 have a3 := r.bx 2 rfl
 have a4 := r.bx 1 rfl
 have a5 := r.bx 0 rfl
 have a6 := r.chg
 have cA : j ≠ g := r.ne 5 4
 have a7 : j ≠ l := r.ne 5 3
 have a8 : g ≠ l := r.ne 4 3
 have a9 : j ≠ m := r.ne 5 2
 have ba : g ≠ m := r.ne 4 2
 have av : l ≠ m := r.ne 3 2
 have bb : j ≠ o := r.ne 5 1
 have bd : g ≠ o := r.ne 4 1
 have ax : l ≠ o := r.ne 3 1
 have ay : m ≠ o := r.ne 2 1
 have bf : j ≠ p := r.ne 5 0
 have bg : g ≠ p := r.ne 4 0
 have az : l ≠ p := r.ne 3 0
 have aA : m ≠ p := r.ne 2 0
 have aB : o ≠ p := r.ne 1 0
 let aL : List (List Nat) := [[], [], [1], [1, 2], [0, 1, 2, 3], [], [], [6], [6, 7], [5, 6, 7, 8], [], [10], [], [10, 11, 12], [], [14], [], [14, 15, 16], [0, 1, 2, 3, 4], [0, 1, 2, 3, 4, 5, 6, 7, 8, 9, 18], [0, 1, 2, 3, 4, 5, 6, 7, 8, 9, 10, 11, 12, 13, 18, 19], [0, 1, 2, 3, 4, 5, 6, 7, 8, 9, 10, 11, 12, 13, 14, 15, 16, 17, 18, 19, 20]]
 refine draw' (by kernel_rfl) fun am ad => ?_
 have aC := a0.ext ad
 have aD := a1.ext ad
 have aM := a2.ext ad
 have bi := a3.ext ad
 have bj := a4.ext ad
 have bk := a5.ext ad
 have bl := a6.more ad
 have bo := aZ am    bl
 obtain ⟨bp, bq⟩ := bo
 obtain ⟨aN, bt⟩ := bq
 refine startF (D := aL) (Fs := [0, 1, 2, 3, 4, 5, 6, 7, 8, 9, 10, 11, 12, 13, 14, 15, 16, 17]) (Ef := [(0, fun v _ => v = .int .i64 f), (1, fun v _ => v = pB j 1), (2, fun v _ => v = .int .i64 u), (3, fun v _ => v = .int .i64 (u - 1)), (4, fun v _ => v = .agg #[.int .i64 f, .int .i64 (u - 1)]), (5, fun v _ => v = .int .i64 b), (6, fun v _ => v = pB g 1), (7, fun v _ => v = .int .i64 k), (8, fun v _ => v = .int .i64 (k - 1)), (9, fun v _ => v = .agg #[.int .i64 b, .int .i64 (k - 1)]), (10, fun v _ => v = pB j 0), (11, fun v _ => v = .int .i64 x), (12, fun v _ => v = .int .i64 f), (13, fun v _ => v = .agg #[.int .i64 x, .int .i64 f]), (14, fun v _ => v = pB g 0), (15, fun v _ => v = .int .i64 q), (16, fun v _ => v = .int .i64 b), (17, fun v _ => v = .agg #[.int .i64 q, .int .i64 b])]) (by kernel_rfl) ?_
 refine oneF (c := 18) y rfl (by kernel_rfl) (constF ⟨fun _ _ _ h => h, fun _ _ _ h => h, fun _ _ _ h => h, fun _ _ _ h => h, fun _ _ _ h => h, fun _ _ _ h => h, fun _ _ _ h => h, fun _ _ _ h => h, fun _ _ _ h => h, fun _ _ _ h => h, fun _ _ _ h => h, fun _ _ _ h => h, fun _ _ _ h => h, fun _ _ _ h => h, fun _ _ _ h => h, fun _ _ _ h => h, fun _ _ _ h => h, fun _ _ _ h => h, trivial⟩) ⟨?_, ?_, ?_, ?_, ?_, ?_, ?_, ?_, ?_, ?_, ?_, ?_, ?_, ?_, ?_, ?_, ?_, ?_, trivial⟩ ?_
 ·intro a hT
  have hAp := hT.ag y [(10, .int .i64 f)] ⟨rfl, trivial⟩ (by kernel_rfl)
  exact opk_val hAp rfl (r_move (hAp.get rfl)) fun _ _ e => ⟨_, e, rfl, fun _ => Eq.refl _⟩
 ·intro a hT
  have hAp := hT.ag y [(4, pB j 0)] ⟨rfl, trivial⟩ (by kernel_rfl)
  exact opk_val hAp rfl (r_fieldAddr (hAp.get rfl) Try.underlying129 rfl ti_3 (by decide)) fun _ _ e => ⟨_, e, rfl, fun _ => Eq.refl _⟩
 ·intro a hT
  have hAp := hT.ag y [] trivial (by kernel_rfl)
  have hAp := hAp.add (t := 31) (v := pB j 1) (hT.vals 1 rfl 31 rfl)
  exact opk_val hAp rfl (r_load1 tU3 rfl (hAp.get rfl) ((aC.ext hT.chg).cell 1 _ rfl)) fun _ _ e => ⟨_, e, rfl, fun _ => Eq.refl _⟩
 ·intro a hT
  have hAp := hT.ag y [] trivial (by kernel_rfl)
  have hAp := hAp.add (t := 32) (v := .int .i64 u) (hT.vals 2 rfl 32 rfl)
  exact opk_val hAp rfl (r_subI (hAp.get rfl) rfl bp) fun _ _ e => ⟨_, e, rfl, fun _ => Eq.refl _⟩
 ·intro a hT
  have hAp := hT.ag y [] trivial (by kernel_rfl)
  have hAp := hAp.add (t := 30) (v := .int .i64 f) (hT.vals 0 rfl 30 rfl)
  have hAp := hAp.add (t := 33) (v := .int .i64 (u - 1)) (hT.vals 3 rfl 33 rfl)
  exact opk_val hAp rfl (r_build (vs := #[(0, .int .i64 f), (1, .int .i64 (u - 1))]) (cells := #[.int .i64 f, .int .i64 (u - 1)]) (map_arr2 (ml2_cons (hAp.get rfl) (ml2_cons (hAp.get rfl) (ml2_nil)))) ti_129 Try.underlying129 pl_129 (by kernel_rfl)) fun _ _ e => ⟨_, e, rfl, fun _ => Eq.refl _⟩
 ·intro a hT
  have hAp := hT.ag y [(11, .int .i64 b)] ⟨rfl, trivial⟩ (by kernel_rfl)
  exact opk_val hAp rfl (r_move (hAp.get rfl)) fun _ _ e => ⟨_, e, rfl, fun _ => Eq.refl _⟩
 ·intro a hT
  have hAp := hT.ag y [(5, pB g 0)] ⟨rfl, trivial⟩ (by kernel_rfl)
  exact opk_val hAp rfl (r_fieldAddr (hAp.get rfl) Try.underlying129 rfl ti_3 (by decide)) fun _ _ e => ⟨_, e, rfl, fun _ => Eq.refl _⟩
 ·intro a hT
  have hAp := hT.ag y [] trivial (by kernel_rfl)
  have hAp := hAp.add (t := 36) (v := pB g 1) (hT.vals 6 rfl 36 rfl)
  exact opk_val hAp rfl (r_load1 tU3 rfl (hAp.get rfl) ((aD.ext hT.chg).cell 1 _ rfl)) fun _ _ e => ⟨_, e, rfl, fun _ => Eq.refl _⟩
 ·intro a hT
  have hAp := hT.ag y [] trivial (by kernel_rfl)
  have hAp := hAp.add (t := 37) (v := .int .i64 k) (hT.vals 7 rfl 37 rfl)
  exact opk_val hAp rfl (r_subI (hAp.get rfl) rfl aN) fun _ _ e => ⟨_, e, rfl, fun _ => Eq.refl _⟩
 ·intro a hT
  have hAp := hT.ag y [] trivial (by kernel_rfl)
  have hAp := hAp.add (t := 35) (v := .int .i64 b) (hT.vals 5 rfl 35 rfl)
  have hAp := hAp.add (t := 38) (v := .int .i64 (k - 1)) (hT.vals 8 rfl 38 rfl)
  exact opk_val hAp rfl (r_build (vs := #[(0, .int .i64 b), (1, .int .i64 (k - 1))]) (cells := #[.int .i64 b, .int .i64 (k - 1)]) (map_arr2 (ml2_cons (hAp.get rfl) (ml2_cons (hAp.get rfl) (ml2_nil)))) ti_129 Try.underlying129 pl_129 (by kernel_rfl)) fun _ _ e => ⟨_, e, rfl, fun _ => Eq.refl _⟩
 ·intro a hT
  have hAp := hT.ag y [(4, pB j 0)] ⟨rfl, trivial⟩ (by kernel_rfl)
  exact opk_val hAp rfl (r_fieldAddr (hAp.get rfl) Try.underlying129 rfl ti_3 (by decide)) fun _ _ e => ⟨_, e, rfl, fun _ => Eq.refl _⟩
 ·intro a hT
  have hAp := hT.ag y [] trivial (by kernel_rfl)
  have hAp := hAp.add (t := 40) (v := pB j 0) (hT.vals 10 rfl 40 rfl)
  exact opk_val hAp rfl (r_load1 tU3 rfl (hAp.get rfl) ((aC.ext hT.chg).cell 0 _ rfl)) fun _ _ e => ⟨_, e, rfl, fun _ => Eq.refl _⟩
 ·intro a hT
  have hAp := hT.ag y [(10, .int .i64 f)] ⟨rfl, trivial⟩ (by kernel_rfl)
  exact opk_val hAp rfl (r_move (hAp.get rfl)) fun _ _ e => ⟨_, e, rfl, fun _ => Eq.refl _⟩
 ·intro a hT
  have hAp := hT.ag y [] trivial (by kernel_rfl)
  have hAp := hAp.add (t := 41) (v := .int .i64 x) (hT.vals 11 rfl 41 rfl)
  have hAp := hAp.add (t := 42) (v := .int .i64 f) (hT.vals 12 rfl 42 rfl)
  exact opk_val hAp rfl (r_build (vs := #[(0, .int .i64 x), (1, .int .i64 f)]) (cells := #[.int .i64 x, .int .i64 f]) (map_arr2 (ml2_cons (hAp.get rfl) (ml2_cons (hAp.get rfl) (ml2_nil)))) ti_129 Try.underlying129 pl_129 (by kernel_rfl)) fun _ _ e => ⟨_, e, rfl, fun _ => Eq.refl _⟩
 ·intro a hT
  have hAp := hT.ag y [(5, pB g 0)] ⟨rfl, trivial⟩ (by kernel_rfl)
  exact opk_val hAp rfl (r_fieldAddr (hAp.get rfl) Try.underlying129 rfl ti_3 (by decide)) fun _ _ e => ⟨_, e, rfl, fun _ => Eq.refl _⟩
 ·intro a hT
  have hAp := hT.ag y [] trivial (by kernel_rfl)
  have hAp := hAp.add (t := 44) (v := pB g 0) (hT.vals 14 rfl 44 rfl)
  exact opk_val hAp rfl (r_load1 tU3 rfl (hAp.get rfl) ((aD.ext hT.chg).cell 0 _ rfl)) fun _ _ e => ⟨_, e, rfl, fun _ => Eq.refl _⟩
 ·intro a hT
  have hAp := hT.ag y [(11, .int .i64 b)] ⟨rfl, trivial⟩ (by kernel_rfl)
  exact opk_val hAp rfl (r_move (hAp.get rfl)) fun _ _ e => ⟨_, e, rfl, fun _ => Eq.refl _⟩
 ·intro a hT
  have hAp := hT.ag y [] trivial (by kernel_rfl)
  have hAp := hAp.add (t := 45) (v := .int .i64 q) (hT.vals 15 rfl 45 rfl)
  have hAp := hAp.add (t := 46) (v := .int .i64 b) (hT.vals 16 rfl 46 rfl)
  exact opk_val hAp rfl (r_build (vs := #[(0, .int .i64 q), (1, .int .i64 b)]) (cells := #[.int .i64 q, .int .i64 b]) (map_arr2 (ml2_cons (hAp.get rfl) (ml2_cons (hAp.get rfl) (ml2_nil)))) ti_129 Try.underlying129 pl_129 (by kernel_rfl)) fun _ _ e => ⟨_, e, rfl, fun _ => Eq.refl _⟩
 ·intro bu hT
  have bv := hT.ag y [(4, pB j 0), (5, pB g 0), (6, pB l 0), (7, pB m 0), (8, pB o 0), (9, pB p 0), (10, .int .i64 f), (11, .int .i64 b)] ⟨rfl, rfl, rfl, rfl, rfl, rfl, rfl, rfl, trivial⟩ (by kernel_rfl)
  have bz : bu.tmps.getD 34 undef = .agg #[.int .i64 f, .int .i64 (u - 1)] := hT.vals 4 rfl 34 rfl
  have aG := bv.add bz
  refine opk_storeF aG aM (r_store (vs := [.int .i64 f, .int .i64 (u - 1)]) (aG.get rfl) (aG.get rfl) rfl ti_129 aM rfl (ones_all _ rfl)) fun aO ah bA bB => ⟨undef, Eq.refl _, ?_⟩
  have bC : Box aO l 129 [.int .i64 f, .int .i64 (u - 1)] := bA
  have aP := aC.keep ah (by simpa using a7)
  have aH := aD.keep ah (by simpa using a8)
  have aQ := bi.keep ah (by simpa using av.symm)
  have bD := bj.keep ah (by simpa using ax.symm)
  have bF := bk.keep ah (by simpa using az.symm)
  have bG : Chg [l] am aO := ah
  refine PRF_drop (X := [0, 1, 2, 3, 4]) (Fs' := [5, 6, 7, 8, 9, 10, 11, 12, 13, 14, 15, 16, 17]) bB (by kernel_rfl) fun cB bH cC => ?_
  have z := bH [(4, pB j 0), (5, pB g 0), (6, pB l 0), (7, pB m 0), (8, pB o 0), (9, pB p 0), (10, .int .i64 f), (11, .int .i64 b)] ⟨rfl, rfl, rfl, rfl, rfl, rfl, rfl, rfl, trivial⟩ (by kernel_rfl)
  refine oneF (c := 19) z rfl (by kernel_rfl) (constF ⟨fun _ _ _ h => h, fun _ _ _ h => h, fun _ _ _ h => h, fun _ _ _ h => h, fun _ _ _ h => h, fun _ _ _ h => h, fun _ _ _ h => h, fun _ _ _ h => h, fun _ _ _ h => h, fun _ _ _ h => h, fun _ _ _ h => h, fun _ _ _ h => h, fun _ _ _ h => h, trivial⟩) ⟨?_, ?_, ?_, ?_, ?_, ?_, ?_, ?_, ?_, ?_, ?_, ?_, ?_, trivial⟩ ?_
  ·intro a hT
   have hAp := hT.ag z [(11, .int .i64 b)] ⟨rfl, trivial⟩ (by kernel_rfl)
   exact opk_val hAp rfl (r_move (hAp.get rfl)) fun _ _ e => ⟨_, e, rfl, fun _ => Eq.refl _⟩
  ·intro a hT
   have hAp := hT.ag z [(5, pB g 0)] ⟨rfl, trivial⟩ (by kernel_rfl)
   exact opk_val hAp rfl (r_fieldAddr (hAp.get rfl) Try.underlying129 rfl ti_3 (by decide)) fun _ _ e => ⟨_, e, rfl, fun _ => Eq.refl _⟩
  ·intro a hT
   have hAp := hT.ag z [] trivial (by kernel_rfl)
   have hAp := hAp.add (t := 36) (v := pB g 1) (hT.vals 6 rfl 36 rfl)
   exact opk_val hAp rfl (r_load1 tU3 rfl (hAp.get rfl) ((aH.ext hT.chg).cell 1 _ rfl)) fun _ _ e => ⟨_, e, rfl, fun _ => Eq.refl _⟩
  ·intro a hT
   have hAp := hT.ag z [] trivial (by kernel_rfl)
   have hAp := hAp.add (t := 37) (v := .int .i64 k) (hT.vals 7 rfl 37 rfl)
   exact opk_val hAp rfl (r_subI (hAp.get rfl) rfl aN) fun _ _ e => ⟨_, e, rfl, fun _ => Eq.refl _⟩
  ·intro a hT
   have hAp := hT.ag z [] trivial (by kernel_rfl)
   have hAp := hAp.add (t := 35) (v := .int .i64 b) (hT.vals 5 rfl 35 rfl)
   have hAp := hAp.add (t := 38) (v := .int .i64 (k - 1)) (hT.vals 8 rfl 38 rfl)
   exact opk_val hAp rfl (r_build (vs := #[(0, .int .i64 b), (1, .int .i64 (k - 1))]) (cells := #[.int .i64 b, .int .i64 (k - 1)]) (map_arr2 (ml2_cons (hAp.get rfl) (ml2_cons (hAp.get rfl) (ml2_nil)))) ti_129 Try.underlying129 pl_129 (by kernel_rfl)) fun _ _ e => ⟨_, e, rfl, fun _ => Eq.refl _⟩
  ·intro a hT
   have hAp := hT.ag z [(4, pB j 0)] ⟨rfl, trivial⟩ (by kernel_rfl)
   exact opk_val hAp rfl (r_fieldAddr (hAp.get rfl) Try.underlying129 rfl ti_3 (by decide)) fun _ _ e => ⟨_, e, rfl, fun _ => Eq.refl _⟩
  ·intro a hT
   have hAp := hT.ag z [] trivial (by kernel_rfl)
   have hAp := hAp.add (t := 40) (v := pB j 0) (hT.vals 10 rfl 40 rfl)
   exact opk_val hAp rfl (r_load1 tU3 rfl (hAp.get rfl) ((aP.ext hT.chg).cell 0 _ rfl)) fun _ _ e => ⟨_, e, rfl, fun _ => Eq.refl _⟩
  ·intro a hT
   have hAp := hT.ag z [(10, .int .i64 f)] ⟨rfl, trivial⟩ (by kernel_rfl)
   exact opk_val hAp rfl (r_move (hAp.get rfl)) fun _ _ e => ⟨_, e, rfl, fun _ => Eq.refl _⟩
  ·intro a hT
   have hAp := hT.ag z [] trivial (by kernel_rfl)
   have hAp := hAp.add (t := 41) (v := .int .i64 x) (hT.vals 11 rfl 41 rfl)
   have hAp := hAp.add (t := 42) (v := .int .i64 f) (hT.vals 12 rfl 42 rfl)
   exact opk_val hAp rfl (r_build (vs := #[(0, .int .i64 x), (1, .int .i64 f)]) (cells := #[.int .i64 x, .int .i64 f]) (map_arr2 (ml2_cons (hAp.get rfl) (ml2_cons (hAp.get rfl) (ml2_nil)))) ti_129 Try.underlying129 pl_129 (by kernel_rfl)) fun _ _ e => ⟨_, e, rfl, fun _ => Eq.refl _⟩
  ·intro a hT
   have hAp := hT.ag z [(5, pB g 0)] ⟨rfl, trivial⟩ (by kernel_rfl)
   exact opk_val hAp rfl (r_fieldAddr (hAp.get rfl) Try.underlying129 rfl ti_3 (by decide)) fun _ _ e => ⟨_, e, rfl, fun _ => Eq.refl _⟩
  ·intro a hT
   have hAp := hT.ag z [] trivial (by kernel_rfl)
   have hAp := hAp.add (t := 44) (v := pB g 0) (hT.vals 14 rfl 44 rfl)
   exact opk_val hAp rfl (r_load1 tU3 rfl (hAp.get rfl) ((aH.ext hT.chg).cell 0 _ rfl)) fun _ _ e => ⟨_, e, rfl, fun _ => Eq.refl _⟩
  ·intro a hT
   have hAp := hT.ag z [(11, .int .i64 b)] ⟨rfl, trivial⟩ (by kernel_rfl)
   exact opk_val hAp rfl (r_move (hAp.get rfl)) fun _ _ e => ⟨_, e, rfl, fun _ => Eq.refl _⟩
  ·intro a hT
   have hAp := hT.ag z [] trivial (by kernel_rfl)
   have hAp := hAp.add (t := 45) (v := .int .i64 q) (hT.vals 15 rfl 45 rfl)
   have hAp := hAp.add (t := 46) (v := .int .i64 b) (hT.vals 16 rfl 46 rfl)
   exact opk_val hAp rfl (r_build (vs := #[(0, .int .i64 q), (1, .int .i64 b)]) (cells := #[.int .i64 q, .int .i64 b]) (map_arr2 (ml2_cons (hAp.get rfl) (ml2_cons (hAp.get rfl) (ml2_nil)))) ti_129 Try.underlying129 pl_129 (by kernel_rfl)) fun _ _ e => ⟨_, e, rfl, fun _ => Eq.refl _⟩
  ·intro bI hT
   have bJ := hT.ag z [(4, pB j 0), (5, pB g 0), (6, pB l 0), (7, pB m 0), (8, pB o 0), (9, pB p 0), (10, .int .i64 f), (11, .int .i64 b)] ⟨rfl, rfl, rfl, rfl, rfl, rfl, rfl, rfl, trivial⟩ (by kernel_rfl)
   have bK : bI.tmps.getD 39 undef = .agg #[.int .i64 b, .int .i64 (k - 1)] := hT.vals 9 rfl 39 rfl
   have aI := bJ.add bK
   refine opk_storeF aI aQ (r_store (vs := [.int .i64 b, .int .i64 (k - 1)]) (aI.get rfl) (aI.get rfl) rfl ti_129 aQ rfl (ones_all _ rfl)) fun bL ai bM bN => ⟨undef, Eq.refl _, ?_⟩
   have bO : Box bL m 129 [.int .i64 b, .int .i64 (k - 1)] := bM
   have aR := aP.keep ai (by simpa using a9)
   have aS := aH.keep ai (by simpa using ba)
   have bP := bC.keep ai (by simpa using av)
   have aU := bD.keep ai (by simpa using ay.symm)
   have bQ := bF.keep ai (by simpa using aA.symm)
   have bR := bG.storeOld ai
   refine PRF_drop (X := [5, 6, 7, 8, 9]) (Fs' := [10, 11, 12, 13, 14, 15, 16, 17]) bN (by kernel_rfl) fun cD bS cF => ?_
   have ab := bS [(4, pB j 0), (5, pB g 0), (6, pB l 0), (7, pB m 0), (8, pB o 0), (9, pB p 0), (10, .int .i64 f), (11, .int .i64 b)] ⟨rfl, rfl, rfl, rfl, rfl, rfl, rfl, rfl, trivial⟩ (by kernel_rfl)
   refine oneF (c := 20) ab rfl (by kernel_rfl) (constF ⟨fun _ _ _ h => h, fun _ _ _ h => h, fun _ _ _ h => h, fun _ _ _ h => h, fun _ _ _ h => h, fun _ _ _ h => h, fun _ _ _ h => h, fun _ _ _ h => h, trivial⟩) ⟨?_, ?_, ?_, ?_, ?_, ?_, ?_, ?_, trivial⟩ ?_
   ·intro a hT
    have hAp := hT.ag ab [(4, pB j 0)] ⟨rfl, trivial⟩ (by kernel_rfl)
    exact opk_val hAp rfl (r_fieldAddr (hAp.get rfl) Try.underlying129 rfl ti_3 (by decide)) fun _ _ e => ⟨_, e, rfl, fun _ => Eq.refl _⟩
   ·intro a hT
    have hAp := hT.ag ab [] trivial (by kernel_rfl)
    have hAp := hAp.add (t := 40) (v := pB j 0) (hT.vals 10 rfl 40 rfl)
    exact opk_val hAp rfl (r_load1 tU3 rfl (hAp.get rfl) ((aR.ext hT.chg).cell 0 _ rfl)) fun _ _ e => ⟨_, e, rfl, fun _ => Eq.refl _⟩
   ·intro a hT
    have hAp := hT.ag ab [(10, .int .i64 f)] ⟨rfl, trivial⟩ (by kernel_rfl)
    exact opk_val hAp rfl (r_move (hAp.get rfl)) fun _ _ e => ⟨_, e, rfl, fun _ => Eq.refl _⟩
   ·intro a hT
    have hAp := hT.ag ab [] trivial (by kernel_rfl)
    have hAp := hAp.add (t := 41) (v := .int .i64 x) (hT.vals 11 rfl 41 rfl)
    have hAp := hAp.add (t := 42) (v := .int .i64 f) (hT.vals 12 rfl 42 rfl)
    exact opk_val hAp rfl (r_build (vs := #[(0, .int .i64 x), (1, .int .i64 f)]) (cells := #[.int .i64 x, .int .i64 f]) (map_arr2 (ml2_cons (hAp.get rfl) (ml2_cons (hAp.get rfl) (ml2_nil)))) ti_129 Try.underlying129 pl_129 (by kernel_rfl)) fun _ _ e => ⟨_, e, rfl, fun _ => Eq.refl _⟩
   ·intro a hT
    have hAp := hT.ag ab [(5, pB g 0)] ⟨rfl, trivial⟩ (by kernel_rfl)
    exact opk_val hAp rfl (r_fieldAddr (hAp.get rfl) Try.underlying129 rfl ti_3 (by decide)) fun _ _ e => ⟨_, e, rfl, fun _ => Eq.refl _⟩
   ·intro a hT
    have hAp := hT.ag ab [] trivial (by kernel_rfl)
    have hAp := hAp.add (t := 44) (v := pB g 0) (hT.vals 14 rfl 44 rfl)
    exact opk_val hAp rfl (r_load1 tU3 rfl (hAp.get rfl) ((aS.ext hT.chg).cell 0 _ rfl)) fun _ _ e => ⟨_, e, rfl, fun _ => Eq.refl _⟩
   ·intro a hT
    have hAp := hT.ag ab [(11, .int .i64 b)] ⟨rfl, trivial⟩ (by kernel_rfl)
    exact opk_val hAp rfl (r_move (hAp.get rfl)) fun _ _ e => ⟨_, e, rfl, fun _ => Eq.refl _⟩
   ·intro a hT
    have hAp := hT.ag ab [] trivial (by kernel_rfl)
    have hAp := hAp.add (t := 45) (v := .int .i64 q) (hT.vals 15 rfl 45 rfl)
    have hAp := hAp.add (t := 46) (v := .int .i64 b) (hT.vals 16 rfl 46 rfl)
    exact opk_val hAp rfl (r_build (vs := #[(0, .int .i64 q), (1, .int .i64 b)]) (cells := #[.int .i64 q, .int .i64 b]) (map_arr2 (ml2_cons (hAp.get rfl) (ml2_cons (hAp.get rfl) (ml2_nil)))) ti_129 Try.underlying129 pl_129 (by kernel_rfl)) fun _ _ e => ⟨_, e, rfl, fun _ => Eq.refl _⟩
   ·intro bT hT
    have bU := hT.ag ab [(4, pB j 0), (5, pB g 0), (6, pB l 0), (7, pB m 0), (8, pB o 0), (9, pB p 0), (10, .int .i64 f), (11, .int .i64 b)] ⟨rfl, rfl, rfl, rfl, rfl, rfl, rfl, rfl, trivial⟩ (by kernel_rfl)
    have bV : bT.tmps.getD 43 undef = .agg #[.int .i64 x, .int .i64 f] := hT.vals 13 rfl 43 rfl
    have aJ := bU.add bV
    refine opk_storeF aJ aU (r_store (vs := [.int .i64 x, .int .i64 f]) (aJ.get rfl) (aJ.get rfl) rfl ti_129 aU rfl (ones_all _ rfl)) fun bX aj bY bZ => ⟨undef, Eq.refl _, ?_⟩
    have b0 : Box bX o 129 [.int .i64 x, .int .i64 f] := bY
    have b1 := aR.keep aj (by simpa using bb)
    have aV := aS.keep aj (by simpa using bd)
    have b2 := bP.keep aj (by simpa using ax)
    have b3 := bO.keep aj (by simpa using ay)
    have b4 := bQ.keep aj (by simpa using aB.symm)
    have b5 := bR.storeOld aj
    refine PRF_drop (X := [10, 11, 12, 13]) (Fs' := [14, 15, 16, 17]) bZ (by kernel_rfl) fun cG b6 cH => ?_
    have an := b6 [(5, pB g 0), (6, pB l 0), (7, pB m 0), (8, pB o 0), (9, pB p 0), (11, .int .i64 b)] ⟨rfl, rfl, rfl, rfl, rfl, rfl, trivial⟩ (by kernel_rfl)
    refine joinF an (by kernel_rfl) ⟨fun _ _ _ _ h => h, fun _ _ _ _ h => h, fun _ _ _ _ h => h, fun _ _ _ _ h => h, trivial⟩ ⟨?_, ?_, ?_, ?_, trivial⟩ ?_
    ·intro a w hT
     have hAp := hT.ag an [(5, pB g 0)] ⟨rfl, trivial⟩ (by kernel_rfl)
     exact ovr hAp rfl (r_fieldAddr (hAp.get rfl) Try.underlying129 rfl ti_3 (by decide)) fun _ => Eq.refl _
    ·intro a w hT
     have hAp := hT.ag an [] trivial (by kernel_rfl)
     have hAp := hAp.add (t := 44) (v := pB g 0) (hT.vals 14 rfl 44 rfl)
     exact ovr hAp rfl (r_load1 tU3 rfl (hAp.get rfl) ((aV.ext hT.chg).cell 0 _ rfl)) fun _ => Eq.refl _
    ·intro a w hT
     have hAp := hT.ag an [(11, .int .i64 b)] ⟨rfl, trivial⟩ (by kernel_rfl)
     exact ovr hAp rfl (r_move (hAp.get rfl)) fun _ => Eq.refl _
    ·intro a w hT
     have hAp := hT.ag an [] trivial (by kernel_rfl)
     have hAp := hAp.add (t := 45) (v := .int .i64 q) (hT.vals 15 rfl 45 rfl)
     have hAp := hAp.add (t := 46) (v := .int .i64 b) (hT.vals 16 rfl 46 rfl)
     exact ovr hAp rfl (r_build (vs := #[(0, .int .i64 q), (1, .int .i64 b)]) (cells := #[.int .i64 q, .int .i64 b]) (map_arr2 (ml2_cons (hAp.get rfl) (ml2_cons (hAp.get rfl) (ml2_nil)))) ti_129 Try.underlying129 pl_129 (by kernel_rfl)) fun _ => Eq.refl _
    ·intro b7 cI af b8 b9
     have ca := b8 [(6, pB l 0), (7, pB m 0), (8, pB o 0), (9, pB p 0)] ⟨rfl, rfl, rfl, rfl, trivial⟩ (by kernel_rfl)
     have cb : b7.tmps.getD 47 undef = .agg #[.int .i64 q, .int .i64 b] := b9 17 rfl 47 rfl
     have aK := ca.add cb
     have cc := b1.ext af
     have cd := aV.ext af
     have cf := b2.ext af
     have cg := b3.ext af
     have ch := b0.ext af
     have aX := b4.ext af
     have ci := b5.more af
     refine one (D := aL) (i := 21) rfl (by kernel_rfl) (opk_store aK aX (r_store (vs := [.int .i64 q, .int .i64 b]) (aK.get rfl) (aK.get rfl) rfl ti_129 aX rfl (ones_all _ rfl)) fun cJ aq ak cj ck => ?_)
     have cl : Box aq p 129 [.int .i64 q, .int .i64 b] := cj
     have cK := cc.keep ak (by simpa using bf)
     have cL := cd.keep ak (by simpa using bg)
     have cm := cf.keep ak (by simpa using az)
     have cn := cg.keep ak (by simpa using aA)
     have co := ch.keep ak (by simpa using aB)
     have cp := ci.storeOld ak
     refine PR_end (by kernel_rfl) ?_
     have cq := ck.kp [(6, pB l 0), (7, pB m 0), (8, pB o 0), (9, pB p 0)] rfl
     refine gK (bs := [(p, 129, [.int .i64 q, .int .i64 b]), (o, 129, [.int .i64 x, .int .i64 f]), (m, 129, [.int .i64 b, .int .i64 (k - 1)]), (l, 129, [.int .i64 f, .int .i64 (u - 1)])]) (N := []) cq cp ⟨cl, co, cn, cm, trivial⟩ (by simp [(Ne.symm aB), (Ne.symm aA), (Ne.symm az), (Ne.symm ay), (Ne.symm ax), (Ne.symm av)]) trivial (by simp) bt ?_
     exact tn <| gr <| gT0 <| gz [.agg #[.int .i64 f, .int .i64 (u - 1)], .agg #[.int .i64 b, .int .i64 (k - 1)], .agg #[.int .i64 x, .int .i64 f], .agg #[.int .i64 q, .int .i64 b]] rfl (fun _ s => ⟨res_of_cell s.ag rfl (s.bx 3 rfl) Try.underlying129 rfl ti_129, res_of_cell s.ag rfl (s.bx 2 rfl) Try.underlying129 rfl ti_129, res_of_cell s.ag rfl (s.bx 1 rfl) Try.underlying129 rfl ti_129, res_of_cell s.ag rfl (s.bx 0 rfl) Try.underlying129 rfl ti_129, trivial⟩)
def ref20_Z_cost.vc (c : Addr) (p : Int) (d : Int) (q : Int) (f : Int) (R : Value → World → Prop) (w : World) : Prop :=
∀ (b : World) (r : Nat) (s : Nat), New w r b → New w s b → r ≠ s → Chg [] w b →
∃ (j : Sl), (b.cell? (c.add 0) = some (Sl.v j)) ∧
∃ (k : Sl), (b.cell? (c.add 2) = some (Sl.v k)) ∧
(I64 (d - 1)) ∧
∃ t : Addr, (((0 : Int) ≤ d - 1 ∧ d - 1 < (k.n : Int)) ∧ k.a = some t) ∧
∃ (g : Int), (b.cell? (t.add ((d - 1).toNat * 1)) = some (.int .i64 g)) ∧
∃ u : Addr, (((0 : Int) ≤ g ∧ g < (j.n : Int)) ∧ j.a = some u) ∧
∃ (x : Int) (y : Str) (z : Str) (aa : Sl) (ab : Sl), (Cells b ((u.add (g.toNat * 15)).add 5) [.int .i64 x, .string (Bs y), .string (Bs z), Sl.v aa, Sl.v ab]) ∧
∃ (l : Sl), (b.cell? (c.add 1) = some (Sl.v l)) ∧
∃ (m : Sl), (b.cell? (c.add 3) = some (Sl.v m)) ∧
(I64 (f - 1)) ∧
∃ ad : Addr, (((0 : Int) ≤ f - 1 ∧ f - 1 < (m.n : Int)) ∧ m.a = some ad) ∧
∃ (i : Int), (b.cell? (ad.add ((f - 1).toNat * 1)) = some (.int .i64 i)) ∧
∃ af : Addr, (((0 : Int) ≤ i ∧ i < (l.n : Int)) ∧ l.a = some af) ∧
∃ (ag : Int) (ah : Str) (ai : Str) (aj : Sl) (ak : Sl), (Cells b ((af.add (i.toNat * 15)).add 5) [.int .i64 ag, .string (Bs ah), .string (Bs ai), Sl.v aj, Sl.v ak]) ∧
∃ (o : Int), (∀ w' : World, Ext b w' → Calls Try.prog 91 #[.agg #[.int .i64 x, .string (Bs y), .string (Bs z), Sl.v aa, Sl.v ab], .agg #[.int .i64 ag, .string (Bs ah), .string (Bs ai), Sl.v aj, Sl.v ak]] w' (Ret fun v w'' => Ext w' w'' ∧ v = .int .i64 o)) ∧
∀ (al : World), Chg [] b al →
R (.int .i64 o) al
theorem ref20_Z_cost.ok (c : Addr) (p : Int) (d : Int) (q : Int) (f : Int) {R : Value → World → Prop} {w : World} (am : ref20_Z_cost.vc c p d q f R w) : Calls Try.prog 88 #[.pointer (some c), .agg #[.int .i64 p, .int .i64 d], .agg #[.int .i64 q, .int .i64 f]] w (Ret R) := by
 refine go _ Try.func88 Try.ntmps88 am ?_
 refine gS <| gR <| nb fun w5 r => ?_
 refine nb fun w7 s => ?_
 refine gN <| ge <| tn <| gS ?_
 refine gD fun b => gT2 <| gE fun j => gA fun an => gE fun k => gA fun ao => gA fun ap => gE fun t => gA fun aq => gE fun g => gA fun ar => gE fun u => gA fun au => gE fun x => gE fun y => gE fun z => gE fun aa => gE fun ab => gA fun av => gE fun l => gA fun ax => gE fun m => gA fun ay => gA fun az => gE fun ad => gA fun aA => gE fun i => gA fun aB => gE fun af => gA fun aC => gE fun ag => gE fun ah => gE fun ai => gE fun aj => gE fun ak => gA fun aD => gE fun o => gA fun aG => ?_
 refine gW 0 34 [(32, rsU (.int .i64 o))] ?_
 refine gM ?_
 refine g1 r_nilCheck ?_
 refine gF 0 Try.underlying127 ti_31 ?_
 refine gP an <| gL tU31 ?_
 refine gM ?_
 refine g1 r_nilCheck ?_
 refine gF 2 Try.underlying127 ti_22 ?_
 refine gP ao <| gL tU22 ?_
 refine gF 1 Try.underlying129 ti_3 ?_
 refine gB 1 tU3 ?_
 refine gP ap <| g2s r_subI ?_
 refine gIx tU22 ti_3 aq ?_
 refine gP ar <| gL tU3 ?_
 refine gIx tU31 ti_38 au ?_
 refine gF 5 Try.underlying38 ti_26 ?_
 refine gP av <| gLN Try.underlying26 ti_26 ?_
 refine gM ?_
 refine g1 r_nilCheck ?_
 refine gF 1 Try.underlying127 ti_31 ?_
 refine gP ax <| gL tU31 ?_
 refine gM ?_
 refine g1 r_nilCheck ?_
 refine gF 3 Try.underlying127 ti_22 ?_
 refine gP ay <| gL tU22 ?_
 refine gF 1 Try.underlying129 ti_3 ?_
 refine gB 0 tU3 ?_
 refine gP az <| g2s r_subI ?_
 refine gIx tU22 ti_3 aA ?_
 refine gP aB <| gL tU3 ?_
 refine gIx tU31 ti_38 aC ?_
 refine gF 5 Try.underlying38 ti_26 ?_
 refine gP aD <| gLN Try.underlying26 ti_26 ?_
 refine yc rfl Try.func91 (fun w' hE _ => aG w' hE) (fun _ _ h => ⟨(), h, trivial⟩) fun _ => ?_
 refine gN ?_
 refine eT fun al => ?_
 refine gZ <| tn <| gr <| gT0 ?_
 exact gz1
def ref20_Cost.vc (a : Int) (b : Str) (g : Str) (i : Sl) (j : Sl) (c : Int) (d : Str) (k : Str) (l : Sl) (m : Sl) (R : Value → World → Prop) (w : World) : Prop :=
∀ (f : World) (n : Nat) (o : Nat), New w n f → New w o f → n ≠ o → Chg [] w f →
CallK Try.prog 84 #[.agg #[.int .i64 a, .string (Bs b), .string (Bs g), Sl.v i, Sl.v j], .agg #[.int .i64 c, .string (Bs d), .string (Bs k), Sl.v l, Sl.v m]] f [n, o] (fun v p => ∃ (q : Int), v = .int .i64 q ∧
((q = 0) →
R (.int .i64 0) p) ∧
((¬ (q = 0)) →
(((a = c) ∧ (b = d)) →
R (.int .i64 1) p) ∧
(((¬ (a = c)) ∨ (¬ (b = d))) →
R (.int .i64 3) p)))
theorem ref20_Cost.ok (a : Int) (b : Str) (g : Str) (i : Sl) (j : Sl) (c : Int) (d : Str) (k : Str) (l : Sl) (m : Sl) {R : Value → World → Prop} {w : World} (r : ref20_Cost.vc a b g i j c d k l m R w) : Calls Try.prog 91 #[.agg #[.int .i64 a, .string (Bs b), .string (Bs g), Sl.v i, Sl.v j], .agg #[.int .i64 c, .string (Bs d), .string (Bs k), Sl.v l, Sl.v m]] w (Ret R) := by
 refine go _ Try.func91 Try.ntmps91 r ?_
 refine gS <| gR <| nb fun s n => ?_
 refine nb fun f o => ?_
 refine gN <| ge <| tn <| gS <| gb <| gS <| gR ?_
 refine gBN 1 5 Try.underlying26 ti_26 ?_
 refine gBN 0 5 Try.underlying26 ti_26 <| gT2 ?_
 refine gC [1, 0] Try.func84 fun _ p => gE fun q => gQ ?_
 refine g2 r_eql ?_
 refine gN <| ge <| tn ?_
 refine gi dT dF ?_ ?_
 ·refine gS <| gR <| gN <| ge <| tn <| gr <| br <| tr ?_
  exact gz1
 ·refine gS <| gR <| gF 0 Try.underlying26 ti_3 ?_
  refine gB 1 tU3 ?_
  refine gF 0 Try.underlying26 ti_3 ?_
  refine gB 0 tU3 ?_
  refine g2 r_eql ?_
  refine gM ?_
  refine GF 1 Try.underlying26 ti_9 ?_
  refine GB 1 tU9 ?_
  refine GF 1 Try.underlying26 ti_9 ?_
  refine GB 0 tU9 ?_
  refine G2 r_seql ?_
  refine gpa ?_
  refine gN <| ge <| tn ?_
  refine gi (fun h => ⟨(dT (aT h).1), (dT (aT h).2)⟩) (fun h => ((aF h).imp (fun h => (dF h)) (fun h => (dF h)))) ?_ ?_
  ·refine gS <| gR <| gN <| ge <| tn <| gr <| br <| tr ?_
   exact gz1
  ·refine gk <| bn <| tn <| gS <| gR <| gN <| ge <| tn <| gr ?_
   exact gz1
end Go.Proofs.Yteohbfaechfliaa
