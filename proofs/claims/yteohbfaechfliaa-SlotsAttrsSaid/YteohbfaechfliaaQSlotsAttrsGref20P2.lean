/-
  PRINTED BY PROGRAM: for each function its condition (vc), and that this suffices (ok).
-/
import Derived.Test.YteohbfaechfliaaQSlotsAttrsGT
namespace Go.Proofs.Yteohbfaechfliaa
open Go.RowKit
set_option linter.unusedVariables false
set_option maxHeartbeats 1000000
set_option maxRecDepth 10000
def ref20_Z_Distance.vc (d : Addr) (k : Int) (g : Int) (l : Int) (f : Int) (R : Value → World → Prop) (w : World) : Prop :=
(((k = g) ∨ (l = f)) →
(I64 (g - k)) ∧
(I64 ((g - k) + f)) ∧
(I64 (((g - k) + f) - l)) ∧
∀ (w7 : World) (m : Nat) (j : Nat), New w m w7 → New w j w7 → m ≠ j → Chg [] w w7 →
R (.int .i64 (((g - k) + f) - l)) w7) ∧
(((¬ (k = g)) ∧ (¬ (l = f))) →
∀ (aN : World) (m : Nat) (j : Nat) (p : Nat), New w m aN → New w j aN → New w p aN → m ≠ j → m ≠ p → j ≠ p → Chg [] w aN →
∃ (bB : Int → World → Prop) (b6 : Int → World → Nat),
bB 0 aN ∧
(∀ (ai : Int) (aO : World), bB ai aO →
∃ (a1 : Sl), (aO.cell? (d.add 6) = some (Sl.v a1)) ∧
((ai < (a1.n : Int)) →
∀ (aP : World), Chg [] aO aP →
∃ (a2 : Sl), (aP.cell? (d.add 6) = some (Sl.v a2)) ∧
∃ bC : Addr, (((0 : Int) ≤ ai ∧ ai < (a2.n : Int)) ∧ a2.a = some bC) ∧
∃ (a3 : Int) (a4 : Int) (a5 : Int) (a6 : Int), (Cells aP (bC.add (ai.toNat * 4)) [.int .i64 a3, .int .i64 a4, .int .i64 a5, .int .i64 a6]) ∧
((a3 = k ∧ a4 = g ∧ a5 = l ∧ a6 = f) →
∀ (am : World), Chg [] aP am →
∃ (a7 : Sl), (am.cell? (d.add 7) = some (Sl.v a7)) ∧
((0 : Int) ≤ ai ∧ ai < (a7.n : Int)) ∧ ∃ bD : Addr, a7.a = some bD ∧
∃ (bF : Int), (am.cell? (bD.add (ai.toNat * 1)) = some (.int .i64 bF)) ∧
R (.int .i64 bF) am) ∧
((¬ (a3 = k ∧ a4 = g ∧ a5 = l ∧ a6 = f)) →
(I64 (ai + 1)) ∧
∀ (am : World), Chg [] aP am →
bB (ai + 1) am ∧ b6 (ai + 1) am < b6 ai aO)) ∧
((¬ (ai < (a1.n : Int))) →
CallK Try.prog 87 #[.pointer (some d), .agg #[.int .i64 k, .int .i64 g], .agg #[.int .i64 l, .int .i64 f]] aO [m, j, p] (fun v aQ => ∃ (aC : Int) (aD : Int) (aG : Int) (aH : Int) (an : Int) (ao : Int) (ap : Int) (aq : Int), v = .tuple #[.agg #[.int .i64 aC, .int .i64 aD], .agg #[.int .i64 aG, .int .i64 aH], .agg #[.int .i64 an, .int .i64 ao], .agg #[.int .i64 ap, .int .i64 aq]] ∧
∀ (ar : World) (ad : Nat) (af : Nat) (z : Nat) (aa : Nat), New aQ ad ar → New aQ af ar → New aQ z ar → New aQ aa ar → ad ≠ af → ad ≠ z → ad ≠ aa → af ≠ z → af ≠ aa → z ≠ aa → Chg [] aQ ar →
CallK Try.prog 77 #[.pointer (some d), .agg #[.int .i64 aC, .int .i64 aD], .agg #[.int .i64 aG, .int .i64 aH]] ar [m, j, p, ad, af, z, aa] (fun v b7 => ∃ (o : Int), v = .int .i64 o ∧
CallK Try.prog 77 #[.pointer (some d), .agg #[.int .i64 an, .int .i64 ao], .agg #[.int .i64 ap, .int .i64 aq]] b7 [m, j, p, ad, af, z, aa] (fun v a8 => ∃ (q : Int), v = .int .i64 q ∧
(I64 (o + q)) ∧
∃ (r : Int), (∀ w' : World, Ext a8 w' → Calls Try.prog 88 #[.pointer (some d), .agg #[.int .i64 k, .int .i64 g], .agg #[.int .i64 l, .int .i64 f]] w' (Ret fun v w'' => Ext w' w'' ∧ v = .int .i64 r)) ∧
(I64 ((o + q) + r)) ∧
∀ (a9 : World), Chg [] a8 a9 →
(I64 (g - 1)) ∧
(I64 (f - 1)) ∧
CallK Try.prog 77 #[.pointer (some d), .agg #[.int .i64 k, .int .i64 (g - 1)], .agg #[.int .i64 l, .int .i64 f]] a9 [m, j, p] (fun v b8 => ∃ (x : Int), v = .int .i64 x ∧
(I64 (x + 1)) ∧
CallK Try.prog 77 #[.pointer (some d), .agg #[.int .i64 k, .int .i64 g], .agg #[.int .i64 l, .int .i64 (f - 1)]] b8 [m, j, p] (fun v bG => ∃ (y : Int), v = .int .i64 y ∧
(I64 (y + 1)) ∧
∀ (aZ : World), Chg [] bG aZ →
∀ (au : World), Chg [] aZ au →
∃ (aI : Sl), (au.cell? (d.add 6) = some (Sl.v aI)) ∧
∀ (aJ : World) (ah : Nat), Ext au aJ → au.heap.size ≤ ah → Box aJ ah 140 [.int .i64 k, .int .i64 g, .int .i64 l, .int .i64 f] → 
∀ (_ : Box aJ ah 140 [.int .i64 k, .int .i64 g, .int .i64 l, .int .i64 f]),
RunK Try.prog (Builtin.append_ #[125, 125] 125 #[Sl.v aI, Sl.v (Sl.mk (some ⟨ah, 0, none⟩) 1 1)]) aJ [p] (fun v bH => ∃ (aR : Sl), v = Sl.v aR ∧
∀ (aS : World), Chg [] bH aS →
∀ (aU : World), Chg [] aS aU →
∃ (aV ba : Nat) (bI : TypeId) (bb : List Value), (d.add 6) = ⟨aV, ba, none⟩ ∧ Box aU aV bI bb ∧ ba + 1 ≤ bb.length ∧ (∀ b ∈ [p], b ≠ aV) ∧
(∀ aK : World, Chg [aV] aU aK → Box aK aV bI (putAt bb ba [Sl.v aR]) →
∃ (bJ : Sl), (aK.cell? (d.add 7) = some (Sl.v bJ)) ∧
∀ (a0 : World) (bd : Nat), New aK bd a0 → Chg [] aK a0 →
∀ (_ : Box a0 bd 3 [.int .i64 (min (min ((o + q) + r) (x + 1)) (y + 1))]),
RunK Try.prog (Builtin.append_ #[22, 22] 22 #[Sl.v bJ, Sl.v (Sl.mk (some ⟨bd, 0, none⟩) 1 1)]) a0 [] (fun v bK => ∃ (bL : Sl), v = Sl.v bL ∧
∃ (aX bf : Nat) (bM : TypeId) (bg : List Value), (d.add 7) = ⟨aX, bf, none⟩ ∧ Box bK aX bM bg ∧ bf + 1 ≤ bg.length ∧ (∀ b ∈ [], b ≠ aX) ∧
(∀ bi : World, Chg [aX] bK bi → Box bi aX bM (putAt bg bf [Sl.v bL]) →
R (.int .i64 (min (min ((o + q) + r) (x + 1)) (y + 1))) bi))))))))))))
theorem ref20_Z_Distance.ok (d : Addr) (k : Int) (g : Int) (l : Int) (f : Int) {R : Value → World → Prop} {w : World} (cB : ref20_Z_Distance.vc d k g l f R w) : Calls Try.prog 77 #[.pointer (some d), .agg #[.int .i64 k, .int .i64 g], .agg #[.int .i64 l, .int .i64 f]] w (Ret R) := by
 refine go _ Try.func77 Try.ntmps77 cB ?_
 refine gS <| gR <| nb fun w5 m => ?_
 refine nb fun w7 j => ?_
 refine gN <| ge <| tn <| gS <| gS <| gR ?_
 refine gF 0 Try.underlying129 ti_3 ?_
 refine gB 1 tU3 ?_
 refine gF 1 Try.underlying129 ti_3 ?_
 refine gB 1 tU3 ?_
 refine g2 r_eql ?_
 refine gM ?_
 refine GF 0 Try.underlying129 ti_3 ?_
 refine GB 0 tU3 ?_
 refine GF 1 Try.underlying129 ti_3 ?_
 refine GB 0 tU3 ?_
 refine G2 r_eql ?_
 refine gpo <| ge <| tn ?_
 refine gi (fun h => ((oT h).imp (fun h => (dT h)) (fun h => (dT h)))) (fun h => ⟨(dF (oF h).1), (dF (oF h).2)⟩) ?_ ?_
 ·refine gS <| gR <| gF 1 Try.underlying129 ti_3 ?_
  refine gB 1 tU3 ?_
  refine gF 0 Try.underlying129 ti_3 ?_
  refine gB 1 tU3 ?_
  refine g2s r_subI ?_
  refine gF 1 Try.underlying129 ti_3 ?_
  refine gB 0 tU3 ?_
  refine g2s r_addI ?_
  refine gF 0 Try.underlying129 ti_3 ?_
  refine gB 0 tU3 ?_
  refine g2s r_subI ?_
  refine gN <| ge <| tn <| gr <| tr <| gT2 ?_
  exact gz1
 ·refine gk <| tn <| gS <| gR <| gF 0 Try.underlying129 ti_3 ?_
  refine gB 1 tU3 ?_
  refine gF 1 Try.underlying129 ti_3 ?_
  refine gB 1 tU3 ?_
  refine gF 0 Try.underlying129 ti_3 ?_
  refine gB 0 tU3 ?_
  refine gF 1 Try.underlying129 ti_3 ?_
  refine gB 0 tU3 ?_
  refine gv (fun _ _ s _ => r_buildA (cells := #[.int .i64 k, .int .i64 g, .int .i64 l, .int .i64 f]) (map_arr2 (ml2_cons (s.ag.opv rfl) (ml2_cons (s.ag.opv rfl) (ml2_cons (s.ag.opv rfl) (ml2_cons (s.ag.opv rfl) (ml2_nil)))))) ti_140 Try.underlying140 ti_3 (by kernel_rfl)) ?_
  refine na ti_140 fun h0 p => ?_
  refine wn 0 0 ti_140 fun aN => ge <| tn <| gS <| gS <| gR ?_
  refine gN <| ge <| tn <| gb <| gT3 <| gE fun _ => gE fun mu => ?_
  refine l1 mu (fun ai => [(8, .int .i64 ai)]) [(0, _), (4, _), (5, _), (7, _)] (fun _ => []) [(m, _, _), (j, _, _), (p, _, _)] [2, 1, 0] fun ai aO _ => gS <| gS <| gR ?_
  refine gM ?_
  refine gM ?_
  refine g1 r_nilCheck ?_
  refine gF 6 Try.underlying127 ti_125 ?_
  refine gE fun a1 => gL tU125 ?_
  refine g1 (fun bN => r_len bN tU125) ?_
  refine g2 r_lss <| ge <| tn ?_
  refine gi dT dF ?_ ?_
  ·refine gk <| tn <| gS <| gb <| gS <| gD fun aP => gT0 ?_
   refine gW 0 9 [] ?_
   refine gM ?_
   refine g1 r_nilCheck ?_
   refine gF 6 Try.underlying127 ti_125 ?_
   refine gE fun a2 => gL tU125 ?_
   refine gM ?_
   refine gI2 tU125 ti_140 fun bC => ?_
   refine gE fun a3 => gE fun a4 => gE fun a5 => gE fun a6 => gLN Try.underlying140 ti_140 ?_
   refine gBN 2 4 Try.underlying140 ti_140 ?_
   refine g2 (fun bN cC => r_aeql bN cC (eq_140 _ _ _ _ _ _ _ _)) <| geT fun am => ?_
   refine gZ <| tn ?_
   refine gi dT dF ?_ ?_
   ·refine gS <| gR <| gM ?_
    refine g1 r_nilCheck ?_
    refine gF 7 Try.underlying127 ti_22 <| gT0 ?_
    refine gE fun a7 => gL tU22 ?_
    refine gM ?_
    refine gI1 tU22 ti_3 fun bD => ?_
    refine gE fun bF => gL tU3 ?_
    refine gN <| ge <| tn <| gr <| br <| tr <| tr <| br <| tr ?_
    exact gz1
   ·refine gk <| bn <| tn <| gR <| gM ?_
    refine g2s r_addI ?_
    refine gN <| ge <| gT0 ?_
    exact k1 [0, 1, 2]
  ·refine gx <| te <| te <| bh <| tn <| gS <| gR <| gM ?_
   refine gBN 0 2 Try.underlying129 ti_129 ?_
   refine gBN 1 2 Try.underlying129 ti_129 ?_
   refine gC [0, 1, 2] Try.func87 fun _ aQ => gE fun aC => gE fun aD => gE fun aG => gE fun aH => gE fun an => gE fun ao => gE fun ap => gE fun aq => gQ ?_
   refine gM ?_
   refine gx1 ?_
   refine gx1 ?_
   refine gx1 ?_
   refine gx1 ?_
   refine na ti_129 fun h1 ad => ?_
   refine na ti_129 fun h2 af => ?_
   refine na ti_129 fun h3 z => ?_
   refine na ti_129 fun h4 aa => ?_
   refine wn 3 3 ti_129 fun h5 => ?_
   refine wn 2 2 ti_129 fun h6 => ?_
   refine wn 1 1 ti_129 fun h7 => ?_
   refine wn 0 0 ti_129 fun h8 => ge <| tn <| gS ?_
   intro h9 u cD
   have al := u.ag
   have cF := u.bx 4 rfl
   have cG := u.bx 5 rfl
   have cH := u.bx 6 rfl
   have cI := u.bx 3 rfl
   have cJ := u.bx 2 rfl
   have cK := u.bx 1 rfl
   have cL := u.bx 0 rfl
   have cM := u.chg
   have cN := u.new ad (by simp)
   have cO := u.new af (by simp)
   have cP := u.new z (by simp)
   have cQ := u.new aa (by simp)
   have cR : m ≠ j := u.ne 4 5
   have cS : m ≠ p := u.ne 4 6
   have cT : j ≠ p := u.ne 5 6
   have ia : m ≠ ad := u.ne 4 3
   have ib : j ≠ ad := u.ne 5 3
   have id : p ≠ ad := u.ne 6 3
   have ig : m ≠ af := u.ne 4 2
   have ih : j ≠ af := u.ne 5 2
   have ii : p ≠ af := u.ne 6 2
   have cU : ad ≠ af := u.ne 3 2
   have ij : m ≠ z := u.ne 4 1
   have ik : j ≠ z := u.ne 5 1
   have il : p ≠ z := u.ne 6 1
   have cX : ad ≠ z := u.ne 3 1
   have cY : af ≠ z := u.ne 2 1
   have im : m ≠ aa := u.ne 4 0
   have io : j ≠ aa := u.ne 5 0
   have ip : p ≠ aa := u.ne 6 0
   have cZ : ad ≠ aa := u.ne 3 0
   have c0 : af ≠ aa := u.ne 2 0
   have c1 : z ≠ aa := u.ne 1 0
   refine draw' (by kernel_rfl) fun ar aj => ?_
   have b9 := cF.ext aj
   have ca := cG.ext aj
   have c2 := cH.ext aj
   have cb := cI.ext aj
   have cc := cJ.ext aj
   have cd := cK.ext aj
   have cf := cL.ext aj
   have c3 := cM.more aj
   have c4 := cN.up aj.size
   have c5 := cO.up aj.size
   have c6 := cP.up aj.size
   have c7 := cQ.up aj.size
   have c8 := cD ar ad af z aa c4 c5 c6 c7 cU cX cZ cY c0 c1 c3
   refine startF (D := [[], [], [], [0, 1, 2], [], [], [], [0, 1, 2, 3, 4, 5, 6], [0, 1, 2, 3, 4, 5, 6, 7], [], [], [], [0, 1, 2, 3, 4, 5, 6, 7, 9, 10, 11], [0, 1, 2, 3, 4, 5, 6, 7, 8, 9, 10, 11, 12], [0, 1, 2, 3, 4, 5, 6, 7, 8, 9, 10, 11, 12, 13]]) (Fs := [0, 1, 2, 4, 5, 6, 9, 10, 11]) (Ef := [(0, fun v _ => v = .pointer (some d)), (1, fun v _ => v = .agg #[.int .i64 aC, .int .i64 aD]), (2, fun v _ => v = .agg #[.int .i64 aG, .int .i64 aH]), (4, fun v _ => v = .pointer (some d)), (5, fun v _ => v = .agg #[.int .i64 an, .int .i64 ao]), (6, fun v _ => v = .agg #[.int .i64 ap, .int .i64 aq]), (9, fun v _ => v = .pointer (some d)), (10, fun v _ => v = .agg #[.int .i64 k, .int .i64 g]), (11, fun v _ => v = .agg #[.int .i64 l, .int .i64 f])]) (by kernel_rfl) ?_
   refine oneF (c := 3) al rfl (by kernel_rfl) (constF ⟨fun _ _ _ h => h, fun _ _ _ h => h, fun _ _ _ h => h, fun _ _ _ h => h, fun _ _ _ h => h, fun _ _ _ h => h, fun _ _ _ h => h, fun _ _ _ h => h, fun _ _ _ h => h, trivial⟩) ⟨?_, ?_, ?_, ?_, ?_, ?_, ?_, ?_, ?_, trivial⟩ ?_
   ·intro a hT
    have hAp := hT.ag al [(0, .pointer (some d))] ⟨rfl, trivial⟩ (by kernel_rfl)
    exact opk_val hAp rfl (r_move (hAp.get rfl)) fun _ _ e => ⟨_, e, rfl, fun _ => Eq.refl _⟩
   ·intro a hT
    have hAp := hT.ag al [(9, pB ad 0)] ⟨rfl, trivial⟩ (by kernel_rfl)
    exact opk_val hAp rfl (r_loadN (cs := [.int .i64 aC, .int .i64 aD]) Try.underlying129 rfl ti_129 (hAp.get rfl) ((cb.ext hT.chg).part 0 _ rfl)) fun _ _ e => ⟨_, e, rfl, fun _ => Eq.refl _⟩
   ·intro a hT
    have hAp := hT.ag al [(10, pB af 0)] ⟨rfl, trivial⟩ (by kernel_rfl)
    exact opk_val hAp rfl (r_loadN (cs := [.int .i64 aG, .int .i64 aH]) Try.underlying129 rfl ti_129 (hAp.get rfl) ((cc.ext hT.chg).part 0 _ rfl)) fun _ _ e => ⟨_, e, rfl, fun _ => Eq.refl _⟩
   ·intro a hT
    have hAp := hT.ag al [(0, .pointer (some d))] ⟨rfl, trivial⟩ (by kernel_rfl)
    exact opk_val hAp rfl (r_move (hAp.get rfl)) fun _ _ e => ⟨_, e, rfl, fun _ => Eq.refl _⟩
   ·intro a hT
    have hAp := hT.ag al [(11, pB z 0)] ⟨rfl, trivial⟩ (by kernel_rfl)
    exact opk_val hAp rfl (r_loadN (cs := [.int .i64 an, .int .i64 ao]) Try.underlying129 rfl ti_129 (hAp.get rfl) ((cd.ext hT.chg).part 0 _ rfl)) fun _ _ e => ⟨_, e, rfl, fun _ => Eq.refl _⟩
   ·intro a hT
    have hAp := hT.ag al [(12, pB aa 0)] ⟨rfl, trivial⟩ (by kernel_rfl)
    exact opk_val hAp rfl (r_loadN (cs := [.int .i64 ap, .int .i64 aq]) Try.underlying129 rfl ti_129 (hAp.get rfl) ((cf.ext hT.chg).part 0 _ rfl)) fun _ _ e => ⟨_, e, rfl, fun _ => Eq.refl _⟩
   ·intro a hT
    have hAp := hT.ag al [(0, .pointer (some d))] ⟨rfl, trivial⟩ (by kernel_rfl)
    exact opk_val hAp rfl (r_move (hAp.get rfl)) fun _ _ e => ⟨_, e, rfl, fun _ => Eq.refl _⟩
   ·intro a hT
    have hAp := hT.ag al [(4, pB m 0)] ⟨rfl, trivial⟩ (by kernel_rfl)
    exact opk_val hAp rfl (r_loadN (cs := [.int .i64 k, .int .i64 g]) Try.underlying129 rfl ti_129 (hAp.get rfl) ((b9.ext hT.chg).part 0 _ rfl)) fun _ _ e => ⟨_, e, rfl, fun _ => Eq.refl _⟩
   ·intro a hT
    have hAp := hT.ag al [(5, pB j 0)] ⟨rfl, trivial⟩ (by kernel_rfl)
    exact opk_val hAp rfl (r_loadN (cs := [.int .i64 l, .int .i64 f]) Try.underlying129 rfl ti_129 (hAp.get rfl) ((ca.ext hT.chg).part 0 _ rfl)) fun _ _ e => ⟨_, e, rfl, fun _ => Eq.refl _⟩
   ·intro bO hT
    have c9 := hT.ag al [(0, .pointer (some d)), (4, pB m 0), (5, pB j 0), (7, pB p 0), (9, pB ad 0), (10, pB af 0), (11, pB z 0), (12, pB aa 0)] ⟨rfl, rfl, rfl, rfl, rfl, rfl, rfl, rfl, trivial⟩ (by kernel_rfl)
    have da : bO.tmps.getD 80 undef = .pointer (some d) := hT.vals 0 rfl 80 rfl
    have db := c9.add da
    have dc : bO.tmps.getD 81 undef = .agg #[.int .i64 aC, .int .i64 aD] := hT.vals 1 rfl 81 rfl
    have dd := db.add dc
    have df : bO.tmps.getD 82 undef = .agg #[.int .i64 aG, .int .i64 aH] := hT.vals 2 rfl 82 rfl
    have bj := dd.add df
    refine (opk_call bj rfl (r_call (args := #[.pointer (some d), .agg #[.int .i64 aC, .int .i64 aD], .agg #[.int .i64 aG, .int .i64 aH]]) Try.func77 (by decide) rfl (map_arr (ml_cons (bj.get rfl) (ml_cons (bj.get rfl) (ml_cons (bj.get rfl) ml_nil)))) rfl) c8 fun iq ir b7 dg dh aL it di => ?_)
    refine ⟨_, dh, ?_⟩
    obtain ⟨o, rfl, dj⟩ := di
    have cg := b9.kept aL (.head _)
    have ch := ca.kept aL (.tail _ (.head _))
    have dk := c2.kept aL (.tail _ (.tail _ (.head _)))
    have dl := cb.kept aL (.tail _ (.tail _ (.tail _ (.head _))))
    have dm := cc.kept aL (.tail _ (.tail _ (.tail _ (.tail _ (.head _)))))
    have ci := cd.kept aL (.tail _ (.tail _ (.tail _ (.tail _ (.tail _ (.head _))))))
    have cj := cf.kept aL (.tail _ (.tail _ (.tail _ (.tail _ (.tail _ (.tail _ (.head _)))))))
    refine PRF_drop (X := [0, 1, 2]) (Fs' := [4, 5, 6, 9, 10, 11]) dg (by kernel_rfl) fun iu dn iv => ?_
    have av := dn [(0, .pointer (some d)), (4, pB m 0), (5, pB j 0), (7, pB p 0), (11, pB z 0), (12, pB aa 0), (83, .int .i64 o)] ⟨rfl, rfl, rfl, rfl, rfl, rfl, rfl, trivial⟩ (by kernel_rfl)
    refine oneF (c := 7) av rfl (by kernel_rfl) (constF ⟨fun _ _ _ h => h, fun _ _ _ h => h, fun _ _ _ h => h, fun _ _ _ h => h, fun _ _ _ h => h, fun _ _ _ h => h, trivial⟩) ⟨?_, ?_, ?_, ?_, ?_, ?_, trivial⟩ ?_
    ·intro a hT
     have hAp := hT.ag av [(0, .pointer (some d))] ⟨rfl, trivial⟩ (by kernel_rfl)
     exact opk_val hAp rfl (r_move (hAp.get rfl)) fun _ _ e => ⟨_, e, rfl, fun _ => Eq.refl _⟩
    ·intro a hT
     have hAp := hT.ag av [(11, pB z 0)] ⟨rfl, trivial⟩ (by kernel_rfl)
     exact opk_val hAp rfl (r_loadN (cs := [.int .i64 an, .int .i64 ao]) Try.underlying129 rfl ti_129 (hAp.get rfl) ((ci.ext hT.chg).part 0 _ rfl)) fun _ _ e => ⟨_, e, rfl, fun _ => Eq.refl _⟩
    ·intro a hT
     have hAp := hT.ag av [(12, pB aa 0)] ⟨rfl, trivial⟩ (by kernel_rfl)
     exact opk_val hAp rfl (r_loadN (cs := [.int .i64 ap, .int .i64 aq]) Try.underlying129 rfl ti_129 (hAp.get rfl) ((cj.ext hT.chg).part 0 _ rfl)) fun _ _ e => ⟨_, e, rfl, fun _ => Eq.refl _⟩
    ·intro a hT
     have hAp := hT.ag av [(0, .pointer (some d))] ⟨rfl, trivial⟩ (by kernel_rfl)
     exact opk_val hAp rfl (r_move (hAp.get rfl)) fun _ _ e => ⟨_, e, rfl, fun _ => Eq.refl _⟩
    ·intro a hT
     have hAp := hT.ag av [(4, pB m 0)] ⟨rfl, trivial⟩ (by kernel_rfl)
     exact opk_val hAp rfl (r_loadN (cs := [.int .i64 k, .int .i64 g]) Try.underlying129 rfl ti_129 (hAp.get rfl) ((cg.ext hT.chg).part 0 _ rfl)) fun _ _ e => ⟨_, e, rfl, fun _ => Eq.refl _⟩
    ·intro a hT
     have hAp := hT.ag av [(5, pB j 0)] ⟨rfl, trivial⟩ (by kernel_rfl)
     exact opk_val hAp rfl (r_loadN (cs := [.int .i64 l, .int .i64 f]) Try.underlying129 rfl ti_129 (hAp.get rfl) ((ch.ext hT.chg).part 0 _ rfl)) fun _ _ e => ⟨_, e, rfl, fun _ => Eq.refl _⟩
    ·intro bP hT
     have dp := hT.ag av [(0, .pointer (some d)), (4, pB m 0), (5, pB j 0), (7, pB p 0), (11, pB z 0), (12, pB aa 0), (83, .int .i64 o)] ⟨rfl, rfl, rfl, rfl, rfl, rfl, rfl, trivial⟩ (by kernel_rfl)
     have dq : bP.tmps.getD 84 undef = .pointer (some d) := hT.vals 4 rfl 84 rfl
     have dr := dp.add dq
     have ds : bP.tmps.getD 85 undef = .agg #[.int .i64 an, .int .i64 ao] := hT.vals 5 rfl 85 rfl
     have dt := dr.add ds
     have du : bP.tmps.getD 86 undef = .agg #[.int .i64 ap, .int .i64 aq] := hT.vals 6 rfl 86 rfl
     have bk := dt.add du
     refine (opk_call bk rfl (r_call (args := #[.pointer (some d), .agg #[.int .i64 an, .int .i64 ao], .agg #[.int .i64 ap, .int .i64 aq]]) Try.func77 (by decide) rfl (map_arr (ml_cons (bk.get rfl) (ml_cons (bk.get rfl) (ml_cons (bk.get rfl) ml_nil)))) rfl) dj fun ix iy a8 dv dx aM iz dy => ?_)
     refine ⟨_, dx, ?_⟩
     obtain ⟨q, rfl, dz⟩ := dy
     have ck := cg.kept aM (.head _)
     have cl := ch.kept aM (.tail _ (.head _))
     have dA := dk.kept aM (.tail _ (.tail _ (.head _)))
     have dB := dl.kept aM (.tail _ (.tail _ (.tail _ (.head _))))
     have dC := dm.kept aM (.tail _ (.tail _ (.tail _ (.tail _ (.head _)))))
     have dD := ci.kept aM (.tail _ (.tail _ (.tail _ (.tail _ (.tail _ (.head _))))))
     have dG := cj.kept aM (.tail _ (.tail _ (.tail _ (.tail _ (.tail _ (.tail _ (.head _)))))))
     refine PRF_drop (X := [4, 5, 6]) (Fs' := [9, 10, 11]) dv (by kernel_rfl) fun iA dH iB => ?_
     have ax := dH [(0, .pointer (some d)), (4, pB m 0), (5, pB j 0), (7, pB p 0), (83, .int .i64 o), (87, .int .i64 q)] ⟨rfl, rfl, rfl, rfl, rfl, rfl, trivial⟩ (by kernel_rfl)
     obtain ⟨dI, dJ⟩ := dz
     obtain ⟨r, dK, dL⟩ := dJ
     obtain ⟨dM, dN⟩ := dL
     refine parF (D := [[], [], [], [0, 1, 2], [], [], [], [0, 1, 2, 3, 4, 5, 6], [0, 1, 2, 3, 4, 5, 6, 7], [], [], [], [0, 1, 2, 3, 4, 5, 6, 7, 9, 10, 11], [0, 1, 2, 3, 4, 5, 6, 7, 8, 9, 10, 11, 12], [0, 1, 2, 3, 4, 5, 6, 7, 8, 9, 10, 11, 12, 13]]) (S := [8, 12, 13, 14]) (F := []) (KE := [8, 12, 13, 14]) (E := [(8, fun v _ => v = .int .i64 (o + q)), (12, fun v _ => v = .int .i64 r), (13, fun v _ => v = .int .i64 ((o + q) + r)), (14, fun v _ => v = .int .i64 ((o + q) + r))]) ax rfl (by kernel_rfl) ⟨fun _ _ _ _ h => h, fun _ _ _ _ h => h, fun _ _ _ _ h => h, fun _ _ _ _ h => h, fun _ _ _ _ h => h, fun _ _ _ _ h => h, fun _ _ _ _ h => h, trivial⟩ ⟨?_, ?_, ?_, ?_, ?_, ?_, ?_, trivial⟩ ?_
     ·intro a w hT
      have hAp := hT.ag ax [(83, .int .i64 o), (87, .int .i64 q)] ⟨rfl, rfl, trivial⟩ (by kernel_rfl)
      exact ovr hAp rfl (r_addI (hAp.get rfl) (hAp.get rfl) dI) fun _ => Eq.refl _
     ·intro a w hT
      have hAp := hT.ag ax [] trivial (by kernel_rfl)
      have hAp := hAp.add (t := 89) (v := .pointer (some d)) (hT.vals 9 rfl 89 rfl)
      have hAp := hAp.add (t := 90) (v := .agg #[.int .i64 k, .int .i64 g]) (hT.vals 10 rfl 90 rfl)
      have hAp := hAp.add (t := 91) (v := .agg #[.int .i64 l, .int .i64 f]) (hT.vals 11 rfl 91 rfl)
      exact opk_callX hAp rfl (r_call (args := #[.pointer (some d), .agg #[.int .i64 k, .int .i64 g], .agg #[.int .i64 l, .int .i64 f]]) Try.func88 (by decide) rfl (map_arr (ml_cons (hAp.get rfl) (ml_cons (hAp.get rfl) (ml_cons (hAp.get rfl) ml_nil)))) rfl) (dK w hT.chg) fun _ _ _ _ e hR => ⟨_, e, hR.1, fun _ => hR.2⟩
     ·intro a w hT
      have hAp := hT.ag ax [] trivial (by kernel_rfl)
      have hAp := hAp.add (t := 88) (v := .int .i64 (o + q)) (hT.vals 8 rfl 88 rfl)
      have hAp := hAp.add (t := 92) (v := .int .i64 r) (hT.vals 12 rfl 92 rfl)
      exact ovr hAp rfl (r_addI (hAp.get rfl) (hAp.get rfl) dM) fun _ => Eq.refl _
     ·intro a w hT
      have hAp := hT.ag ax [] trivial (by kernel_rfl)
      have hAp := hAp.add (t := 93) (v := .int .i64 ((o + q) + r)) (hT.vals 13 rfl 93 rfl)
      exact ovr hAp rfl (r_assign (hAp.get rfl)) fun _ => Eq.refl _
     ·intro a w hT
      have hAp := hT.ag ax [(0, .pointer (some d))] ⟨rfl, trivial⟩ (by kernel_rfl)
      exact ovr hAp rfl (r_move (hAp.get rfl)) fun _ => Eq.refl _
     ·intro a w hT
      have hAp := hT.ag ax [(4, pB m 0)] ⟨rfl, trivial⟩ (by kernel_rfl)
      exact ovr hAp rfl (r_loadN (cs := [.int .i64 k, .int .i64 g]) Try.underlying129 rfl ti_129 (hAp.get rfl) ((ck.ext hT.chg).part 0 _ rfl)) fun _ => Eq.refl _
     ·intro a w hT
      have hAp := hT.ag ax [(5, pB j 0)] ⟨rfl, trivial⟩ (by kernel_rfl)
      exact ovr hAp rfl (r_loadN (cs := [.int .i64 l, .int .i64 f]) Try.underlying129 rfl ti_129 (hAp.get rfl) ((cl.ext hT.chg).part 0 _ rfl)) fun _ => Eq.refl _
     ·intro dO dP ay dQ dR
      have dS := dQ [(0, .pointer (some d)), (4, pB m 0), (5, pB j 0), (7, pB p 0)] ⟨rfl, rfl, rfl, rfl, trivial⟩ (by kernel_rfl)
      have dU : dO.tmps.getD 13 undef = .int .i64 ((o + q) + r) := dR 14 rfl 13 rfl
      have dV := dS.add dU
      have dX := ck.ext ay
      have dY := cl.ext ay
      have dZ := dA.ext ay
      have d0 := dB.ext ay
      have d1 := dC.ext ay
      have d2 := dD.ext ay
      have d3 := dG.ext ay
      have d4 : Chg [] a8 dP := ay
      refine PRF_drop (X := [9, 10, 11]) (Fs' := []) dV (by kernel_rfl) fun iC d5 iD => ?_
      have d6 := d5 [(0, .pointer (some d)), (4, pB m 0), (5, pB j 0), (7, pB p 0), (13, .int .i64 ((o + q) + r))] ⟨rfl, rfl, rfl, rfl, rfl, trivial⟩ (by kernel_rfl)
      refine joinF d6 (by kernel_rfl) trivial trivial ?_
      ·intro iF iG az d7 iH
       have d8 := d7 [(0, .pointer (some d)), (4, pB m 0), (5, pB j 0), (7, pB p 0), (13, .int .i64 ((o + q) + r))] ⟨rfl, rfl, rfl, rfl, rfl, trivial⟩ (by kernel_rfl)
       have d9 := dX.ext az
       have fa := dY.ext az
       have fb := dZ.ext az
       have iI := d0.ext az
       have iJ := d1.ext az
       have iK := d2.ext az
       have iL := d3.ext az
       have fc := d4.more az
       refine PR_end (by kernel_rfl) ?_
       have fd := d8.kp [(0, .pointer (some d)), (4, pB m 0), (5, pB j 0), (7, pB p 0), (13, .int .i64 ((o + q) + r))] rfl
       refine gK (bs := [(p, 140, [.int .i64 k, .int .i64 g, .int .i64 l, .int .i64 f]), (j, 129, [.int .i64 l, .int .i64 f]), (m, 129, [.int .i64 k, .int .i64 g])]) (N := []) fd fc ⟨fb, fa, d9, trivial⟩ (by simp [(Ne.symm cT), (Ne.symm cS), (Ne.symm cR)]) trivial (by simp) dN ?_
       refine tn <| gS ?_
       intro iM aA ff
       have ab := aA.ag
       have fg := aA.bx 2 rfl
       have fh := aA.bx 1 rfl
       have fi := aA.bx 0 rfl
       have fj := aA.chg
       have iN : m ≠ j := aA.ne 2 1
       have iO : m ≠ p := aA.ne 2 0
       have iP : j ≠ p := aA.ne 1 0
       refine draw' (by kernel_rfl) fun a9 bl => ?_
       have bo := fg.ext bl
       have bp := fh.ext bl
       have fk := fi.ext bl
       have fl := fj.more bl
       have fm := ff a9    fl
       obtain ⟨fn, fo⟩ := fm
       obtain ⟨cm, fp⟩ := fo
       refine startF (D := [[], [], [], [2], [], [4], [4, 5], [2, 3, 4, 5, 6], [], [1, 2, 3, 4, 5, 6, 7, 8], [1, 2, 3, 4, 5, 6, 7, 8, 9], [], [], [], [13], [], [15], [15, 16], [13, 14, 15, 16, 17], [1, 2, 3, 4, 5, 6, 7, 8, 9, 11, 12, 13, 14, 15, 16, 17, 18], [1, 2, 3, 4, 5, 6, 7, 8, 9, 11, 12, 13, 14, 15, 16, 17, 18, 19], [0, 1, 2, 3, 4, 5, 6, 7, 8, 9, 10, 11, 12, 13, 14, 15, 16, 17, 18, 19, 20], [0, 1, 2, 3, 4, 5, 6, 7, 8, 9, 10, 11, 12, 13, 14, 15, 16, 17, 18, 19, 20, 21]]) (Fs := [0, 1, 2, 3, 4, 5, 6, 7, 8, 11, 12, 13, 14, 15, 16, 17, 18]) (Ef := [(0, fun v _ => v = .int .i64 ((o + q) + r)), (1, fun v _ => v = .pointer (some d)), (2, fun v _ => v = pB m 0), (3, fun v _ => v = .int .i64 k), (4, fun v _ => v = pB m 1), (5, fun v _ => v = .int .i64 g), (6, fun v _ => v = .int .i64 (g - 1)), (7, fun v _ => v = .agg #[.int .i64 k, .int .i64 (g - 1)]), (8, fun v _ => v = .agg #[.int .i64 l, .int .i64 f]), (11, fun v _ => v = .pointer (some d)), (12, fun v _ => v = .agg #[.int .i64 k, .int .i64 g]), (13, fun v _ => v = pB j 0), (14, fun v _ => v = .int .i64 l), (15, fun v _ => v = pB j 1), (16, fun v _ => v = .int .i64 f), (17, fun v _ => v = .int .i64 (f - 1)), (18, fun v _ => v = .agg #[.int .i64 l, .int .i64 (f - 1)])]) (by kernel_rfl) ?_
       refine oneF (c := 9) ab rfl (by kernel_rfl) (constF ⟨fun _ _ _ h => h, fun _ _ _ h => h, fun _ _ _ h => h, fun _ _ _ h => h, fun _ _ _ h => h, fun _ _ _ h => h, fun _ _ _ h => h, fun _ _ _ h => h, fun _ _ _ h => h, fun _ _ _ h => h, fun _ _ _ h => h, fun _ _ _ h => h, fun _ _ _ h => h, fun _ _ _ h => h, fun _ _ _ h => h, fun _ _ _ h => h, fun _ _ _ h => h, trivial⟩) ⟨?_, ?_, ?_, ?_, ?_, ?_, ?_, ?_, ?_, ?_, ?_, ?_, ?_, ?_, ?_, ?_, ?_, trivial⟩ ?_
       ·intro a hT
        have hAp := hT.ag ab [(13, .int .i64 ((o + q) + r))] ⟨rfl, trivial⟩ (by kernel_rfl)
        exact opk_val hAp rfl (r_move (hAp.get rfl)) fun _ _ e => ⟨_, e, rfl, fun _ => Eq.refl _⟩
       ·intro a hT
        have hAp := hT.ag ab [(0, .pointer (some d))] ⟨rfl, trivial⟩ (by kernel_rfl)
        exact opk_val hAp rfl (r_move (hAp.get rfl)) fun _ _ e => ⟨_, e, rfl, fun _ => Eq.refl _⟩
       ·intro a hT
        have hAp := hT.ag ab [(4, pB m 0)] ⟨rfl, trivial⟩ (by kernel_rfl)
        exact opk_val hAp rfl (r_fieldAddr (hAp.get rfl) Try.underlying129 rfl ti_3 (by decide)) fun _ _ e => ⟨_, e, rfl, fun _ => Eq.refl _⟩
       ·intro a hT
        have hAp := hT.ag ab [] trivial (by kernel_rfl)
        have hAp := hAp.add (t := 96) (v := pB m 0) (hT.vals 2 rfl 96 rfl)
        exact opk_val hAp rfl (r_load1 tU3 rfl (hAp.get rfl) ((bo.ext hT.chg).cell 0 _ rfl)) fun _ _ e => ⟨_, e, rfl, fun _ => Eq.refl _⟩
       ·intro a hT
        have hAp := hT.ag ab [(4, pB m 0)] ⟨rfl, trivial⟩ (by kernel_rfl)
        exact opk_val hAp rfl (r_fieldAddr (hAp.get rfl) Try.underlying129 rfl ti_3 (by decide)) fun _ _ e => ⟨_, e, rfl, fun _ => Eq.refl _⟩
       ·intro a hT
        have hAp := hT.ag ab [] trivial (by kernel_rfl)
        have hAp := hAp.add (t := 98) (v := pB m 1) (hT.vals 4 rfl 98 rfl)
        exact opk_val hAp rfl (r_load1 tU3 rfl (hAp.get rfl) ((bo.ext hT.chg).cell 1 _ rfl)) fun _ _ e => ⟨_, e, rfl, fun _ => Eq.refl _⟩
       ·intro a hT
        have hAp := hT.ag ab [] trivial (by kernel_rfl)
        have hAp := hAp.add (t := 99) (v := .int .i64 g) (hT.vals 5 rfl 99 rfl)
        exact opk_val hAp rfl (r_subI (hAp.get rfl) rfl fn) fun _ _ e => ⟨_, e, rfl, fun _ => Eq.refl _⟩
       ·intro a hT
        have hAp := hT.ag ab [] trivial (by kernel_rfl)
        have hAp := hAp.add (t := 97) (v := .int .i64 k) (hT.vals 3 rfl 97 rfl)
        have hAp := hAp.add (t := 100) (v := .int .i64 (g - 1)) (hT.vals 6 rfl 100 rfl)
        exact opk_val hAp rfl (r_build (vs := #[(0, .int .i64 k), (1, .int .i64 (g - 1))]) (cells := #[.int .i64 k, .int .i64 (g - 1)]) (map_arr2 (ml2_cons (hAp.get rfl) (ml2_cons (hAp.get rfl) (ml2_nil)))) ti_129 Try.underlying129 pl_129 (by kernel_rfl)) fun _ _ e => ⟨_, e, rfl, fun _ => Eq.refl _⟩
       ·intro a hT
        have hAp := hT.ag ab [(5, pB j 0)] ⟨rfl, trivial⟩ (by kernel_rfl)
        exact opk_val hAp rfl (r_loadN (cs := [.int .i64 l, .int .i64 f]) Try.underlying129 rfl ti_129 (hAp.get rfl) ((bp.ext hT.chg).part 0 _ rfl)) fun _ _ e => ⟨_, e, rfl, fun _ => Eq.refl _⟩
       ·intro a hT
        have hAp := hT.ag ab [(0, .pointer (some d))] ⟨rfl, trivial⟩ (by kernel_rfl)
        exact opk_val hAp rfl (r_move (hAp.get rfl)) fun _ _ e => ⟨_, e, rfl, fun _ => Eq.refl _⟩
       ·intro a hT
        have hAp := hT.ag ab [(4, pB m 0)] ⟨rfl, trivial⟩ (by kernel_rfl)
        exact opk_val hAp rfl (r_loadN (cs := [.int .i64 k, .int .i64 g]) Try.underlying129 rfl ti_129 (hAp.get rfl) ((bo.ext hT.chg).part 0 _ rfl)) fun _ _ e => ⟨_, e, rfl, fun _ => Eq.refl _⟩
       ·intro a hT
        have hAp := hT.ag ab [(5, pB j 0)] ⟨rfl, trivial⟩ (by kernel_rfl)
        exact opk_val hAp rfl (r_fieldAddr (hAp.get rfl) Try.underlying129 rfl ti_3 (by decide)) fun _ _ e => ⟨_, e, rfl, fun _ => Eq.refl _⟩
       ·intro a hT
        have hAp := hT.ag ab [] trivial (by kernel_rfl)
        have hAp := hAp.add (t := 107) (v := pB j 0) (hT.vals 13 rfl 107 rfl)
        exact opk_val hAp rfl (r_load1 tU3 rfl (hAp.get rfl) ((bp.ext hT.chg).cell 0 _ rfl)) fun _ _ e => ⟨_, e, rfl, fun _ => Eq.refl _⟩
       ·intro a hT
        have hAp := hT.ag ab [(5, pB j 0)] ⟨rfl, trivial⟩ (by kernel_rfl)
        exact opk_val hAp rfl (r_fieldAddr (hAp.get rfl) Try.underlying129 rfl ti_3 (by decide)) fun _ _ e => ⟨_, e, rfl, fun _ => Eq.refl _⟩
       ·intro a hT
        have hAp := hT.ag ab [] trivial (by kernel_rfl)
        have hAp := hAp.add (t := 109) (v := pB j 1) (hT.vals 15 rfl 109 rfl)
        exact opk_val hAp rfl (r_load1 tU3 rfl (hAp.get rfl) ((bp.ext hT.chg).cell 1 _ rfl)) fun _ _ e => ⟨_, e, rfl, fun _ => Eq.refl _⟩
       ·intro a hT
        have hAp := hT.ag ab [] trivial (by kernel_rfl)
        have hAp := hAp.add (t := 110) (v := .int .i64 f) (hT.vals 16 rfl 110 rfl)
        exact opk_val hAp rfl (r_subI (hAp.get rfl) rfl cm) fun _ _ e => ⟨_, e, rfl, fun _ => Eq.refl _⟩
       ·intro a hT
        have hAp := hT.ag ab [] trivial (by kernel_rfl)
        have hAp := hAp.add (t := 108) (v := .int .i64 l) (hT.vals 14 rfl 108 rfl)
        have hAp := hAp.add (t := 111) (v := .int .i64 (f - 1)) (hT.vals 17 rfl 111 rfl)
        exact opk_val hAp rfl (r_build (vs := #[(0, .int .i64 l), (1, .int .i64 (f - 1))]) (cells := #[.int .i64 l, .int .i64 (f - 1)]) (map_arr2 (ml2_cons (hAp.get rfl) (ml2_cons (hAp.get rfl) (ml2_nil)))) ti_129 Try.underlying129 pl_129 (by kernel_rfl)) fun _ _ e => ⟨_, e, rfl, fun _ => Eq.refl _⟩
       ·intro bQ hT
        have fq := hT.ag ab [(0, .pointer (some d)), (4, pB m 0), (5, pB j 0), (7, pB p 0), (13, .int .i64 ((o + q) + r))] ⟨rfl, rfl, rfl, rfl, rfl, trivial⟩ (by kernel_rfl)
        have fr : bQ.tmps.getD 95 undef = .pointer (some d) := hT.vals 1 rfl 95 rfl
        have fs := fq.add fr
        have ft : bQ.tmps.getD 101 undef = .agg #[.int .i64 k, .int .i64 (g - 1)] := hT.vals 7 rfl 101 rfl
        have fu := fs.add ft
        have fv : bQ.tmps.getD 102 undef = .agg #[.int .i64 l, .int .i64 f] := hT.vals 8 rfl 102 rfl
        have bq := fu.add fv
        refine (opk_call bq rfl (r_call (args := #[.pointer (some d), .agg #[.int .i64 k, .int .i64 (g - 1)], .agg #[.int .i64 l, .int .i64 f]]) Try.func77 (by decide) rfl (map_arr (ml_cons (bq.get rfl) (ml_cons (bq.get rfl) (ml_cons (bq.get rfl) ml_nil)))) rfl) fp fun iQ iR b8 fx fy bR iS fz => ?_)
        refine ⟨_, fy, ?_⟩
        obtain ⟨x, rfl, fA⟩ := fz
        have cn := bo.kept bR (.head _)
        have bS := bp.kept bR (.tail _ (.head _))
        have fB := fk.kept bR (.tail _ (.tail _ (.head _)))
        refine PRF_drop (X := [1, 2, 3, 4, 5, 6, 7, 8]) (Fs' := [0, 11, 12, 13, 14, 15, 16, 17, 18]) fx (by kernel_rfl) fun iT fC iU => ?_
        have ak := fC [(0, .pointer (some d)), (4, pB m 0), (5, pB j 0), (7, pB p 0), (13, .int .i64 ((o + q) + r)), (103, .int .i64 x)] ⟨rfl, rfl, rfl, rfl, rfl, rfl, trivial⟩ (by kernel_rfl)
        obtain ⟨bT, fD⟩ := fA
        refine PRF_more (Fs' := [10]) (En := [(10, fun v _ => v = .int .i64 (x + 1))]) (by kernel_rfl) ?_
        refine oneF (c := 19) ak rfl (by kernel_rfl) (constF ⟨fun _ _ _ h => h, fun _ _ _ h => h, fun _ _ _ h => h, fun _ _ _ h => h, fun _ _ _ h => h, fun _ _ _ h => h, fun _ _ _ h => h, fun _ _ _ h => h, fun _ _ _ h => h, fun _ _ _ h => h, trivial⟩) ⟨?_, ?_, ?_, ?_, ?_, ?_, ?_, ?_, ?_, ?_, trivial⟩ ?_
        ·intro a hT
         have hAp := hT.ag ak [(13, .int .i64 ((o + q) + r))] ⟨rfl, trivial⟩ (by kernel_rfl)
         exact opk_val hAp rfl (r_move (hAp.get rfl)) fun _ _ e => ⟨_, e, rfl, fun _ => Eq.refl _⟩
        ·intro a hT
         have hAp := hT.ag ak [(0, .pointer (some d))] ⟨rfl, trivial⟩ (by kernel_rfl)
         exact opk_val hAp rfl (r_move (hAp.get rfl)) fun _ _ e => ⟨_, e, rfl, fun _ => Eq.refl _⟩
        ·intro a hT
         have hAp := hT.ag ak [(4, pB m 0)] ⟨rfl, trivial⟩ (by kernel_rfl)
         exact opk_val hAp rfl (r_loadN (cs := [.int .i64 k, .int .i64 g]) Try.underlying129 rfl ti_129 (hAp.get rfl) ((cn.ext hT.chg).part 0 _ rfl)) fun _ _ e => ⟨_, e, rfl, fun _ => Eq.refl _⟩
        ·intro a hT
         have hAp := hT.ag ak [(5, pB j 0)] ⟨rfl, trivial⟩ (by kernel_rfl)
         exact opk_val hAp rfl (r_fieldAddr (hAp.get rfl) Try.underlying129 rfl ti_3 (by decide)) fun _ _ e => ⟨_, e, rfl, fun _ => Eq.refl _⟩
        ·intro a hT
         have hAp := hT.ag ak [] trivial (by kernel_rfl)
         have hAp := hAp.add (t := 107) (v := pB j 0) (hT.vals 13 rfl 107 rfl)
         exact opk_val hAp rfl (r_load1 tU3 rfl (hAp.get rfl) ((bS.ext hT.chg).cell 0 _ rfl)) fun _ _ e => ⟨_, e, rfl, fun _ => Eq.refl _⟩
        ·intro a hT
         have hAp := hT.ag ak [(5, pB j 0)] ⟨rfl, trivial⟩ (by kernel_rfl)
         exact opk_val hAp rfl (r_fieldAddr (hAp.get rfl) Try.underlying129 rfl ti_3 (by decide)) fun _ _ e => ⟨_, e, rfl, fun _ => Eq.refl _⟩
        ·intro a hT
         have hAp := hT.ag ak [] trivial (by kernel_rfl)
         have hAp := hAp.add (t := 109) (v := pB j 1) (hT.vals 15 rfl 109 rfl)
         exact opk_val hAp rfl (r_load1 tU3 rfl (hAp.get rfl) ((bS.ext hT.chg).cell 1 _ rfl)) fun _ _ e => ⟨_, e, rfl, fun _ => Eq.refl _⟩
        ·intro a hT
         have hAp := hT.ag ak [] trivial (by kernel_rfl)
         have hAp := hAp.add (t := 110) (v := .int .i64 f) (hT.vals 16 rfl 110 rfl)
         exact opk_val hAp rfl (r_subI (hAp.get rfl) rfl cm) fun _ _ e => ⟨_, e, rfl, fun _ => Eq.refl _⟩
        ·intro a hT
         have hAp := hT.ag ak [] trivial (by kernel_rfl)
         have hAp := hAp.add (t := 108) (v := .int .i64 l) (hT.vals 14 rfl 108 rfl)
         have hAp := hAp.add (t := 111) (v := .int .i64 (f - 1)) (hT.vals 17 rfl 111 rfl)
         exact opk_val hAp rfl (r_build (vs := #[(0, .int .i64 l), (1, .int .i64 (f - 1))]) (cells := #[.int .i64 l, .int .i64 (f - 1)]) (map_arr2 (ml2_cons (hAp.get rfl) (ml2_cons (hAp.get rfl) (ml2_nil)))) ti_129 Try.underlying129 pl_129 (by kernel_rfl)) fun _ _ e => ⟨_, e, rfl, fun _ => Eq.refl _⟩
        ·intro a hT
         have hAp := hT.ag ak [(103, .int .i64 x)] ⟨rfl, trivial⟩ (by kernel_rfl)
         exact opk_val hAp rfl (r_addI (hAp.get rfl) rfl bT) fun _ _ e => ⟨_, e, rfl, fun _ => Eq.refl _⟩
        ·intro bU hT
         have fF := hT.ag ak [(0, .pointer (some d)), (4, pB m 0), (5, pB j 0), (7, pB p 0), (13, .int .i64 ((o + q) + r)), (103, .int .i64 x)] ⟨rfl, rfl, rfl, rfl, rfl, rfl, trivial⟩ (by kernel_rfl)
         have fG : bU.tmps.getD 105 undef = .pointer (some d) := hT.vals 11 rfl 105 rfl
         have fH := fF.add fG
         have fI : bU.tmps.getD 106 undef = .agg #[.int .i64 k, .int .i64 g] := hT.vals 12 rfl 106 rfl
         have fJ := fH.add fI
         have fK : bU.tmps.getD 112 undef = .agg #[.int .i64 l, .int .i64 (f - 1)] := hT.vals 18 rfl 112 rfl
         have bt := fJ.add fK
         refine (opk_call bt rfl (r_call (args := #[.pointer (some d), .agg #[.int .i64 k, .int .i64 g], .agg #[.int .i64 l, .int .i64 (f - 1)]]) Try.func77 (by decide) rfl (map_arr (ml_cons (bt.get rfl) (ml_cons (bt.get rfl) (ml_cons (bt.get rfl) ml_nil)))) rfl) fD fun iV iX bG fL fM bV iY fN => ?_)
         refine ⟨_, fM, ?_⟩
         obtain ⟨y, rfl, fO⟩ := fN
         have fP := cn.kept bV (.head _)
         have fQ := bS.kept bV (.tail _ (.head _))
         have fR := fB.kept bV (.tail _ (.tail _ (.head _)))
         refine PRF_drop (X := [11, 12, 13, 14, 15, 16, 17, 18]) (Fs' := [0, 10]) fL (by kernel_rfl) fun iZ fS i0 => ?_
         have bu := fS [(0, .pointer (some d)), (7, pB p 0), (13, .int .i64 ((o + q) + r)), (103, .int .i64 x), (113, .int .i64 y)] ⟨rfl, rfl, rfl, rfl, rfl, trivial⟩ (by kernel_rfl)
         obtain ⟨fT, fU⟩ := fO
         refine parF (D := [[], [], [], [2], [], [4], [4, 5], [2, 3, 4, 5, 6], [], [1, 2, 3, 4, 5, 6, 7, 8], [1, 2, 3, 4, 5, 6, 7, 8, 9], [], [], [], [13], [], [15], [15, 16], [13, 14, 15, 16, 17], [1, 2, 3, 4, 5, 6, 7, 8, 9, 11, 12, 13, 14, 15, 16, 17, 18], [1, 2, 3, 4, 5, 6, 7, 8, 9, 11, 12, 13, 14, 15, 16, 17, 18, 19], [0, 1, 2, 3, 4, 5, 6, 7, 8, 9, 10, 11, 12, 13, 14, 15, 16, 17, 18, 19, 20], [0, 1, 2, 3, 4, 5, 6, 7, 8, 9, 10, 11, 12, 13, 14, 15, 16, 17, 18, 19, 20, 21]]) (S := [20]) (F := []) (KE := [20]) (E := [(20, fun v _ => v = .int .i64 (y + 1))]) bu rfl (by kernel_rfl) ⟨fun _ _ _ _ h => h, fun _ _ _ _ h => h, fun _ _ _ _ h => h, trivial⟩ ⟨?_, ?_, ?_, trivial⟩ ?_
         ·intro a w hT
          have hAp := hT.ag bu [(113, .int .i64 y)] ⟨rfl, trivial⟩ (by kernel_rfl)
          exact ovr hAp rfl (r_addI (hAp.get rfl) rfl fT) fun _ => Eq.refl _
         ·intro a w hT
          have hAp := hT.ag bu [(13, .int .i64 ((o + q) + r))] ⟨rfl, trivial⟩ (by kernel_rfl)
          exact ovr hAp rfl (r_move (hAp.get rfl)) fun _ => Eq.refl _
         ·intro a w hT
          have hAp := hT.ag bu [(103, .int .i64 x)] ⟨rfl, trivial⟩ (by kernel_rfl)
          exact ovr hAp rfl (r_addI (hAp.get rfl) rfl bT) fun _ => Eq.refl _
         ·intro fV fX bv fY fZ
          have f0 := fY [(0, .pointer (some d)), (7, pB p 0), (13, .int .i64 ((o + q) + r)), (103, .int .i64 x)] ⟨rfl, rfl, rfl, rfl, trivial⟩ (by kernel_rfl)
          have f1 : fV.tmps.getD 114 undef = .int .i64 (y + 1) := fZ 20 rfl 114 rfl
          have bX := f0.add f1
          have f2 := fP.ext bv
          have f3 := fQ.ext bv
          have f4 := fR.ext bv
          have f5 : Chg [] bG fX := bv
          refine joinF bX (by kernel_rfl) ⟨fun _ _ _ _ h => h, fun _ _ _ _ h => h, trivial⟩ ⟨?_, ?_, trivial⟩ ?_
          ·intro a w hT
           have hAp := hT.ag bX [(13, .int .i64 ((o + q) + r))] ⟨rfl, trivial⟩ (by kernel_rfl)
           exact ovr hAp rfl (r_move (hAp.get rfl)) fun _ => Eq.refl _
          ·intro a w hT
           have hAp := hT.ag bX [(103, .int .i64 x)] ⟨rfl, trivial⟩ (by kernel_rfl)
           exact ovr hAp rfl (r_addI (hAp.get rfl) rfl bT) fun _ => Eq.refl _
          ·intro co aZ bz f6 cp
           have f7 := f6 [(0, .pointer (some d)), (7, pB p 0), (13, .int .i64 ((o + q) + r)), (114, .int .i64 (y + 1))] ⟨rfl, rfl, rfl, rfl, trivial⟩ (by kernel_rfl)
           have f8 : co.tmps.getD 94 undef = .int .i64 ((o + q) + r) := cp 0 rfl 94 rfl
           have f9 := f7.add f8
           have ga : co.tmps.getD 104 undef = .int .i64 (x + 1) := cp 10 rfl 104 rfl
           have bY := f9.add ga
           have gc := f2.ext bz
           have gd := f3.ext bz
           have gf := f4.ext bz
           have gg := f5.more bz
           have gh := fU aZ    gg
           refine par (D := [[], [], [], [2], [], [4], [4, 5], [2, 3, 4, 5, 6], [], [1, 2, 3, 4, 5, 6, 7, 8], [1, 2, 3, 4, 5, 6, 7, 8, 9], [], [], [], [13], [], [15], [15, 16], [13, 14, 15, 16, 17], [1, 2, 3, 4, 5, 6, 7, 8, 9, 11, 12, 13, 14, 15, 16, 17, 18], [1, 2, 3, 4, 5, 6, 7, 8, 9, 11, 12, 13, 14, 15, 16, 17, 18, 19], [0, 1, 2, 3, 4, 5, 6, 7, 8, 9, 10, 11, 12, 13, 14, 15, 16, 17, 18, 19, 20], [0, 1, 2, 3, 4, 5, 6, 7, 8, 9, 10, 11, 12, 13, 14, 15, 16, 17, 18, 19, 20, 21]]) (S := [21, 22]) (F := []) (V := VL [(21, fun v _ => v = .int .i64 (min (min ((o + q) + r) (x + 1)) (y + 1))), (22, fun v _ => v = .int .i64 (min (min ((o + q) + r) (x + 1)) (y + 1)))]) bY (by kernel_rfl) ⟨fun _ _ _ _ h => h, fun _ _ _ _ h => h, trivial⟩ ⟨?_, ?_, trivial⟩ ?_
           ·intro a w hT
            have hAp := hT.ag bY [(94, .int .i64 ((o + q) + r)), (104, .int .i64 (x + 1)), (114, .int .i64 (y + 1))] ⟨rfl, rfl, rfl, trivial⟩ (by kernel_rfl)
            exact ovr hAp rfl (r_min3 (hAp.get rfl) (hAp.get rfl) (hAp.get rfl)) fun _ => Eq.refl _
           ·intro a w hT
            have hAp := hT.ag bY [] trivial (by kernel_rfl)
            have hAp := hAp.add (t := 115) (v := .int .i64 (min (min ((o + q) + r) (x + 1)) (y + 1))) (hT.vals 21 rfl 115 rfl)
            exact ovr hAp rfl (r_assign (hAp.get rfl)) fun _ => Eq.refl _
           ·intro gj gm bA gq gu
            have gG := gq [(0, .pointer (some d)), (7, pB p 0)] ⟨rfl, rfl, trivial⟩ (by kernel_rfl)
            have gJ : gj.tmps.getD 13 undef = .int .i64 (min (min ((o + q) + r) (x + 1)) (y + 1)) := gu 22 rfl 13 rfl
            have gU := gG.add gJ
            have i1 := gc.ext bA
            have i2 := gd.ext bA
            have gV := gf.ext bA
            have gY : Chg [] aZ gm := bA
            refine PR_end (by kernel_rfl) ?_
            have g0 := gU.kp [(0, .pointer (some d)), (7, pB p 0), (13, .int .i64 (min (min ((o + q) + r) (x + 1)) (y + 1)))] rfl
            refine gK (bs := [(p, 140, [.int .i64 k, .int .i64 g, .int .i64 l, .int .i64 f])]) (N := []) g0 gY ⟨gV, trivial⟩ (by simp) trivial (by simp) gh ?_
            refine tn <| gS ?_
            intro i3 bZ g4
            have aB := bZ.ag
            have g5 := bZ.bx 0 rfl
            have g6 := bZ.chg
            refine draw' (by kernel_rfl) fun au cq => ?_
            have b0 := g5.ext cq
            have g7 := g6.more cq
            have g8 := g4 au    g7
            refine startF (D := [[], [], [1], [1, 2], [1, 2, 3], [], [5], [1, 2, 3, 4, 5, 6], [0, 1, 2, 3, 4, 5, 6, 7], [0, 1, 2, 3, 4, 5, 6, 7, 8], [0, 1, 2, 3, 4, 5, 6, 7, 8, 9]]) (Fs := [0, 1, 5]) (Ef := [(0, fun v _ => v = .pointer (some d)), (1, fun v _ => v = .pointer (some d)), (5, fun v _ => v = .agg #[.int .i64 k, .int .i64 g, .int .i64 l, .int .i64 f])]) (by kernel_rfl) ?_
            obtain ⟨aI, g9, ha⟩ := g8
            refine parF (D := [[], [], [1], [1, 2], [1, 2, 3], [], [5], [1, 2, 3, 4, 5, 6], [0, 1, 2, 3, 4, 5, 6, 7], [0, 1, 2, 3, 4, 5, 6, 7, 8], [0, 1, 2, 3, 4, 5, 6, 7, 8, 9]]) (S := [2, 3, 4, 6]) (F := []) (KE := [2, 3, 4, 6]) (E := [(2, fun v _ => v = .pointer (some d)), (3, fun v _ => v = .pointer (some (d.add 6))), (4, fun v _ => v = Sl.v aI), (6, fun v w' => ∃ ah : Nat, au.heap.size ≤ ah ∧ Box w' ah 140 [.int .i64 k, .int .i64 g, .int .i64 l, .int .i64 f] ∧ v = Sl.v (Sl.mk (some ⟨ah, 0, none⟩) 1 1))]) aB rfl (by kernel_rfl) ⟨fun _ _ _ _ h => h, fun _ _ _ _ h => h, fun _ _ _ _ h => h, fun _ _ _ hE ⟨ah, h0_, h1_, e⟩ => ⟨ah, h0_, (h1_.ext hE), e⟩, fun _ _ _ _ h => h, fun _ _ _ _ h => h, fun _ _ _ _ h => h, trivial⟩ ⟨?_, ?_, ?_, ?_, ?_, ?_, ?_, trivial⟩ ?_
            ·intro a w hT
             have hAp := hT.ag aB [] trivial (by kernel_rfl)
             have hAp := hAp.add (t := 117) (v := .pointer (some d)) (hT.vals 1 rfl 117 rfl)
             exact ovr hAp rfl (r_nilCheck (hAp.get rfl)) fun _ => Eq.refl _
            ·intro a w hT
             have hAp := hT.ag aB [] trivial (by kernel_rfl)
             have hAp := hAp.add (t := 118) (v := .pointer (some d)) (hT.vals 2 rfl 118 rfl)
             exact ovr hAp rfl (r_fieldAddr (hAp.get rfl) Try.underlying127 rfl ti_125 (by decide)) fun _ => Eq.refl _
            ·intro a w hT
             have hAp := hT.ag aB [] trivial (by kernel_rfl)
             have hAp := hAp.add (t := 119) (v := .pointer (some (d.add 6))) (hT.vals 3 rfl 119 rfl)
             exact ovr hAp rfl (r_load1 tU125 rfl (hAp.get rfl) (Ext.cell hT.chg g9)) fun _ => Eq.refl _
            ·intro a w hT
             have hAp := hT.ag aB [] trivial (by kernel_rfl)
             have hAp := hAp.add (t := 121) (v := .agg #[.int .i64 k, .int .i64 g, .int .i64 l, .int .i64 f]) (hT.vals 5 rfl 121 rfl)
             exact opk_new (fun B => .slice (some ⟨B, 0, none⟩) 1 1) hAp rfl (r_buildSlice (vs := #[(0, .agg #[.int .i64 k, .int .i64 g, .int .i64 l, .int .i64 f])]) (cs := [.int .i64 k, .int .i64 g, .int .i64 l, .int .i64 f]) (map_arr2 (ml2_cons (hAp.get rfl) (ml2_nil))) tU125 ti_140 rfl rfl (by kernel_rfl)) fun _ i4 ah hb hc hd _ e => ⟨_, e, hb, fun _ => ⟨ah, Nat.le_trans hT.chg.size hc.ge, hd, rfl⟩⟩
            ·intro a w hT
             have hAp := hT.ag aB [(0, .pointer (some d))] ⟨rfl, trivial⟩ (by kernel_rfl)
             exact ovr hAp rfl (r_move (hAp.get rfl)) fun _ => Eq.refl _
            ·intro a w hT
             have hAp := hT.ag aB [(0, .pointer (some d))] ⟨rfl, trivial⟩ (by kernel_rfl)
             exact ovr hAp rfl (r_move (hAp.get rfl)) fun _ => Eq.refl _
            ·intro a w hT
             have hAp := hT.ag aB [(7, pB p 0)] ⟨rfl, trivial⟩ (by kernel_rfl)
             exact ovr hAp rfl (r_loadN (cs := [.int .i64 k, .int .i64 g, .int .i64 l, .int .i64 f]) Try.underlying140 rfl ti_140 (hAp.get rfl) ((b0.ext hT.chg).part 0 _ rfl)) fun _ => Eq.refl _
            ·intro hf aJ b1 hg cr
             have hh := hg [(0, .pointer (some d)), (7, pB p 0), (13, .int .i64 (min (min ((o + q) + r) (x + 1)) (y + 1)))] ⟨rfl, rfl, rfl, trivial⟩ (by kernel_rfl)
             have hi : hf.tmps.getD 120 undef = Sl.v aI := cr 4 rfl 120 rfl
             have hj := hh.add hi
             obtain ⟨ah, ct, cu, hk⟩ := cr 6 rfl 122 rfl
             have hl := hj.add hk
             have hm := b0.ext b1
             have i5 : Chg [] au aJ := b1
             have hn := ha aJ ah b1 ct cu
             have i6 : p ≠ ah := Nat.ne_of_lt (Nat.lt_of_lt_of_le b0.lt ct)
             refine PRF_drop (X := [1, 5]) (Fs' := [0]) hl (by kernel_rfl) fun i7 ho i8 => ?_
             have b2 := ho [(0, .pointer (some d)), (13, .int .i64 (min (min ((o + q) + r) (x + 1)) (y + 1))), (120, Sl.v aI), (122, Sl.v (Sl.mk (some ⟨ah, 0, none⟩) 1 1))] ⟨rfl, rfl, rfl, rfl, trivial⟩ (by kernel_rfl)
             refine oneF (c := 7) b2 rfl (by kernel_rfl) (constF ⟨fun _ _ _ h => h, trivial⟩) ⟨?_, trivial⟩ ?_
             ·intro a hT
              have hAp := hT.ag b2 [(0, .pointer (some d))] ⟨rfl, trivial⟩ (by kernel_rfl)
              exact opk_val hAp rfl (r_move (hAp.get rfl)) fun _ _ e => ⟨_, e, rfl, fun _ => Eq.refl _⟩
             ·intro i9 hT
              have b3 := hT.ag b2 [(0, .pointer (some d)), (13, .int .i64 (min (min ((o + q) + r) (x + 1)) (y + 1))), (120, Sl.v aI), (122, Sl.v (Sl.mk (some ⟨ah, 0, none⟩) 1 1))] ⟨rfl, rfl, rfl, rfl, trivial⟩ (by kernel_rfl)
              have hp := hn cu
              refine (opk_run b3 rfl (fun _ _ hr => r_append (b3.get rfl) (b3.get rfl) hr) hp fun ja jb bH cv hq hs jc ht => ?_)
              refine ⟨_, hq, ?_⟩
              obtain ⟨aR, rfl, hu⟩ := ht
              have hv := hm.kept hs (.head _)
              refine joinF cv (by kernel_rfl) ⟨fun _ _ _ _ h => h, trivial⟩ ⟨?_, trivial⟩ ?_
              ·intro a w hT
               have hAp := hT.ag cv [(0, .pointer (some d))] ⟨rfl, trivial⟩ (by kernel_rfl)
               exact ovr hAp rfl (r_move (hAp.get rfl)) fun _ => Eq.refl _
              ·intro hx aS cx hy hz
               have hA := hy [(0, .pointer (some d)), (13, .int .i64 (min (min ((o + q) + r) (x + 1)) (y + 1))), (123, Sl.v aR)] ⟨rfl, rfl, rfl, trivial⟩ (by kernel_rfl)
               have hB : hx.tmps.getD 116 undef = .pointer (some d) := hz 0 rfl 116 rfl
               have b4 := hA.add hB
               have hC := hv.ext cx
               have hD : Chg [] bH aS := cx
               have hF := hu aS    hD
               refine par (D := [[], [], [1], [1, 2], [1, 2, 3], [], [5], [1, 2, 3, 4, 5, 6], [0, 1, 2, 3, 4, 5, 6, 7], [0, 1, 2, 3, 4, 5, 6, 7, 8], [0, 1, 2, 3, 4, 5, 6, 7, 8, 9]]) (S := [8, 9]) (F := []) (V := VL [(8, fun v _ => v = .pointer (some d)), (9, fun v _ => v = .pointer (some (d.add 6)))]) b4 (by kernel_rfl) ⟨fun _ _ _ _ h => h, fun _ _ _ _ h => h, trivial⟩ ⟨?_, ?_, trivial⟩ ?_
               ·intro a w hT
                have hAp := hT.ag b4 [(116, .pointer (some d))] ⟨rfl, trivial⟩ (by kernel_rfl)
                exact ovr hAp rfl (r_nilCheck (hAp.get rfl)) fun _ => Eq.refl _
               ·intro a w hT
                have hAp := hT.ag b4 [] trivial (by kernel_rfl)
                have hAp := hAp.add (t := 124) (v := .pointer (some d)) (hT.vals 8 rfl 124 rfl)
                exact ovr hAp rfl (r_fieldAddr (hAp.get rfl) Try.underlying127 rfl ti_125 (by decide)) fun _ => Eq.refl _
               ·intro hG aU cy hH hI
                have hJ := hH [(0, .pointer (some d)), (13, .int .i64 (min (min ((o + q) + r) (x + 1)) (y + 1))), (123, Sl.v aR)] ⟨rfl, rfl, rfl, trivial⟩ (by kernel_rfl)
                have hK : hG.tmps.getD 125 undef = .pointer (some (d.add 6)) := hI 9 rfl 125 rfl
                have b5 := hJ.add hK
                have hL := hC.ext cy
                have hM : Chg [] aS aU := cy
                have hN := hF aU    hM
                obtain ⟨aV, ba, bI, bb, hO, cz, hP, hQ, hS⟩ := hN
                refine one (D := [[], [], [1], [1, 2], [1, 2, 3], [], [5], [1, 2, 3, 4, 5, 6], [0, 1, 2, 3, 4, 5, 6, 7], [0, 1, 2, 3, 4, 5, 6, 7, 8], [0, 1, 2, 3, 4, 5, 6, 7, 8, 9]]) (i := 10) rfl (by kernel_rfl) (opk_store b5 cz (r_store (vs := [Sl.v aR]) (((b5.get rfl)).trans (congrArg (fun a => Value.pointer (some a)) hO)) (b5.get rfl) rfl ti_125 cz (Nat.ble_eq_true_of_le hP) (ones_all _ rfl)) fun jd aK cA hU hV => ?_)
                have jf := hL.keep cA (by have := hQ p (by simp); simpa using this)
                have hX := hS aK cA hU
                refine PR_end (by kernel_rfl) ?_
                have hY := hV.kp [(0, .pointer (some d)), (13, .int .i64 (min (min ((o + q) + r) (x + 1)) (y + 1)))] rfl
                refine gK (bs := []) (N := []) hY (Chg.refl [] _) trivial (by simp) trivial (by simp) hX ?_
                refine tn <| gS <| gR <| gM ?_
                refine gM ?_
                refine g1 r_nilCheck ?_
                refine gF 7 Try.underlying127 ti_22 ?_
                refine gE fun bJ => gL tU22 ?_
                refine gM ?_
                refine ns [.int .i64 (min (min ((o + q) + r) (x + 1)) (y + 1))] tU22 ti_3 fun a0 bd => gT1 ?_
                refine gX 0 ?_
                refine gR2 [] r_append fun _ bK => gE fun bL => gQ ?_
                refine g1 r_nilCheck ?_
                refine gF 7 Try.underlying127 ti_22 ?_
                refine wx [] ti_22 fun aX bf bM bg bi => ge <| tn <| gS <| gR ?_
                refine gM ?_
                refine gN <| ge <| tn <| gr ?_
                exact gz1
def ref20_firsts.vc (h : Sl) (d : Sl) (R : Value → World → Prop) (w : World) : Prop :=
∃ (m : Sl → Int → World → Prop) (r : Sl → Int → World → Nat),
m Sl.nil 0 w ∧
(∀ (f : Sl) (b : Int) (c : World), m f b c →
((b < (d.n : Int)) →
((0 : Int) ≤ b ∧ b < (d.n : Int)) ∧ ∃ o : Addr, d.a = some o ∧
∃ (i : Int), (c.cell? (o.add (b.toNat * 1)) = some (.int .i64 i)) ∧
((0 : Int) ≤ i ∧ i < (h.n : Int)) ∧ ∃ p : Addr, h.a = some p ∧
∃ (g : Int), (c.cell? ((p.add (i.toNat * 15)).add 1) = some (.int .i64 g)) ∧
(I64 (b - g)) ∧
(I64 ((b - g) + 1)) ∧
∀ (j : World) (k : Nat), New c k j → Chg [] c j →
∀ (_ : Box j k 3 [.int .i64 ((b - g) + 1)]),
RunK Try.prog (Builtin.append_ #[22, 22] 22 #[Sl.v f, Sl.v (Sl.mk (some ⟨k, 0, none⟩) 1 1)]) j [] (fun v q => ∃ (l : Sl), v = Sl.v l ∧
(I64 (b + 1)) ∧
m l (b + 1) q ∧ r l (b + 1) q < r f b c)) ∧
((¬ (b < (d.n : Int))) →
R (Sl.v f) c))
theorem ref20_firsts.ok (h : Sl) (d : Sl) {R : Value → World → Prop} {w : World} (s : ref20_firsts.vc h d R w) : Calls Try.prog 86 #[Sl.v h, Sl.v d] w (Ret R) := by
 refine go _ Try.func86 Try.ntmps86 s ?_
 refine gS <| gR <| gN <| ge <| tn <| gS <| gR ?_
 refine gN <| ge <| tn <| gS <| gS <| gR ?_
 refine gN <| ge <| tn <| gb <| gE fun _ => gE fun mu => ?_
 refine l2 mu (fun f b => [(5, Sl.v f), (6, .int .i64 b)]) [(0, _), (1, _)] (fun _ _ => []) [] [] fun f b c _ => gS <| gS <| gR ?_
 refine gM ?_
 refine gM ?_
 refine g1 (fun t => r_len t tU22) ?_
 refine g2 r_lss <| ge <| tn ?_
 refine gi dT dF ?_ ?_
 ·refine gk <| tn <| gS <| gb <| gR <| gM ?_
  refine gM ?_
  refine gM ?_
  refine gM ?_
  refine gM ?_
  refine gI1 tU22 ti_3 fun o => ?_
  refine gE fun i => gL tU3 ?_
  refine gI1 tU31 ti_38 fun p => ?_
  refine gF 1 Try.underlying38 ti_3 ?_
  refine gE fun g => gL tU3 ?_
  refine g2s r_subI ?_
  refine g2s r_addI ?_
  refine ns [.int .i64 ((b - g) + 1)] tU22 ti_3 fun j k => gT1 ?_
  refine gX 0 ?_
  refine gR2 [] r_append fun _ q => gE fun l => gQ ?_
  refine gN <| ge <| bn <| tn <| gR ?_
  refine gM ?_
  refine g2s r_addI ?_
  refine gN <| ge ?_
  exact k2 []
 ·refine gx <| te <| te <| bh <| tn <| gS <| gR <| gM ?_
  refine gN <| ge <| tn <| gr ?_
  exact gz1
def ref20_Z_parts.vc (al : Addr) (x : Int) (u : Int) (q : Int) (k : Int) (R : Value → World → Prop) (w : World) : Prop :=
∀ (aa : World) (j : Nat) (g : Nat) (l : Nat) (m : Nat) (o : Nat) (p : Nat), New w j aa → New w g aa → New w l aa → New w m aa → New w o aa → New w p aa → j ≠ g → j ≠ l → j ≠ m → j ≠ o → j ≠ p → g ≠ l → g ≠ m → g ≠ o → g ≠ p → l ≠ m → l ≠ o → l ≠ p → m ≠ o → m ≠ p → o ≠ p → Chg [] w aa →
∃ (ao : Sl), (aa.cell? (al.add 4) = some (Sl.v ao)) ∧
(I64 (u - 1)) ∧
∃ ar : Addr, (((0 : Int) ≤ u - 1 ∧ u - 1 < (ao.n : Int)) ∧ ao.a = some ar) ∧
∃ (f : Int), (aa.cell? (ar.add ((u - 1).toNat * 1)) = some (.int .i64 f)) ∧
∃ (ap : Sl), (aa.cell? (al.add 5) = some (Sl.v ap)) ∧
(I64 (k - 1)) ∧
∃ au : Addr, (((0 : Int) ≤ k - 1 ∧ k - 1 < (ap.n : Int)) ∧ ap.a = some au) ∧
∃ (b : Int), (aa.cell? (au.add ((k - 1).toNat * 1)) = some (.int .i64 b)) ∧
∀ (am : World), Chg [] aa am →
(I64 (u - 1)) ∧
(I64 (k - 1)) ∧
∀ (aq : World), Chg [p, o, m, l] am aq →
R (.tuple #[.agg #[.int .i64 f, .int .i64 (u - 1)], .agg #[.int .i64 b, .int .i64 (k - 1)], .agg #[.int .i64 x, .int .i64 f], .agg #[.int .i64 q, .int .i64 b]]) aq
theorem ref20_Z_parts.ok (al : Addr) (x : Int) (u : Int) (q : Int) (k : Int) {R : Value → World → Prop} {w : World} (aX : ref20_Z_parts.vc al x u q k R w) : Calls Try.prog 87 #[.pointer (some al), .agg #[.int .i64 x, .int .i64 u], .agg #[.int .i64 q, .int .i64 k]] w (Ret R) := by
 refine go _ Try.func87 Try.ntmps87 aX ?_
 refine gS <| gR <| nb fun w5 j => ?_
 refine nb fun w7 g => ?_
 refine na ti_129 fun w9 l => ?_
 refine na ti_129 fun ct m => ?_
 refine na ti_129 fun cu o => ?_
 refine na ti_129 fun cv p => ge <| tn <| gS ?_
 refine gD fun aa => ?_
 refine gT (fun h d c v => v _ j g l m o p (h _ (by simp)) (h _ (by simp)) (h _ (by simp)) (h _ (by simp)) (h _ (by simp)) (h _ (by simp)) (fun e => by simp [e] at d) (fun e => by simp [e] at d) (fun e => by simp [e] at d) (fun e => by simp [e] at d) (fun e => by simp [e] at d) (fun e => by simp [e] at d) (fun e => by simp [e] at d) (fun e => by simp [e] at d) (fun e => by simp [e] at d) (fun e => by simp [e] at d) (fun e => by simp [e] at d) (fun e => by simp [e] at d) (fun e => by simp [e] at d) (fun e => by simp [e] at d) (fun e => by simp [e] at d) c) ?_
 refine gW 0 20 [] ?_
 refine gM ?_
 refine g1 r_nilCheck ?_
 refine gF 4 Try.underlying127 ti_22 ?_
 refine gE fun ao => gL tU22 ?_
 refine gF 1 Try.underlying129 ti_3 ?_
 refine gB 5 tU3 ?_
 refine g2s r_subI ?_
 refine gI2 tU22 ti_3 fun ar => ?_
 refine gE fun f => gL tU3 ?_
 refine gM ?_
 refine g1 r_nilCheck ?_
 refine gF 5 Try.underlying127 ti_22 ?_
 refine gE fun ap => gL tU22 ?_
 refine gF 1 Try.underlying129 ti_3 ?_
 refine gB 4 tU3 ?_
 refine g2s r_subI ?_
 refine gI2 tU22 ti_3 fun au => ?_
 refine gE fun b => gL tU3 ?_
 refine gN ?_
 refine gN <| geT fun cx => ?_
 refine gZ <| tn <| gS ?_
 intro cy r aY
 have y := r.ag
 have aZ := r.bx 5 rfl
 have a0 := r.bx 4 rfl
 have a1 := r.bx 3 rfl
 have a2 := r.bx 2 rfl
 have a3 := r.bx 1 rfl
 have a4 := r.bx 0 rfl
 have a5 := r.chg
 have cz : j ≠ g := r.ne 5 4
 have a6 : j ≠ l := r.ne 5 3
 have a7 : g ≠ l := r.ne 4 3
 have a8 : j ≠ m := r.ne 5 2
 have a9 : g ≠ m := r.ne 4 2
 have av : l ≠ m := r.ne 3 2
 have ba : j ≠ o := r.ne 5 1
 have bb : g ≠ o := r.ne 4 1
 have ax : l ≠ o := r.ne 3 1
 have ay : m ≠ o := r.ne 2 1
 have bd : j ≠ p := r.ne 5 0
 have bf : g ≠ p := r.ne 4 0
 have az : l ≠ p := r.ne 3 0
 have aA : m ≠ p := r.ne 2 0
 have aB : o ≠ p := r.ne 1 0
 refine draw' (by kernel_rfl) fun am ad => ?_
 have aC := aZ.ext ad
 have aD := a0.ext ad
 have aL := a1.ext ad
 have bg := a2.ext ad
 have bi := a3.ext ad
 have bj := a4.ext ad
 have bk := a5.more ad
 have bl := aY am    bk
 obtain ⟨bo, bp⟩ := bl
 obtain ⟨aM, bq⟩ := bp
 refine startF (D := [[], [], [1], [1, 2], [0, 1, 2, 3], [], [], [6], [6, 7], [5, 6, 7, 8], [], [10], [], [10, 11, 12], [], [14], [], [14, 15, 16], [0, 1, 2, 3, 4], [0, 1, 2, 3, 4, 5, 6, 7, 8, 9, 18], [0, 1, 2, 3, 4, 5, 6, 7, 8, 9, 10, 11, 12, 13, 18, 19], [0, 1, 2, 3, 4, 5, 6, 7, 8, 9, 10, 11, 12, 13, 14, 15, 16, 17, 18, 19, 20]]) (Fs := [0, 1, 2, 3, 4, 5, 6, 7, 8, 9, 10, 11, 12, 13, 14, 15, 16, 17]) (Ef := [(0, fun v _ => v = .int .i64 f), (1, fun v _ => v = pB j 1), (2, fun v _ => v = .int .i64 u), (3, fun v _ => v = .int .i64 (u - 1)), (4, fun v _ => v = .agg #[.int .i64 f, .int .i64 (u - 1)]), (5, fun v _ => v = .int .i64 b), (6, fun v _ => v = pB g 1), (7, fun v _ => v = .int .i64 k), (8, fun v _ => v = .int .i64 (k - 1)), (9, fun v _ => v = .agg #[.int .i64 b, .int .i64 (k - 1)]), (10, fun v _ => v = pB j 0), (11, fun v _ => v = .int .i64 x), (12, fun v _ => v = .int .i64 f), (13, fun v _ => v = .agg #[.int .i64 x, .int .i64 f]), (14, fun v _ => v = pB g 0), (15, fun v _ => v = .int .i64 q), (16, fun v _ => v = .int .i64 b), (17, fun v _ => v = .agg #[.int .i64 q, .int .i64 b])]) (by kernel_rfl) ?_
 refine oneF (c := 18) y rfl (by kernel_rfl) (constF ⟨fun _ _ _ h => h, fun _ _ _ h => h, fun _ _ _ h => h, fun _ _ _ h => h, fun _ _ _ h => h, fun _ _ _ h => h, fun _ _ _ h => h, fun _ _ _ h => h, fun _ _ _ h => h, fun _ _ _ h => h, fun _ _ _ h => h, fun _ _ _ h => h, fun _ _ _ h => h, fun _ _ _ h => h, fun _ _ _ h => h, fun _ _ _ h => h, fun _ _ _ h => h, fun _ _ _ h => h, trivial⟩) ⟨?_, ?_, ?_, ?_, ?_, ?_, ?_, ?_, ?_, ?_, ?_, ?_, ?_, ?_, ?_, ?_, ?_, ?_, trivial⟩ ?_
 ·intro a hT
  have hAp := hT.ag y [(10, .int .i64 f)] ⟨rfl, trivial⟩ (by kernel_rfl)
  exact opk_val hAp rfl (r_move (hAp.get rfl)) fun _ _ e => ⟨_, e, rfl, fun _ => Eq.refl _⟩
 ·intro a hT
  have hAp := hT.ag y [(4, pB j 0)] ⟨rfl, trivial⟩ (by kernel_rfl)
  exact opk_val hAp rfl (r_fieldAddr (hAp.get rfl) Try.underlying129 rfl ti_3 (by decide)) fun _ _ e => ⟨_, e, rfl, fun _ => Eq.refl _⟩
 ·intro a hT
  have hAp := hT.ag y [] trivial (by kernel_rfl)
  have hAp := hAp.add (t := 31) (v := pB j 1) (hT.vals 1 rfl 31 rfl)
  exact opk_val hAp rfl (r_load1 tU3 rfl (hAp.get rfl) ((aC.ext hT.chg).cell 1 _ rfl)) fun _ _ e => ⟨_, e, rfl, fun _ => Eq.refl _⟩
 ·intro a hT
  have hAp := hT.ag y [] trivial (by kernel_rfl)
  have hAp := hAp.add (t := 32) (v := .int .i64 u) (hT.vals 2 rfl 32 rfl)
  exact opk_val hAp rfl (r_subI (hAp.get rfl) rfl bo) fun _ _ e => ⟨_, e, rfl, fun _ => Eq.refl _⟩
 ·intro a hT
  have hAp := hT.ag y [] trivial (by kernel_rfl)
  have hAp := hAp.add (t := 30) (v := .int .i64 f) (hT.vals 0 rfl 30 rfl)
  have hAp := hAp.add (t := 33) (v := .int .i64 (u - 1)) (hT.vals 3 rfl 33 rfl)
  exact opk_val hAp rfl (r_build (vs := #[(0, .int .i64 f), (1, .int .i64 (u - 1))]) (cells := #[.int .i64 f, .int .i64 (u - 1)]) (map_arr2 (ml2_cons (hAp.get rfl) (ml2_cons (hAp.get rfl) (ml2_nil)))) ti_129 Try.underlying129 pl_129 (by kernel_rfl)) fun _ _ e => ⟨_, e, rfl, fun _ => Eq.refl _⟩
 ·intro a hT
  have hAp := hT.ag y [(11, .int .i64 b)] ⟨rfl, trivial⟩ (by kernel_rfl)
  exact opk_val hAp rfl (r_move (hAp.get rfl)) fun _ _ e => ⟨_, e, rfl, fun _ => Eq.refl _⟩
 ·intro a hT
  have hAp := hT.ag y [(5, pB g 0)] ⟨rfl, trivial⟩ (by kernel_rfl)
  exact opk_val hAp rfl (r_fieldAddr (hAp.get rfl) Try.underlying129 rfl ti_3 (by decide)) fun _ _ e => ⟨_, e, rfl, fun _ => Eq.refl _⟩
 ·intro a hT
  have hAp := hT.ag y [] trivial (by kernel_rfl)
  have hAp := hAp.add (t := 36) (v := pB g 1) (hT.vals 6 rfl 36 rfl)
  exact opk_val hAp rfl (r_load1 tU3 rfl (hAp.get rfl) ((aD.ext hT.chg).cell 1 _ rfl)) fun _ _ e => ⟨_, e, rfl, fun _ => Eq.refl _⟩
 ·intro a hT
  have hAp := hT.ag y [] trivial (by kernel_rfl)
  have hAp := hAp.add (t := 37) (v := .int .i64 k) (hT.vals 7 rfl 37 rfl)
  exact opk_val hAp rfl (r_subI (hAp.get rfl) rfl aM) fun _ _ e => ⟨_, e, rfl, fun _ => Eq.refl _⟩
 ·intro a hT
  have hAp := hT.ag y [] trivial (by kernel_rfl)
  have hAp := hAp.add (t := 35) (v := .int .i64 b) (hT.vals 5 rfl 35 rfl)
  have hAp := hAp.add (t := 38) (v := .int .i64 (k - 1)) (hT.vals 8 rfl 38 rfl)
  exact opk_val hAp rfl (r_build (vs := #[(0, .int .i64 b), (1, .int .i64 (k - 1))]) (cells := #[.int .i64 b, .int .i64 (k - 1)]) (map_arr2 (ml2_cons (hAp.get rfl) (ml2_cons (hAp.get rfl) (ml2_nil)))) ti_129 Try.underlying129 pl_129 (by kernel_rfl)) fun _ _ e => ⟨_, e, rfl, fun _ => Eq.refl _⟩
 ·intro a hT
  have hAp := hT.ag y [(4, pB j 0)] ⟨rfl, trivial⟩ (by kernel_rfl)
  exact opk_val hAp rfl (r_fieldAddr (hAp.get rfl) Try.underlying129 rfl ti_3 (by decide)) fun _ _ e => ⟨_, e, rfl, fun _ => Eq.refl _⟩
 ·intro a hT
  have hAp := hT.ag y [] trivial (by kernel_rfl)
  have hAp := hAp.add (t := 40) (v := pB j 0) (hT.vals 10 rfl 40 rfl)
  exact opk_val hAp rfl (r_load1 tU3 rfl (hAp.get rfl) ((aC.ext hT.chg).cell 0 _ rfl)) fun _ _ e => ⟨_, e, rfl, fun _ => Eq.refl _⟩
 ·intro a hT
  have hAp := hT.ag y [(10, .int .i64 f)] ⟨rfl, trivial⟩ (by kernel_rfl)
  exact opk_val hAp rfl (r_move (hAp.get rfl)) fun _ _ e => ⟨_, e, rfl, fun _ => Eq.refl _⟩
 ·intro a hT
  have hAp := hT.ag y [] trivial (by kernel_rfl)
  have hAp := hAp.add (t := 41) (v := .int .i64 x) (hT.vals 11 rfl 41 rfl)
  have hAp := hAp.add (t := 42) (v := .int .i64 f) (hT.vals 12 rfl 42 rfl)
  exact opk_val hAp rfl (r_build (vs := #[(0, .int .i64 x), (1, .int .i64 f)]) (cells := #[.int .i64 x, .int .i64 f]) (map_arr2 (ml2_cons (hAp.get rfl) (ml2_cons (hAp.get rfl) (ml2_nil)))) ti_129 Try.underlying129 pl_129 (by kernel_rfl)) fun _ _ e => ⟨_, e, rfl, fun _ => Eq.refl _⟩
 ·intro a hT
  have hAp := hT.ag y [(5, pB g 0)] ⟨rfl, trivial⟩ (by kernel_rfl)
  exact opk_val hAp rfl (r_fieldAddr (hAp.get rfl) Try.underlying129 rfl ti_3 (by decide)) fun _ _ e => ⟨_, e, rfl, fun _ => Eq.refl _⟩
 ·intro a hT
  have hAp := hT.ag y [] trivial (by kernel_rfl)
  have hAp := hAp.add (t := 44) (v := pB g 0) (hT.vals 14 rfl 44 rfl)
  exact opk_val hAp rfl (r_load1 tU3 rfl (hAp.get rfl) ((aD.ext hT.chg).cell 0 _ rfl)) fun _ _ e => ⟨_, e, rfl, fun _ => Eq.refl _⟩
 ·intro a hT
  have hAp := hT.ag y [(11, .int .i64 b)] ⟨rfl, trivial⟩ (by kernel_rfl)
  exact opk_val hAp rfl (r_move (hAp.get rfl)) fun _ _ e => ⟨_, e, rfl, fun _ => Eq.refl _⟩
 ·intro a hT
  have hAp := hT.ag y [] trivial (by kernel_rfl)
  have hAp := hAp.add (t := 45) (v := .int .i64 q) (hT.vals 15 rfl 45 rfl)
  have hAp := hAp.add (t := 46) (v := .int .i64 b) (hT.vals 16 rfl 46 rfl)
  exact opk_val hAp rfl (r_build (vs := #[(0, .int .i64 q), (1, .int .i64 b)]) (cells := #[.int .i64 q, .int .i64 b]) (map_arr2 (ml2_cons (hAp.get rfl) (ml2_cons (hAp.get rfl) (ml2_nil)))) ti_129 Try.underlying129 pl_129 (by kernel_rfl)) fun _ _ e => ⟨_, e, rfl, fun _ => Eq.refl _⟩
 ·intro bt hT
  have bu := hT.ag y [(4, pB j 0), (5, pB g 0), (6, pB l 0), (7, pB m 0), (8, pB o 0), (9, pB p 0), (10, .int .i64 f), (11, .int .i64 b)] ⟨rfl, rfl, rfl, rfl, rfl, rfl, rfl, rfl, trivial⟩ (by kernel_rfl)
  have bv : bt.tmps.getD 34 undef = .agg #[.int .i64 f, .int .i64 (u - 1)] := hT.vals 4 rfl 34 rfl
  have aG := bu.add bv
  refine opk_storeF aG aL (r_store (vs := [.int .i64 f, .int .i64 (u - 1)]) (aG.get rfl) (aG.get rfl) rfl ti_129 aL rfl (ones_all _ rfl)) fun aN ah bz bA => ⟨undef, Eq.refl _, ?_⟩
  have bB : Box aN l 129 [.int .i64 f, .int .i64 (u - 1)] := bz
  have aO := aC.keep ah (by simpa using a6)
  have aH := aD.keep ah (by simpa using a7)
  have aP := bg.keep ah (by simpa using av.symm)
  have bC := bi.keep ah (by simpa using ax.symm)
  have bD := bj.keep ah (by simpa using az.symm)
  have bF : Chg [l] am aN := ah
  refine PRF_drop (X := [0, 1, 2, 3, 4]) (Fs' := [5, 6, 7, 8, 9, 10, 11, 12, 13, 14, 15, 16, 17]) bA (by kernel_rfl) fun cA bG cB => ?_
  have z := bG [(4, pB j 0), (5, pB g 0), (6, pB l 0), (7, pB m 0), (8, pB o 0), (9, pB p 0), (10, .int .i64 f), (11, .int .i64 b)] ⟨rfl, rfl, rfl, rfl, rfl, rfl, rfl, rfl, trivial⟩ (by kernel_rfl)
  refine oneF (c := 19) z rfl (by kernel_rfl) (constF ⟨fun _ _ _ h => h, fun _ _ _ h => h, fun _ _ _ h => h, fun _ _ _ h => h, fun _ _ _ h => h, fun _ _ _ h => h, fun _ _ _ h => h, fun _ _ _ h => h, fun _ _ _ h => h, fun _ _ _ h => h, fun _ _ _ h => h, fun _ _ _ h => h, fun _ _ _ h => h, trivial⟩) ⟨?_, ?_, ?_, ?_, ?_, ?_, ?_, ?_, ?_, ?_, ?_, ?_, ?_, trivial⟩ ?_
  ·intro a hT
   have hAp := hT.ag z [(11, .int .i64 b)] ⟨rfl, trivial⟩ (by kernel_rfl)
   exact opk_val hAp rfl (r_move (hAp.get rfl)) fun _ _ e => ⟨_, e, rfl, fun _ => Eq.refl _⟩
  ·intro a hT
   have hAp := hT.ag z [(5, pB g 0)] ⟨rfl, trivial⟩ (by kernel_rfl)
   exact opk_val hAp rfl (r_fieldAddr (hAp.get rfl) Try.underlying129 rfl ti_3 (by decide)) fun _ _ e => ⟨_, e, rfl, fun _ => Eq.refl _⟩
  ·intro a hT
   have hAp := hT.ag z [] trivial (by kernel_rfl)
   have hAp := hAp.add (t := 36) (v := pB g 1) (hT.vals 6 rfl 36 rfl)
   exact opk_val hAp rfl (r_load1 tU3 rfl (hAp.get rfl) ((aH.ext hT.chg).cell 1 _ rfl)) fun _ _ e => ⟨_, e, rfl, fun _ => Eq.refl _⟩
  ·intro a hT
   have hAp := hT.ag z [] trivial (by kernel_rfl)
   have hAp := hAp.add (t := 37) (v := .int .i64 k) (hT.vals 7 rfl 37 rfl)
   exact opk_val hAp rfl (r_subI (hAp.get rfl) rfl aM) fun _ _ e => ⟨_, e, rfl, fun _ => Eq.refl _⟩
  ·intro a hT
   have hAp := hT.ag z [] trivial (by kernel_rfl)
   have hAp := hAp.add (t := 35) (v := .int .i64 b) (hT.vals 5 rfl 35 rfl)
   have hAp := hAp.add (t := 38) (v := .int .i64 (k - 1)) (hT.vals 8 rfl 38 rfl)
   exact opk_val hAp rfl (r_build (vs := #[(0, .int .i64 b), (1, .int .i64 (k - 1))]) (cells := #[.int .i64 b, .int .i64 (k - 1)]) (map_arr2 (ml2_cons (hAp.get rfl) (ml2_cons (hAp.get rfl) (ml2_nil)))) ti_129 Try.underlying129 pl_129 (by kernel_rfl)) fun _ _ e => ⟨_, e, rfl, fun _ => Eq.refl _⟩
  ·intro a hT
   have hAp := hT.ag z [(4, pB j 0)] ⟨rfl, trivial⟩ (by kernel_rfl)
   exact opk_val hAp rfl (r_fieldAddr (hAp.get rfl) Try.underlying129 rfl ti_3 (by decide)) fun _ _ e => ⟨_, e, rfl, fun _ => Eq.refl _⟩
  ·intro a hT
   have hAp := hT.ag z [] trivial (by kernel_rfl)
   have hAp := hAp.add (t := 40) (v := pB j 0) (hT.vals 10 rfl 40 rfl)
   exact opk_val hAp rfl (r_load1 tU3 rfl (hAp.get rfl) ((aO.ext hT.chg).cell 0 _ rfl)) fun _ _ e => ⟨_, e, rfl, fun _ => Eq.refl _⟩
  ·intro a hT
   have hAp := hT.ag z [(10, .int .i64 f)] ⟨rfl, trivial⟩ (by kernel_rfl)
   exact opk_val hAp rfl (r_move (hAp.get rfl)) fun _ _ e => ⟨_, e, rfl, fun _ => Eq.refl _⟩
  ·intro a hT
   have hAp := hT.ag z [] trivial (by kernel_rfl)
   have hAp := hAp.add (t := 41) (v := .int .i64 x) (hT.vals 11 rfl 41 rfl)
   have hAp := hAp.add (t := 42) (v := .int .i64 f) (hT.vals 12 rfl 42 rfl)
   exact opk_val hAp rfl (r_build (vs := #[(0, .int .i64 x), (1, .int .i64 f)]) (cells := #[.int .i64 x, .int .i64 f]) (map_arr2 (ml2_cons (hAp.get rfl) (ml2_cons (hAp.get rfl) (ml2_nil)))) ti_129 Try.underlying129 pl_129 (by kernel_rfl)) fun _ _ e => ⟨_, e, rfl, fun _ => Eq.refl _⟩
  ·intro a hT
   have hAp := hT.ag z [(5, pB g 0)] ⟨rfl, trivial⟩ (by kernel_rfl)
   exact opk_val hAp rfl (r_fieldAddr (hAp.get rfl) Try.underlying129 rfl ti_3 (by decide)) fun _ _ e => ⟨_, e, rfl, fun _ => Eq.refl _⟩
  ·intro a hT
   have hAp := hT.ag z [] trivial (by kernel_rfl)
   have hAp := hAp.add (t := 44) (v := pB g 0) (hT.vals 14 rfl 44 rfl)
   exact opk_val hAp rfl (r_load1 tU3 rfl (hAp.get rfl) ((aH.ext hT.chg).cell 0 _ rfl)) fun _ _ e => ⟨_, e, rfl, fun _ => Eq.refl _⟩
  ·intro a hT
   have hAp := hT.ag z [(11, .int .i64 b)] ⟨rfl, trivial⟩ (by kernel_rfl)
   exact opk_val hAp rfl (r_move (hAp.get rfl)) fun _ _ e => ⟨_, e, rfl, fun _ => Eq.refl _⟩
  ·intro a hT
   have hAp := hT.ag z [] trivial (by kernel_rfl)
   have hAp := hAp.add (t := 45) (v := .int .i64 q) (hT.vals 15 rfl 45 rfl)
   have hAp := hAp.add (t := 46) (v := .int .i64 b) (hT.vals 16 rfl 46 rfl)
   exact opk_val hAp rfl (r_build (vs := #[(0, .int .i64 q), (1, .int .i64 b)]) (cells := #[.int .i64 q, .int .i64 b]) (map_arr2 (ml2_cons (hAp.get rfl) (ml2_cons (hAp.get rfl) (ml2_nil)))) ti_129 Try.underlying129 pl_129 (by kernel_rfl)) fun _ _ e => ⟨_, e, rfl, fun _ => Eq.refl _⟩
  ·intro bH hT
   have bI := hT.ag z [(4, pB j 0), (5, pB g 0), (6, pB l 0), (7, pB m 0), (8, pB o 0), (9, pB p 0), (10, .int .i64 f), (11, .int .i64 b)] ⟨rfl, rfl, rfl, rfl, rfl, rfl, rfl, rfl, trivial⟩ (by kernel_rfl)
   have bJ : bH.tmps.getD 39 undef = .agg #[.int .i64 b, .int .i64 (k - 1)] := hT.vals 9 rfl 39 rfl
   have aI := bI.add bJ
   refine opk_storeF aI aP (r_store (vs := [.int .i64 b, .int .i64 (k - 1)]) (aI.get rfl) (aI.get rfl) rfl ti_129 aP rfl (ones_all _ rfl)) fun bK ai bL bM => ⟨undef, Eq.refl _, ?_⟩
   have bN : Box bK m 129 [.int .i64 b, .int .i64 (k - 1)] := bL
   have aQ := aO.keep ai (by simpa using a8)
   have aR := aH.keep ai (by simpa using a9)
   have bO := bB.keep ai (by simpa using av)
   have aS := bC.keep ai (by simpa using ay.symm)
   have bP := bD.keep ai (by simpa using aA.symm)
   have bQ := bF.storeOld ai
   refine PRF_drop (X := [5, 6, 7, 8, 9]) (Fs' := [10, 11, 12, 13, 14, 15, 16, 17]) bM (by kernel_rfl) fun cC bR cD => ?_
   have ab := bR [(4, pB j 0), (5, pB g 0), (6, pB l 0), (7, pB m 0), (8, pB o 0), (9, pB p 0), (10, .int .i64 f), (11, .int .i64 b)] ⟨rfl, rfl, rfl, rfl, rfl, rfl, rfl, rfl, trivial⟩ (by kernel_rfl)
   refine oneF (c := 20) ab rfl (by kernel_rfl) (constF ⟨fun _ _ _ h => h, fun _ _ _ h => h, fun _ _ _ h => h, fun _ _ _ h => h, fun _ _ _ h => h, fun _ _ _ h => h, fun _ _ _ h => h, fun _ _ _ h => h, trivial⟩) ⟨?_, ?_, ?_, ?_, ?_, ?_, ?_, ?_, trivial⟩ ?_
   ·intro a hT
    have hAp := hT.ag ab [(4, pB j 0)] ⟨rfl, trivial⟩ (by kernel_rfl)
    exact opk_val hAp rfl (r_fieldAddr (hAp.get rfl) Try.underlying129 rfl ti_3 (by decide)) fun _ _ e => ⟨_, e, rfl, fun _ => Eq.refl _⟩
   ·intro a hT
    have hAp := hT.ag ab [] trivial (by kernel_rfl)
    have hAp := hAp.add (t := 40) (v := pB j 0) (hT.vals 10 rfl 40 rfl)
    exact opk_val hAp rfl (r_load1 tU3 rfl (hAp.get rfl) ((aQ.ext hT.chg).cell 0 _ rfl)) fun _ _ e => ⟨_, e, rfl, fun _ => Eq.refl _⟩
   ·intro a hT
    have hAp := hT.ag ab [(10, .int .i64 f)] ⟨rfl, trivial⟩ (by kernel_rfl)
    exact opk_val hAp rfl (r_move (hAp.get rfl)) fun _ _ e => ⟨_, e, rfl, fun _ => Eq.refl _⟩
   ·intro a hT
    have hAp := hT.ag ab [] trivial (by kernel_rfl)
    have hAp := hAp.add (t := 41) (v := .int .i64 x) (hT.vals 11 rfl 41 rfl)
    have hAp := hAp.add (t := 42) (v := .int .i64 f) (hT.vals 12 rfl 42 rfl)
    exact opk_val hAp rfl (r_build (vs := #[(0, .int .i64 x), (1, .int .i64 f)]) (cells := #[.int .i64 x, .int .i64 f]) (map_arr2 (ml2_cons (hAp.get rfl) (ml2_cons (hAp.get rfl) (ml2_nil)))) ti_129 Try.underlying129 pl_129 (by kernel_rfl)) fun _ _ e => ⟨_, e, rfl, fun _ => Eq.refl _⟩
   ·intro a hT
    have hAp := hT.ag ab [(5, pB g 0)] ⟨rfl, trivial⟩ (by kernel_rfl)
    exact opk_val hAp rfl (r_fieldAddr (hAp.get rfl) Try.underlying129 rfl ti_3 (by decide)) fun _ _ e => ⟨_, e, rfl, fun _ => Eq.refl _⟩
   ·intro a hT
    have hAp := hT.ag ab [] trivial (by kernel_rfl)
    have hAp := hAp.add (t := 44) (v := pB g 0) (hT.vals 14 rfl 44 rfl)
    exact opk_val hAp rfl (r_load1 tU3 rfl (hAp.get rfl) ((aR.ext hT.chg).cell 0 _ rfl)) fun _ _ e => ⟨_, e, rfl, fun _ => Eq.refl _⟩
   ·intro a hT
    have hAp := hT.ag ab [(11, .int .i64 b)] ⟨rfl, trivial⟩ (by kernel_rfl)
    exact opk_val hAp rfl (r_move (hAp.get rfl)) fun _ _ e => ⟨_, e, rfl, fun _ => Eq.refl _⟩
   ·intro a hT
    have hAp := hT.ag ab [] trivial (by kernel_rfl)
    have hAp := hAp.add (t := 45) (v := .int .i64 q) (hT.vals 15 rfl 45 rfl)
    have hAp := hAp.add (t := 46) (v := .int .i64 b) (hT.vals 16 rfl 46 rfl)
    exact opk_val hAp rfl (r_build (vs := #[(0, .int .i64 q), (1, .int .i64 b)]) (cells := #[.int .i64 q, .int .i64 b]) (map_arr2 (ml2_cons (hAp.get rfl) (ml2_cons (hAp.get rfl) (ml2_nil)))) ti_129 Try.underlying129 pl_129 (by kernel_rfl)) fun _ _ e => ⟨_, e, rfl, fun _ => Eq.refl _⟩
   ·intro bS hT
    have bT := hT.ag ab [(4, pB j 0), (5, pB g 0), (6, pB l 0), (7, pB m 0), (8, pB o 0), (9, pB p 0), (10, .int .i64 f), (11, .int .i64 b)] ⟨rfl, rfl, rfl, rfl, rfl, rfl, rfl, rfl, trivial⟩ (by kernel_rfl)
    have bU : bS.tmps.getD 43 undef = .agg #[.int .i64 x, .int .i64 f] := hT.vals 13 rfl 43 rfl
    have aJ := bT.add bU
    refine opk_storeF aJ aS (r_store (vs := [.int .i64 x, .int .i64 f]) (aJ.get rfl) (aJ.get rfl) rfl ti_129 aS rfl (ones_all _ rfl)) fun bV aj bX bY => ⟨undef, Eq.refl _, ?_⟩
    have bZ : Box bV o 129 [.int .i64 x, .int .i64 f] := bX
    have b0 := aQ.keep aj (by simpa using ba)
    have aU := aR.keep aj (by simpa using bb)
    have b1 := bO.keep aj (by simpa using ax)
    have b2 := bN.keep aj (by simpa using ay)
    have b3 := bP.keep aj (by simpa using aB.symm)
    have b4 := bQ.storeOld aj
    refine PRF_drop (X := [10, 11, 12, 13]) (Fs' := [14, 15, 16, 17]) bY (by kernel_rfl) fun cF b5 cG => ?_
    have an := b5 [(5, pB g 0), (6, pB l 0), (7, pB m 0), (8, pB o 0), (9, pB p 0), (11, .int .i64 b)] ⟨rfl, rfl, rfl, rfl, rfl, rfl, trivial⟩ (by kernel_rfl)
    refine joinF an (by kernel_rfl) ⟨fun _ _ _ _ h => h, fun _ _ _ _ h => h, fun _ _ _ _ h => h, fun _ _ _ _ h => h, trivial⟩ ⟨?_, ?_, ?_, ?_, trivial⟩ ?_
    ·intro a w hT
     have hAp := hT.ag an [(5, pB g 0)] ⟨rfl, trivial⟩ (by kernel_rfl)
     exact ovr hAp rfl (r_fieldAddr (hAp.get rfl) Try.underlying129 rfl ti_3 (by decide)) fun _ => Eq.refl _
    ·intro a w hT
     have hAp := hT.ag an [] trivial (by kernel_rfl)
     have hAp := hAp.add (t := 44) (v := pB g 0) (hT.vals 14 rfl 44 rfl)
     exact ovr hAp rfl (r_load1 tU3 rfl (hAp.get rfl) ((aU.ext hT.chg).cell 0 _ rfl)) fun _ => Eq.refl _
    ·intro a w hT
     have hAp := hT.ag an [(11, .int .i64 b)] ⟨rfl, trivial⟩ (by kernel_rfl)
     exact ovr hAp rfl (r_move (hAp.get rfl)) fun _ => Eq.refl _
    ·intro a w hT
     have hAp := hT.ag an [] trivial (by kernel_rfl)
     have hAp := hAp.add (t := 45) (v := .int .i64 q) (hT.vals 15 rfl 45 rfl)
     have hAp := hAp.add (t := 46) (v := .int .i64 b) (hT.vals 16 rfl 46 rfl)
     exact ovr hAp rfl (r_build (vs := #[(0, .int .i64 q), (1, .int .i64 b)]) (cells := #[.int .i64 q, .int .i64 b]) (map_arr2 (ml2_cons (hAp.get rfl) (ml2_cons (hAp.get rfl) (ml2_nil)))) ti_129 Try.underlying129 pl_129 (by kernel_rfl)) fun _ => Eq.refl _
    ·intro b6 cH af b7 b8
     have b9 := b7 [(6, pB l 0), (7, pB m 0), (8, pB o 0), (9, pB p 0)] ⟨rfl, rfl, rfl, rfl, trivial⟩ (by kernel_rfl)
     have ca : b6.tmps.getD 47 undef = .agg #[.int .i64 q, .int .i64 b] := b8 17 rfl 47 rfl
     have aK := b9.add ca
     have cb := b0.ext af
     have cc := aU.ext af
     have cd := b1.ext af
     have cf := b2.ext af
     have cg := bZ.ext af
     have aV := b3.ext af
     have ch := b4.more af
     refine one (D := [[], [], [1], [1, 2], [0, 1, 2, 3], [], [], [6], [6, 7], [5, 6, 7, 8], [], [10], [], [10, 11, 12], [], [14], [], [14, 15, 16], [0, 1, 2, 3, 4], [0, 1, 2, 3, 4, 5, 6, 7, 8, 9, 18], [0, 1, 2, 3, 4, 5, 6, 7, 8, 9, 10, 11, 12, 13, 18, 19], [0, 1, 2, 3, 4, 5, 6, 7, 8, 9, 10, 11, 12, 13, 14, 15, 16, 17, 18, 19, 20]]) (i := 21) rfl (by kernel_rfl) (opk_store aK aV (r_store (vs := [.int .i64 q, .int .i64 b]) (aK.get rfl) (aK.get rfl) rfl ti_129 aV rfl (ones_all _ rfl)) fun cI aq ak ci cj => ?_)
     have ck : Box aq p 129 [.int .i64 q, .int .i64 b] := ci
     have cJ := cb.keep ak (by simpa using bd)
     have cK := cc.keep ak (by simpa using bf)
     have cl := cd.keep ak (by simpa using az)
     have cm := cf.keep ak (by simpa using aA)
     have cn := cg.keep ak (by simpa using aB)
     have co := ch.storeOld ak
     refine PR_end (by kernel_rfl) ?_
     have cp := cj.kp [(6, pB l 0), (7, pB m 0), (8, pB o 0), (9, pB p 0)] rfl
     refine gK (bs := [(p, 129, [.int .i64 q, .int .i64 b]), (o, 129, [.int .i64 x, .int .i64 f]), (m, 129, [.int .i64 b, .int .i64 (k - 1)]), (l, 129, [.int .i64 f, .int .i64 (u - 1)])]) (N := []) cp co ⟨ck, cn, cm, cl, trivial⟩ (by simp [(Ne.symm aB), (Ne.symm aA), (Ne.symm az), (Ne.symm ay), (Ne.symm ax), (Ne.symm av)]) trivial (by simp) bq ?_
     exact tn <| gr <| gT0 <| gz [.agg #[.int .i64 f, .int .i64 (u - 1)], .agg #[.int .i64 b, .int .i64 (k - 1)], .agg #[.int .i64 x, .int .i64 f], .agg #[.int .i64 q, .int .i64 b]] rfl (fun _ s => ⟨res_of_cell s.ag rfl (s.bx 3 rfl) Try.underlying129 rfl ti_129, res_of_cell s.ag rfl (s.bx 2 rfl) Try.underlying129 rfl ti_129, res_of_cell s.ag rfl (s.bx 1 rfl) Try.underlying129 rfl ti_129, res_of_cell s.ag rfl (s.bx 0 rfl) Try.underlying129 rfl ti_129, trivial⟩)
def ref20_Z_cost.vc (c : Addr) (p : Int) (d : Int) (q : Int) (f : Int) (R : Value → World → Prop) (w : World) : Prop :=
∀ (b : World) (r : Nat) (s : Nat), New w r b → New w s b → r ≠ s → Chg [] w b →
∃ (j : Sl), (b.cell? (c.add 0) = some (Sl.v j)) ∧
∃ (k : Sl), (b.cell? (c.add 2) = some (Sl.v k)) ∧
(I64 (d - 1)) ∧
∃ t : Addr, (((0 : Int) ≤ d - 1 ∧ d - 1 < (k.n : Int)) ∧ k.a = some t) ∧
∃ (g : Int), (b.cell? (t.add ((d - 1).toNat * 1)) = some (.int .i64 g)) ∧
∃ u : Addr, (((0 : Int) ≤ g ∧ g < (j.n : Int)) ∧ j.a = some u) ∧
∃ (x : Int) (y : Str) (z : Str) (aa : Sl) (ab : Sl), (Cells b ((u.add (g.toNat * 15)).add 5) [.int .i64 x, .string (Bs y), .string (Bs z), Sl.v aa, Sl.v ab]) ∧
∃ (l : Sl), (b.cell? (c.add 1) = some (Sl.v l)) ∧
∃ (m : Sl), (b.cell? (c.add 3) = some (Sl.v m)) ∧
(I64 (f - 1)) ∧
∃ ad : Addr, (((0 : Int) ≤ f - 1 ∧ f - 1 < (m.n : Int)) ∧ m.a = some ad) ∧
∃ (i : Int), (b.cell? (ad.add ((f - 1).toNat * 1)) = some (.int .i64 i)) ∧
∃ af : Addr, (((0 : Int) ≤ i ∧ i < (l.n : Int)) ∧ l.a = some af) ∧
∃ (ag : Int) (ah : Str) (ai : Str) (aj : Sl) (ak : Sl), (Cells b ((af.add (i.toNat * 15)).add 5) [.int .i64 ag, .string (Bs ah), .string (Bs ai), Sl.v aj, Sl.v ak]) ∧
∃ (o : Int), (∀ w' : World, Ext b w' → Calls Try.prog 91 #[.agg #[.int .i64 x, .string (Bs y), .string (Bs z), Sl.v aa, Sl.v ab], .agg #[.int .i64 ag, .string (Bs ah), .string (Bs ai), Sl.v aj, Sl.v ak]] w' (Ret fun v w'' => Ext w' w'' ∧ v = .int .i64 o)) ∧
∀ (al : World), Chg [] b al →
R (.int .i64 o) al
theorem ref20_Z_cost.ok (c : Addr) (p : Int) (d : Int) (q : Int) (f : Int) {R : Value → World → Prop} {w : World} (am : ref20_Z_cost.vc c p d q f R w) : Calls Try.prog 88 #[.pointer (some c), .agg #[.int .i64 p, .int .i64 d], .agg #[.int .i64 q, .int .i64 f]] w (Ret R) := by
 refine go _ Try.func88 Try.ntmps88 am ?_
 refine gS <| gR <| nb fun w5 r => ?_
 refine nb fun w7 s => ?_
 refine gN <| ge <| tn <| gS ?_
 refine gD fun b => gT2 <| gE fun j => gA fun an => gE fun k => gA fun ao => gA fun ap => gE fun t => gA fun aq => gE fun g => gA fun ar => gE fun u => gA fun au => gE fun x => gE fun y => gE fun z => gE fun aa => gE fun ab => gA fun av => gE fun l => gA fun ax => gE fun m => gA fun ay => gA fun az => gE fun ad => gA fun aA => gE fun i => gA fun aB => gE fun af => gA fun aC => gE fun ag => gE fun ah => gE fun ai => gE fun aj => gE fun ak => gA fun aD => gE fun o => gA fun aG => ?_
 refine gW 0 34 [(32, rsU (.int .i64 o))] ?_
 refine gM ?_
 refine g1 r_nilCheck ?_
 refine gF 0 Try.underlying127 ti_31 ?_
 refine gP an <| gL tU31 ?_
 refine gM ?_
 refine g1 r_nilCheck ?_
 refine gF 2 Try.underlying127 ti_22 ?_
 refine gP ao <| gL tU22 ?_
 refine gF 1 Try.underlying129 ti_3 ?_
 refine gB 1 tU3 ?_
 refine gP ap <| g2s r_subI ?_
 refine gIx tU22 ti_3 aq ?_
 refine gP ar <| gL tU3 ?_
 refine gIx tU31 ti_38 au ?_
 refine gF 5 Try.underlying38 ti_26 ?_
 refine gP av <| gLN Try.underlying26 ti_26 ?_
 refine gM ?_
 refine g1 r_nilCheck ?_
 refine gF 1 Try.underlying127 ti_31 ?_
 refine gP ax <| gL tU31 ?_
 refine gM ?_
 refine g1 r_nilCheck ?_
 refine gF 3 Try.underlying127 ti_22 ?_
 refine gP ay <| gL tU22 ?_
 refine gF 1 Try.underlying129 ti_3 ?_
 refine gB 0 tU3 ?_
 refine gP az <| g2s r_subI ?_
 refine gIx tU22 ti_3 aA ?_
 refine gP aB <| gL tU3 ?_
 refine gIx tU31 ti_38 aC ?_
 refine gF 5 Try.underlying38 ti_26 ?_
 refine gP aD <| gLN Try.underlying26 ti_26 ?_
 refine yc rfl Try.func91 (fun w' hE _ => aG w' hE) (fun _ _ h => ⟨(), h, trivial⟩) fun _ => ?_
 refine gN ?_
 refine eT fun al => ?_
 refine gZ <| tn <| gr <| gT0 ?_
 exact gz1
def ref20_Cost.vc (a : Int) (b : Str) (g : Str) (i : Sl) (j : Sl) (c : Int) (d : Str) (k : Str) (l : Sl) (m : Sl) (R : Value → World → Prop) (w : World) : Prop :=
∀ (f : World) (n : Nat) (o : Nat), New w n f → New w o f → n ≠ o → Chg [] w f →
CallK Try.prog 84 #[.agg #[.int .i64 a, .string (Bs b), .string (Bs g), Sl.v i, Sl.v j], .agg #[.int .i64 c, .string (Bs d), .string (Bs k), Sl.v l, Sl.v m]] f [n, o] (fun v p => ∃ (q : Int), v = .int .i64 q ∧
((q = 0) →
R (.int .i64 0) p) ∧
((¬ (q = 0)) →
(((a = c) ∧ (b = d)) →
R (.int .i64 1) p) ∧
(((¬ (a = c)) ∨ (¬ (b = d))) →
R (.int .i64 3) p)))
theorem ref20_Cost.ok (a : Int) (b : Str) (g : Str) (i : Sl) (j : Sl) (c : Int) (d : Str) (k : Str) (l : Sl) (m : Sl) {R : Value → World → Prop} {w : World} (r : ref20_Cost.vc a b g i j c d k l m R w) : Calls Try.prog 91 #[.agg #[.int .i64 a, .string (Bs b), .string (Bs g), Sl.v i, Sl.v j], .agg #[.int .i64 c, .string (Bs d), .string (Bs k), Sl.v l, Sl.v m]] w (Ret R) := by
 refine go _ Try.func91 Try.ntmps91 r ?_
 refine gS <| gR <| nb fun s n => ?_
 refine nb fun f o => ?_
 refine gN <| ge <| tn <| gS <| gb <| gS <| gR ?_
 refine gBN 1 5 Try.underlying26 ti_26 ?_
 refine gBN 0 5 Try.underlying26 ti_26 <| gT2 ?_
 refine gC [1, 0] Try.func84 fun _ p => gE fun q => gQ ?_
 refine g2 r_eql ?_
 refine gN <| ge <| tn ?_
 refine gi dT dF ?_ ?_
 ·refine gS <| gR <| gN <| ge <| tn <| gr <| br <| tr ?_
  exact gz1
 ·refine gS <| gR <| gF 0 Try.underlying26 ti_3 ?_
  refine gB 1 tU3 ?_
  refine gF 0 Try.underlying26 ti_3 ?_
  refine gB 0 tU3 ?_
  refine g2 r_eql ?_
  refine gM ?_
  refine GF 1 Try.underlying26 ti_9 ?_
  refine GB 1 tU9 ?_
  refine GF 1 Try.underlying26 ti_9 ?_
  refine GB 0 tU9 ?_
  refine G2 r_seql ?_
  refine gpa ?_
  refine gN <| ge <| tn ?_
  refine gi (fun h => ⟨(dT (aT h).1), (dT (aT h).2)⟩) (fun h => ((aF h).imp (fun h => (dF h)) (fun h => (dF h)))) ?_ ?_
  ·refine gS <| gR <| gN <| ge <| tn <| gr <| br <| tr ?_
   exact gz1
  ·refine gk <| bn <| tn <| gS <| gR <| gN <| ge <| tn <| gr ?_
   exact gz1
end Go.Proofs.Yteohbfaechfliaa
