/-
  PRINTED BY PROGRAM: for each function its condition (vc), and that this suffices (ok).
-/
import Derived.Test.YteohbfaechfliaaQSlotsTurnedGT
namespace Go.Proofs.Yteohbfaechfliaa
open Go.RowKit
set_option linter.unusedVariables false
set_option maxHeartbeats 1000000
set_option maxRecDepth 10000
def slots_Of.vc (aS : Int) (aU : Str) (aV : Str) (aX : Sl) (aY : Sl) (aZ : Int) (a0 : Str) (a1 : Str) (a2 : Sl) (a3 : Sl) (u : Sl) (R : Value → World → Prop) (w : World) : Prop :=
∀ (w7 : World) (bj : Nat) (bk : Nat), New w bj w7 → New w bk w7 → bj ≠ bk → Chg [] w w7 →
CallK Try.prog 36 #[.agg #[.int .i64 aS, .string (Bs aU), .string (Bs aV), Sl.v aX, Sl.v aY], .agg #[.int .i64 aZ, .string (Bs a0), .string (Bs a1), Sl.v a2, Sl.v a3], Sl.v u] w7 [bj, bk] (fun v bP => ∃ (bl : Bool), v = .bool bl ∧
((bl = false) →
R (.tuple #[Sl.v Sl.nil, .int .i64 1]) bP) ∧
((bl = true) →
∀ (a5 : World), Chg [] bP a5 →
∃ aB : Sl → World → Prop, (∀ j : Sl, ∀ w' w'' : World, Ext w' w'' → aB j w' → aB j w'') ∧
(∀ w' : World, Ext a5 w' → Calls Try.prog 37 #[.agg #[.int .i64 aS, .string (Bs aU), .string (Bs aV), Sl.v aX, Sl.v aY]] w' (Ret fun v w'' => Ext w' w'' ∧ ∃ j : Sl, v = Sl.v j ∧ aB j w'')) ∧
∃ aC : Sl → World → Prop, (∀ l : Sl, ∀ w' w'' : World, Ext w' w'' → aC l w' → aC l w'') ∧
(∀ w' : World, Ext a5 w' → Calls Try.prog 37 #[.agg #[.int .i64 aZ, .string (Bs a0), .string (Bs a1), Sl.v a2, Sl.v a3]] w' (Ret fun v w'' => Ext w' w'' ∧ ∃ l : Sl, v = Sl.v l ∧ aC l w'')) ∧
∀ (a6 : World) (j : Sl) (l : Sl), Ext a5 a6 → aB j a6 → aC l a6 → 
RunK Try.prog (Instr.makeMap 81 none) a6 [] (fun v cD => ∃ (q : Option Nat), v = .map q ∧
RunK Try.prog (Instr.makeMap 81 none) cD [] (fun v bQ => ∃ (ar : Option Nat), v = .map ar ∧
∀ (bo : World) (k : Nat), New bQ k bo → Chg [] bQ bo →
∃ (bR : Int → World → Prop) (cF : Int → World → Nat),
bR 0 bo ∧
(∀ (r : Int) (au : World), bR r au →
((r < (u.n : Int)) →
((0 : Int) ≤ r ∧ r < (u.n : Int)) ∧ ∃ bS : Addr, u.a = some bS ∧
∃ (ao : Int) (ap : Int), (Cells au (bS.add (r.toNat * 2)) [.int .i64 ao, .int .i64 ap]) ∧
∀ (a7 : World) (m : Nat), New au m a7 → Chg [] au a7 →
RunU Try.prog (Instr.mapUpdate 81 (.map q) (.int .i64 ao) (.int .i64 ap)) a7 [k, m] (fun bT =>
∀ (a8 : World), Chg [] bT a8 →
RunU Try.prog (Instr.mapUpdate 81 (.map ar) (.int .i64 ap) (.int .i64 ao)) a8 [k, m] (fun bU =>
(I64 (r + 1)) ∧
bR (r + 1) bU ∧ cF (r + 1) bU < cF r au))) ∧
((¬ (r < (u.n : Int))) →
RunK Try.prog (Instr.makeSlice 33 (.int .i64 (j.n : Int)) (.int .i64 (j.n : Int))) au [k] (fun v bV => ∃ (g : Sl), v = Sl.v g ∧
∀ (_ : Box bV k 81 [.map ar]),
∃ (bp : Int → World → Prop) (bq : Int → World → Nat),
bp 0 bV ∧
(∀ (d : Int) (ak : World), bp d ak →
((d < (j.n : Int)) →
∃ (p : Int) (bt : Bool), ((Instr.lookup 81 (.map q) (.int .i64 d) true).run Try.prog ak = .ok (.tuple #[.int .i64 p, .bool bt]) ak) ∧
((bt = false) →
((0 : Int) ≤ d ∧ d < (g.n : Int)) ∧ ∃ bX : Addr, g.a = some bX ∧
∃ (aD bu : Nat) (bY : TypeId) (bv : List Value), ((bX.add (d.toNat * 6)).add 0) = ⟨aD, bu, none⟩ ∧ Box ak aD bY bv ∧ bu + 1 ≤ bv.length ∧ (∀ b ∈ [], b ≠ aD) ∧
(∀ a9 : World, Chg [aD] ak a9 → Box a9 aD bY (putAt bv bu [.bool true]) →
(I64 (d + 1)) ∧
bp (d + 1) a9 ∧ bq (d + 1) a9 < bq d ak)) ∧
((bt = true) →
∀ (aG : World), Chg [] ak aG →
∃ bZ : Addr, (((0 : Int) ≤ d ∧ d < (j.n : Int)) ∧ j.a = some bZ) ∧
∃ (b0 : Int) (b1 : Str) (b2 : Str) (b3 : Sl) (b4 : Sl), (Cells aG ((bZ.add (d.toNat * 10)).add 5) [.int .i64 b0, .string (Bs b1), .string (Bs b2), Sl.v b3, Sl.v b4]) ∧
∃ b5 : Addr, (((0 : Int) ≤ p ∧ p < (l.n : Int)) ∧ l.a = some b5) ∧
∃ (b6 : Int) (b7 : Str) (b8 : Str) (b9 : Sl) (ca : Sl), (Cells aG ((b5.add (p.toNat * 10)).add 5) [.int .i64 b6, .string (Bs b7), .string (Bs b8), Sl.v b9, Sl.v ca]) ∧
∃ aH : Bool → Bool → Sl → Sl → Int → Sl → World → Prop, (∀ y : Bool, ∀ z : Bool, ∀ aa : Sl, ∀ ab : Sl, ∀ ad : Int, ∀ af : Sl, ∀ w' w'' : World, Ext w' w'' → aH y z aa ab ad af w' → aH y z aa ab ad af w'') ∧
(∀ w' : World, Ext aG w' → Calls Try.prog 39 #[.agg #[.int .i64 b0, .string (Bs b1), .string (Bs b2), Sl.v b3, Sl.v b4], .agg #[.int .i64 b6, .string (Bs b7), .string (Bs b8), Sl.v b9, Sl.v ca]] w' (Ret fun v w'' => Ext w' w'' ∧ ∃ y : Bool, ∃ z : Bool, ∃ aa : Sl, ∃ ab : Sl, ∃ ad : Int, ∃ af : Sl, v = .agg #[.bool y, .bool z, Sl.v aa, Sl.v ab, .int .i64 ad, Sl.v af] ∧ aH y z aa ab ad af w'')) ∧
∃ cb : Addr, (((0 : Int) ≤ d ∧ d < (g.n : Int)) ∧ g.a = some cb) ∧
∀ (ba : World) (y : Bool) (z : Bool) (aa : Sl) (ab : Sl) (ad : Int) (af : Sl), Ext aG ba → aH y z aa ab ad af ba → 
∃ (aI bz : Nat) (cc : TypeId) (bA : List Value), (cb.add (d.toNat * 6)) = ⟨aI, bz, none⟩ ∧ Box ba aI cc bA ∧ bz + 6 ≤ bA.length ∧ (∀ b ∈ [], b ≠ aI) ∧
(∀ bb : World, Chg [aI] ba bb → Box bb aI cc (putAt bA bz [.bool y, .bool z, Sl.v aa, Sl.v ab, .int .i64 ad, Sl.v af]) →
((0 : Int) ≤ d ∧ d < (g.n : Int)) ∧ ∃ cd : Addr, g.a = some cd ∧
∃ (aJ bB : Nat) (cf : TypeId) (bC : List Value), ((cd.add (d.toNat * 6)).add 4) = ⟨aJ, bB, none⟩ ∧ Box bb aJ cf bC ∧ bB + 1 ≤ bC.length ∧ (∀ b ∈ [], b ≠ aJ) ∧
(∀ aK : World, Chg [aJ] bb aK → Box aK aJ cf (putAt bC bB [.int .i64 (-1)]) →
((0 : Int) ≤ p ∧ p < (l.n : Int)) ∧ ∃ cg : Addr, l.a = some cg ∧
∃ (bd : Int), (aK.cell? ((cg.add (p.toNat * 10)).add 0) = some (.int .i64 bd)) ∧
∃ ch : World → Prop,
(((0 ≤ bd) →
CallK Try.prog 38 #[.int .i64 bd, .pointer (some (⟨k, 0, none⟩ : Addr))] aK [] (fun v ci => ∃ (cj : Int), v = .int .i64 cj ∧
((0 : Int) ≤ d ∧ d < (g.n : Int)) ∧ ∃ ck : Addr, g.a = some ck ∧
∃ (aL bD : Nat) (cl : TypeId) (bF : List Value), ((ck.add (d.toNat * 6)).add 4) = ⟨aL, bD, none⟩ ∧ Box ci aL cl bF ∧ bD + 1 ≤ bF.length ∧ (∀ b ∈ [], b ≠ aL) ∧
(∀ bG : World, Chg [aL] ci bG → Box bG aL cl (putAt bF bD [.int .i64 cj]) →
ch bG))) ∧
((¬ (0 ≤ bd)) →
ch aK)) ∧
(∀ (cm : World), ch cm →
(I64 (p + 1)) ∧
∃ (cn : Int → World → Prop) (cG : Int → World → Nat),
cn (p + 1) cm ∧
(∀ (o : Int) (aq : World), cn o aq →
((0 : Int) ≤ p ∧ p < (l.n : Int)) ∧ ∃ co : Addr, l.a = some co ∧
∃ (bf : Int), (aq.cell? ((co.add (p.toNat * 10)).add 1) = some (.int .i64 bf)) ∧
(I64 (p + bf)) ∧
((o < (p + bf)) →
∀ (al : World), Chg [] aq al →
∃ am : Addr, (((0 : Int) ≤ d ∧ d < (g.n : Int)) ∧ g.a = some am) ∧
∃ (aM : Sl), (al.cell? ((am.add (d.toNat * 6)).add 5) = some (Sl.v aM)) ∧
∃ (an : Int), (∀ w' : World, Ext al w' → Calls Try.prog 38 #[.int .i64 o, .pointer (some (⟨k, 0, none⟩ : Addr))] w' (Ret fun v w'' => Ext w' w'' ∧ v = .int .i64 an)) ∧
∀ (av : World) (x : Nat), Ext al av → al.heap.size ≤ x → Box av x 3 [.int .i64 an] → 
∀ (_ : Box av x 3 [.int .i64 an]),
RunK Try.prog (Builtin.append_ #[22, 22] 22 #[Sl.v aM, Sl.v (Sl.mk (some ⟨x, 0, none⟩) 1 1)]) av [] (fun v bH => ∃ (ax : Sl), v = Sl.v ax ∧
(bH.cell? ((am.add (d.toNat * 6)).add 5) = some (Sl.v aM)) ∧
∀ (aN : World), Chg [] bH aN →
∃ ay : Addr, (((0 : Int) ≤ d ∧ d < (g.n : Int)) ∧ g.a = some ay) ∧
∀ (aO : World), Chg [] aN aO →
∃ (aP bI : Nat) (cp : TypeId) (bJ : List Value), ((ay.add (d.toNat * 6)).add 5) = ⟨aP, bI, none⟩ ∧ Box aO aP cp bJ ∧ bI + 1 ≤ bJ.length ∧ (∀ b ∈ [], b ≠ aP) ∧
(∀ az : World, Chg [aP] aO az → Box az aP cp (putAt bJ bI [Sl.v ax]) →
((0 : Int) ≤ o ∧ o < (l.n : Int)) ∧ ∃ cq : Addr, l.a = some cq ∧
∃ (bg : Int), (az.cell? ((cq.add (o.toNat * 10)).add 1) = some (.int .i64 bg)) ∧
(I64 (o + bg)) ∧
cn (o + bg) az ∧ cG (o + bg) az < cG o aq))) ∧
((¬ (o < (p + bf))) →
(I64 (d + 1)) ∧
bp (d + 1) aq ∧ bq (d + 1) aq < bq d ak))))))) ∧
((¬ (d < (j.n : Int))) →
R (.tuple #[Sl.v g, .int .i64 0]) ak)))))))))
theorem slots_Of.ok (aS : Int) (aU : Str) (aV : Str) (aX : Sl) (aY : Sl) (aZ : Int) (a0 : Str) (a1 : Str) (a2 : Sl) (a3 : Sl) (u : Sl) {R : Value → World → Prop} {w : World} (cS : slots_Of.vc aS aU aV aX aY aZ a0 a1 a2 a3 u R w) : Calls Try.prog 12 #[.agg #[.int .i64 aS, .string (Bs aU), .string (Bs aV), Sl.v aX, Sl.v aY], .agg #[.int .i64 aZ, .string (Bs a0), .string (Bs a1), Sl.v a2, Sl.v a3], Sl.v u] w (Ret R) := by
 refine go _ Try.func12 Try.ntmps12 cS ?_
 refine gS <| gR <| nb fun w5 bj => ?_
 refine nb fun w7 bk => ?_
 refine gN ?_
 refine gN <| ge <| tn <| gS <| gS <| gR ?_
 refine gBN 1 5 Try.underlying26 ti_26 ?_
 refine gBN 0 5 Try.underlying26 ti_26 ?_
 refine gM <| gT2 ?_
 refine gC [1, 0] Try.func36 fun _ bP => gE fun bl => gQ ?_
 refine g1 r_not <| ge <| tn ?_
 refine gi nT nF ?_ ?_
 ·refine gS <| gR <| gN ?_
  refine gN <| ge <| tn <| gr <| tr ?_
  exact gz2
 ·refine gk <| tn <| gS <| gD fun a5 => gT0 <| gE fun aB => gA fun cT => gA fun cU => gE fun aC => gA fun cX => gA fun cY => ?_
  refine gW 0 6 [(1, ⟨Sl, default, fun s => Sl.v s, fun s w => aB s w, cT⟩), (3, ⟨Sl, default, fun s => Sl.v s, fun s w => aC s w, cX⟩)] ?_
  refine gBN 1 5 Try.underlying26 ti_26 ?_
  refine yc rfl Try.func37 (fun w' hE _ => cU w' hE) (fun _ _ h => h) fun j => ?_
  refine gBN 0 5 Try.underlying26 ti_26 ?_
  refine yc rfl Try.func37 (fun w' hE _ => cY w' hE) (fun _ _ h => h) fun l => ?_
  refine gN ?_
  refine gN ?_
  refine eF (fun v w' hE hF => v w' j l hE hF.2.1 hF.1) fun a6 => ?_
  refine gZ <| tn <| gS <| gR ?_
  refine gR0 [] r_makeMap fun _ cD => gE fun q => gQ ?_
  refine gR0 [] r_makeMap fun _ bQ => gE fun ar => gQ ?_
  refine na ti_81 fun fH k => ?_
  refine gN ?_
  refine wn 0 0 ti_81 fun bo => ge <| tn <| gS <| gS <| gR ?_
  refine gM ?_
  refine g1 (fun aA => r_len aA tU29) ?_
  refine gM <| ge <| tn <| gb <| gT1 <| gE fun _ => gE fun mu => ?_
  refine l1 mu (fun r => [(34, .int .i64 r)]) [(8, _), (9, _), (10, _), (11, _), (32, _), (33, _)] (fun _ => []) [(k, _, _)] [0] fun r au _ => gS <| gR ?_
  refine g2 r_lss <| ge <| tn <| gS ?_
  refine gi dT dF ?_ ?_
  ·refine gk <| tn <| gS <| gb <| gS <| gR <| gI1 tU29 ti_40 fun bS => ?_
   refine gE fun ao => gE fun ap => gLN Try.underlying40 ti_40 ?_
   refine na ti_40 fun fI m => ?_
   refine wn 0 0 ti_40 fun fJ => ge <| tn ?_
   intro fK aQ cZ
   have ah := aQ.ag
   have c0 := aQ.bx 1 rfl
   have c1 := aQ.bx 0 rfl
   have c2 := aQ.chg
   have c3 := aQ.new m (by simp)
   have fL : k ≠ m := aQ.ne 1 0
   let cH : List (List Nat) := [[], [], [1], [], [], [4], [], [6], [], [8], [0, 1, 2, 6, 7], [0, 1, 2, 3, 4, 5, 6, 7, 8, 9, 10]]
   refine draw' (by kernel_rfl) fun a7 bK => ?_
   have cI := c0.ext bK
   have bi := c1.ext bK
   have c4 := c2.more bK
   have c5 := c3.up bK.size
   have c6 := cZ a7 m c5  c4
   refine startF (D := cH) (Fs := [0, 1, 2, 3, 4, 5, 6, 7, 8, 9]) (Ef := [(0, fun v _ => v = .map q), (1, fun v _ => v = pB m 0), (2, fun v _ => v = .int .i64 ao), (3, fun v _ => v = .map ar), (4, fun v _ => v = pB m 1), (5, fun v _ => v = .int .i64 ap), (6, fun v _ => v = pB m 1), (7, fun v _ => v = .int .i64 ap), (8, fun v _ => v = pB m 0), (9, fun v _ => v = .int .i64 ao)]) (by kernel_rfl) ?_
   refine oneF (c := 10) ah rfl (by kernel_rfl) (constF ⟨fun _ _ _ h => h, fun _ _ _ h => h, fun _ _ _ h => h, fun _ _ _ h => h, fun _ _ _ h => h, fun _ _ _ h => h, fun _ _ _ h => h, fun _ _ _ h => h, fun _ _ _ h => h, fun _ _ _ h => h, trivial⟩) ⟨?_, ?_, ?_, ?_, ?_, ?_, ?_, ?_, ?_, ?_, trivial⟩ ?_
   ·intro a hT
    have hAp := hT.ag ah [(10, .map q)] ⟨rfl, trivial⟩ (by kernel_rfl)
    exact opk_val hAp rfl (r_move (hAp.get rfl)) fun _ _ e => ⟨_, e, rfl, fun _ => Eq.refl _⟩
   ·intro a hT
    have hAp := hT.ag ah [(13, pB m 0)] ⟨rfl, trivial⟩ (by kernel_rfl)
    exact opk_val hAp rfl (r_fieldAddr (hAp.get rfl) Try.underlying40 rfl ti_3 (by decide)) fun _ _ e => ⟨_, e, rfl, fun _ => Eq.refl _⟩
   ·intro a hT
    have hAp := hT.ag ah [] trivial (by kernel_rfl)
    have hAp := hAp.add (t := 39) (v := pB m 0) (hT.vals 1 rfl 39 rfl)
    exact opk_val hAp rfl (r_load1 tU3 rfl (hAp.get rfl) ((bi.ext hT.chg).cell 0 _ rfl)) fun _ _ e => ⟨_, e, rfl, fun _ => Eq.refl _⟩
   ·intro a hT
    have hAp := hT.ag ah [(11, pB k 0)] ⟨rfl, trivial⟩ (by kernel_rfl)
    exact opk_val hAp rfl (r_load1 tU81 rfl (hAp.get rfl) ((cI.ext hT.chg).cell 0 _ rfl)) fun _ _ e => ⟨_, e, rfl, fun _ => Eq.refl _⟩
   ·intro a hT
    have hAp := hT.ag ah [(13, pB m 0)] ⟨rfl, trivial⟩ (by kernel_rfl)
    exact opk_val hAp rfl (r_fieldAddr (hAp.get rfl) Try.underlying40 rfl ti_3 (by decide)) fun _ _ e => ⟨_, e, rfl, fun _ => Eq.refl _⟩
   ·intro a hT
    have hAp := hT.ag ah [] trivial (by kernel_rfl)
    have hAp := hAp.add (t := 42) (v := pB m 1) (hT.vals 4 rfl 42 rfl)
    exact opk_val hAp rfl (r_load1 tU3 rfl (hAp.get rfl) ((bi.ext hT.chg).cell 1 _ rfl)) fun _ _ e => ⟨_, e, rfl, fun _ => Eq.refl _⟩
   ·intro a hT
    have hAp := hT.ag ah [(13, pB m 0)] ⟨rfl, trivial⟩ (by kernel_rfl)
    exact opk_val hAp rfl (r_fieldAddr (hAp.get rfl) Try.underlying40 rfl ti_3 (by decide)) fun _ _ e => ⟨_, e, rfl, fun _ => Eq.refl _⟩
   ·intro a hT
    have hAp := hT.ag ah [] trivial (by kernel_rfl)
    have hAp := hAp.add (t := 44) (v := pB m 1) (hT.vals 6 rfl 44 rfl)
    exact opk_val hAp rfl (r_load1 tU3 rfl (hAp.get rfl) ((bi.ext hT.chg).cell 1 _ rfl)) fun _ _ e => ⟨_, e, rfl, fun _ => Eq.refl _⟩
   ·intro a hT
    have hAp := hT.ag ah [(13, pB m 0)] ⟨rfl, trivial⟩ (by kernel_rfl)
    exact opk_val hAp rfl (r_fieldAddr (hAp.get rfl) Try.underlying40 rfl ti_3 (by decide)) fun _ _ e => ⟨_, e, rfl, fun _ => Eq.refl _⟩
   ·intro a hT
    have hAp := hT.ag ah [] trivial (by kernel_rfl)
    have hAp := hAp.add (t := 46) (v := pB m 0) (hT.vals 8 rfl 46 rfl)
    exact opk_val hAp rfl (r_load1 tU3 rfl (hAp.get rfl) ((bi.ext hT.chg).cell 0 _ rfl)) fun _ _ e => ⟨_, e, rfl, fun _ => Eq.refl _⟩
   ·intro cr hT
    have c7 := hT.ag ah [(8, Sl.v j), (9, Sl.v l), (10, .map q), (11, pB k 0), (13, pB m 0), (32, Sl.v u), (33, .int .i64 (u.n : Int)), (34, .int .i64 r)] ⟨rfl, rfl, rfl, rfl, rfl, rfl, rfl, rfl, trivial⟩ (by kernel_rfl)
    have c8 : cr.tmps.getD 38 undef = .map q := hT.vals 0 rfl 38 rfl
    have c9 := c7.add c8
    have da : cr.tmps.getD 40 undef = .int .i64 ao := hT.vals 2 rfl 40 rfl
    have db := c9.add da
    have dc : cr.tmps.getD 45 undef = .int .i64 ap := hT.vals 7 rfl 45 rfl
    have bL := db.add dc
    refine opk_runUF bL (fun _ hr => r_mapUpdate (bL.get rfl) (bL.get rfl) (bL.get rfl) hr) c6 fun bT dd cJ fM df => ⟨undef, Eq.refl _, ?_⟩
    have cK := cI.kept cJ (.head _)
    have ct := bi.kept cJ (.tail _ (.head _))
    refine PRF_drop (X := [0, 1, 2, 6, 7]) (Fs' := [3, 4, 5, 8, 9]) dd (by kernel_rfl) fun fN dg fO => ?_
    have aR := dg [(8, Sl.v j), (9, Sl.v l), (10, .map q), (11, pB k 0), (13, pB m 0), (32, Sl.v u), (33, .int .i64 (u.n : Int)), (34, .int .i64 r)] ⟨rfl, rfl, rfl, rfl, rfl, rfl, rfl, rfl, trivial⟩ (by kernel_rfl)
    refine joinF aR (by kernel_rfl) ⟨fun _ _ _ _ h => h, fun _ _ _ _ h => h, fun _ _ _ _ h => h, fun _ _ _ _ h => h, fun _ _ _ _ h => h, trivial⟩ ⟨?_, ?_, ?_, ?_, ?_, trivial⟩ ?_
    ·intro a w hT
     have hAp := hT.ag aR [(11, pB k 0)] ⟨rfl, trivial⟩ (by kernel_rfl)
     exact ovr hAp rfl (r_load1 tU81 rfl (hAp.get rfl) ((cK.ext hT.chg).cell 0 _ rfl)) fun _ => Eq.refl _
    ·intro a w hT
     have hAp := hT.ag aR [(13, pB m 0)] ⟨rfl, trivial⟩ (by kernel_rfl)
     exact ovr hAp rfl (r_fieldAddr (hAp.get rfl) Try.underlying40 rfl ti_3 (by decide)) fun _ => Eq.refl _
    ·intro a w hT
     have hAp := hT.ag aR [] trivial (by kernel_rfl)
     have hAp := hAp.add (t := 42) (v := pB m 1) (hT.vals 4 rfl 42 rfl)
     exact ovr hAp rfl (r_load1 tU3 rfl (hAp.get rfl) ((ct.ext hT.chg).cell 1 _ rfl)) fun _ => Eq.refl _
    ·intro a w hT
     have hAp := hT.ag aR [(13, pB m 0)] ⟨rfl, trivial⟩ (by kernel_rfl)
     exact ovr hAp rfl (r_fieldAddr (hAp.get rfl) Try.underlying40 rfl ti_3 (by decide)) fun _ => Eq.refl _
    ·intro a w hT
     have hAp := hT.ag aR [] trivial (by kernel_rfl)
     have hAp := hAp.add (t := 46) (v := pB m 0) (hT.vals 8 rfl 46 rfl)
     exact ovr hAp rfl (r_load1 tU3 rfl (hAp.get rfl) ((ct.ext hT.chg).cell 0 _ rfl)) fun _ => Eq.refl _
    ·intro cu a8 cv dh cx
     have di := dh [(8, Sl.v j), (9, Sl.v l), (10, .map q), (11, pB k 0), (32, Sl.v u), (33, .int .i64 (u.n : Int)), (34, .int .i64 r)] ⟨rfl, rfl, rfl, rfl, rfl, rfl, rfl, trivial⟩ (by kernel_rfl)
     have dj : cu.tmps.getD 41 undef = .map ar := cx 3 rfl 41 rfl
     have dk := di.add dj
     have dl : cu.tmps.getD 43 undef = .int .i64 ap := cx 5 rfl 43 rfl
     have dm := dk.add dl
     have dn : cu.tmps.getD 47 undef = .int .i64 ao := cx 9 rfl 47 rfl
     have bM := dm.add dn
     have dp := cK.ext cv
     have dq := ct.ext cv
     have dr : Chg [] bT a8 := cv
     have ds := df a8    dr
     refine one (D := cH) (i := 11) rfl (by kernel_rfl) (opk_runU bM (fun _ hr => r_mapUpdate (bM.get rfl) (bM.get rfl) (bM.get rfl) hr) ds fun fP bU dt cL fQ du => ?_)
     have dv := dp.kept cL (.head _)
     have fR := dq.kept cL (.tail _ (.head _))
     refine PR_end (by kernel_rfl) ?_
     have dx := dt.kp [(8, Sl.v j), (9, Sl.v l), (10, .map q), (11, pB k 0), (32, Sl.v u), (33, .int .i64 (u.n : Int)), (34, .int .i64 r)] rfl
     refine gK (bs := [(k, 81, [.map ar])]) (N := []) dx (Chg.refl [] _) ⟨dv, trivial⟩ (by simp) trivial (by simp) du ?_
     refine bn <| tn <| gR <| g2s r_addI ?_
     refine gM <| ge ?_
     exact k1 [0]
  ·refine gx <| te <| te <| bh <| tn <| gS <| gR <| g1 (fun aA => r_makeFunc (f := #[]) (c := #[pB k 0]) (map_arr ml_nil) (map_arr (ml_cons aA ml_nil))) ?_
   refine gN <| ge <| tn <| gS <| gR ?_
   refine gM ?_
   refine g1 (fun aA => r_len aA tU79) ?_
   refine gR2 [0] r_makeSlice fun _ bV => gE fun g => gQ ?_
   refine gN <| ge <| tn <| gS <| gS <| gR ?_
   refine gM ?_
   refine g1 (fun aA => r_len aA tU79) ?_
   refine gM <| ge <| tn <| gb ?_
   refine gX 0 <| gE fun _ => gE fun mu => ?_
   refine l1 mu (fun d => [(55, .int .i64 d)]) [(8, _), (9, _), (10, _), (14, _), (15, _), (54, _)] (fun _ => []) [] [] fun d ak _ => gS <| gR ?_
   refine g2 r_lss <| ge <| tn <| gS ?_
   refine gi dT dF ?_ ?_
   ·refine gk <| tn <| gS <| gb <| gS <| gR <| gM ?_
    refine gN <| ge <| tn <| gS <| gR ?_
    refine gM ?_
    refine gM ?_
    refine gE fun p => gE fun bt => gA fun hx => ev (fun _ s => r_lookup (s.ag.opv rfl) (s.ag.opv rfl) hx) ?_
    refine gM ?_
    refine gx1 ?_
    refine gx1 ?_
    refine gN ?_
    refine gN <| ge <| tn <| gS <| gS <| gR ?_
    refine gM ?_
    refine g1 r_not <| ge <| tn ?_
    refine gi nT nF ?_ ?_
    ·refine gS <| gR <| gM ?_
     refine gM ?_
     refine gI1 tU33 ti_43 fun bX => ?_
     refine gF 0 Try.underlying43 ti_4 ?_
     refine wx [] ti_4 fun aD bu bY bv a9 => ge <| tn <| gx <| te <| bh <| tn <| gR ?_
     refine g2s r_addI ?_
     refine gM <| ge ?_
     exact k1 []
    ·refine gk <| tn <| gS <| gD fun aG => gT0 <| gE fun bZ => gA fun dy => gE fun b0 => gE fun b1 => gE fun b2 => gE fun b3 => gE fun b4 => gA fun dz => gE fun b5 => gA fun dA => gE fun b6 => gE fun b7 => gE fun b8 => gE fun b9 => gE fun ca => gA fun dB => gE fun aH => gA fun dC => gA fun dD => gE fun cb => gA fun dG => ?_
     refine gW 0 14 [(12, ⟨Bool × Bool × Sl × Sl × Int × Sl, default, fun s => .agg #[.bool s.1, .bool s.2.1, Sl.v s.2.2.1, Sl.v s.2.2.2.1, .int .i64 s.2.2.2.2.1, Sl.v s.2.2.2.2.2], fun s w => aH s.1 s.2.1 s.2.2.1 s.2.2.2.1 s.2.2.2.2.1 s.2.2.2.2.2 w, fun s => dC s.1 s.2.1 s.2.2.1 s.2.2.2.1 s.2.2.2.2.1 s.2.2.2.2.2⟩)] ?_
     refine gM ?_
     refine gM ?_
     refine gM ?_
     refine gM ?_
     refine gIx tU79 ti_86 dy ?_
     refine gF 5 Try.underlying86 ti_26 ?_
     refine gP dz <| gLN Try.underlying26 ti_26 ?_
     refine gM ?_
     refine gM ?_
     refine gIx tU79 ti_86 dA ?_
     refine gF 5 Try.underlying86 ti_26 ?_
     refine gP dB <| gLN Try.underlying26 ti_26 ?_
     refine yc rfl Try.func39 (fun w' hE _ => dD w' hE) (fun _ _ ⟨y, z, aa, ab, ad, af, h1, h2⟩ => ⟨(y, z, aa, ab, ad, af), h1, h2⟩) fun ⟨y, z, aa, ab, ad, af⟩ => ?_
     refine gIx tU33 ti_43 dG ?_
     refine eF (fun v w' hE hF => v w' y z aa ab ad af hE hF.1) fun ba => ?_
     refine gO 14 ?_
     refine wx [] ti_43 fun aI bz cc bA bb => geO ?_
     refine gZ <| tn <| gS <| gR ?_
     refine gM ?_
     refine gM ?_
     refine gI1 tU33 ti_43 fun cd => ?_
     refine gF 4 Try.underlying43 ti_3 ?_
     refine wx [] ti_3 fun aJ bB cf bC aK => ge <| tn <| gS <| gS <| gR ?_
     refine gM ?_
     refine gM ?_
     refine gI1 tU79 ti_86 fun cg => ?_
     refine gF 0 Try.underlying86 ti_3 ?_
     refine gE fun bd => gL tU3 ?_
     refine gN <| ge <| tn <| gS <| gR ?_
     refine gM ?_
     refine g2 r_geq <| ge <| tn <| gE fun J => ?_
     refine m0 [] [(8, _), (9, _), (10, _), (14, _), (15, _), (16, _), (17, _), (54, _), (55, _)] [] [] [] ?_ fun  cm _ => ?_
     ·refine gi dT dF ?_ ?_
      ·refine gR <| gM ?_
       refine gM ?_
       refine gM ?_
       refine gM ?_
       refine gCv [] Try.func38 fun _ ci => gE fun cj => gQ ?_
       refine gI1 tU33 ti_43 fun ck => ?_
       refine gF 4 Try.underlying43 ti_3 ?_
       refine wx [] ti_3 fun aL bD cl bF bG => ge ?_
       exact j0 []
      ·exact gk <| j0 []
     ·refine tn <| gS <| gR <| gM ?_
      refine g2s r_addI ?_
      refine gN <| ge <| tn <| gb <| gE fun _ => gE fun mu => ?_
      refine l1 mu (fun o => [(20, .int .i64 o)]) [(8, _), (9, _), (10, _), (14, _), (15, _), (16, _), (17, _), (54, _), (55, _)] (fun _ => []) [] [] fun o aq _ => gS <| gS <| gR ?_
      refine gM ?_
      refine gM ?_
      refine gM ?_
      refine gM ?_
      refine gI1 tU79 ti_86 fun co => ?_
      refine gF 1 Try.underlying86 ti_3 ?_
      refine gE fun bf => gL tU3 ?_
      refine g2s r_addI ?_
      refine g2 r_lss <| ge <| tn ?_
      refine gi dT dF ?_ ?_
      ·refine gk <| tn <| gS <| gb ?_
       intro fS dJ dK
       have ai := dJ.ag
       let bN : List (List Nat) := [[], [], [], [], [2, 3], [2, 3, 4], [2, 3, 4, 5], [], [], [7, 8], [7, 8, 9], [2, 3, 4, 5, 6, 7, 8, 9, 10], [0, 1, 2, 3, 4, 5, 6, 7, 8, 9, 10, 11], [0, 1, 2, 3, 4, 5, 6, 7, 8, 9, 10, 11, 12], [0, 1, 2, 3, 4, 5, 6, 7, 8, 9, 10, 11, 12, 13]]
       refine draw' (by kernel_rfl) fun al dL => ?_
       have dM : Chg [] aq al := dL
       have dN := dK al    dM
       obtain ⟨am, bO, dO⟩ := dN
       obtain ⟨aM, cM, dP⟩ := dO
       refine startF (D := bN) (Fs := [0, 1, 2, 3, 4, 5, 6, 7, 8]) (Ef := [(0, fun v _ => v = Sl.v g), (1, fun v _ => v = .int .i64 d), (2, fun v _ => v = Sl.v g), (3, fun v _ => v = .int .i64 d), (4, fun v _ => v = .pointer (some (am.add (d.toNat * 6)))), (5, fun v _ => v = .pointer (some ((am.add (d.toNat * 6)).add 5))), (6, fun v _ => v = Sl.v aM), (7, fun v _ => v = .func (.func 38) #[] #[pB k 0]), (8, fun v _ => v = .int .i64 o)]) (by kernel_rfl) ?_
       obtain ⟨an, dQ, dR⟩ := dP
       refine parF (D := bN) (S := [9, 10]) (F := []) (KE := [9, 10]) (E := [(9, fun v _ => v = .int .i64 an), (10, fun v w' => ∃ x : Nat, al.heap.size ≤ x ∧ Box w' x 3 [.int .i64 an] ∧ v = Sl.v (Sl.mk (some ⟨x, 0, none⟩) 1 1))]) ai rfl (by kernel_rfl) ⟨fun _ _ _ _ h => h, fun _ _ _ hE ⟨x, h0_, h1_, e⟩ => ⟨x, h0_, (h1_.ext hE), e⟩, fun _ _ _ _ h => h, fun _ _ _ _ h => h, fun _ _ _ _ h => h, fun _ _ _ _ h => h, fun _ _ _ _ h => h, fun _ _ _ _ h => h, fun _ _ _ _ h => h, fun _ _ _ _ h => h, fun _ _ _ _ h => h, trivial⟩ ⟨?_, ?_, ?_, ?_, ?_, ?_, ?_, ?_, ?_, ?_, ?_, trivial⟩ ?_
       ·intro a w hT
        have hAp := hT.ag ai [] trivial (by kernel_rfl)
        have hAp := hAp.add (t := 127) (v := .func (.func 38) #[] #[pB k 0]) (hT.vals 7 rfl 127 rfl)
        have hAp := hAp.add (t := 128) (v := .int .i64 o) (hT.vals 8 rfl 128 rfl)
        exact opk_callX hAp rfl (r_callV (args := #[.int .i64 o]) Try.func38 (by decide) rfl (map_arr (ml_cons (hAp.get rfl) ml_nil)) (hAp.get rfl)) (dQ w hT.chg) fun _ _ _ _ e hR => ⟨_, e, hR.1, fun _ => hR.2⟩
       ·intro a w hT
        have hAp := hT.ag ai [] trivial (by kernel_rfl)
        have hAp := hAp.add (t := 129) (v := .int .i64 an) (hT.vals 9 rfl 129 rfl)
        exact opk_new (fun B => .slice (some ⟨B, 0, none⟩) 1 1) hAp rfl (r_buildSlice (vs := #[(0, .int .i64 an)]) (cs := [.int .i64 an]) (map_arr2 (ml2_cons (hAp.get rfl) (ml2_nil))) tU22 ti_3 rfl rfl (by kernel_rfl)) fun _ fT x dS dU dV _ e => ⟨_, e, dS, fun _ => ⟨x, Nat.le_trans hT.chg.size dU.ge, dV, rfl⟩⟩
       ·intro a w hT
        have hAp := hT.ag ai [(15, Sl.v g)] ⟨rfl, trivial⟩ (by kernel_rfl)
        exact ovr hAp rfl (r_move (hAp.get rfl)) fun _ => Eq.refl _
       ·intro a w hT
        have hAp := hT.ag ai [(16, .int .i64 d)] ⟨rfl, trivial⟩ (by kernel_rfl)
        exact ovr hAp rfl (r_move (hAp.get rfl)) fun _ => Eq.refl _
       ·intro a w hT
        have hAp := hT.ag ai [(15, Sl.v g)] ⟨rfl, trivial⟩ (by kernel_rfl)
        exact ovr hAp rfl (r_move (hAp.get rfl)) fun _ => Eq.refl _
       ·intro a w hT
        have hAp := hT.ag ai [(16, .int .i64 d)] ⟨rfl, trivial⟩ (by kernel_rfl)
        exact ovr hAp rfl (r_move (hAp.get rfl)) fun _ => Eq.refl _
       ·intro a w hT
        have hAp := hT.ag ai [] trivial (by kernel_rfl)
        have hAp := hAp.add (t := 122) (v := Sl.v g) (hT.vals 2 rfl 122 rfl)
        have hAp := hAp.add (t := 123) (v := .int .i64 d) (hT.vals 3 rfl 123 rfl)
        exact ovr hAp rfl (r_indexAddr (hAp.get rfl) (hAp.get rfl) tU33 ti_43 bO.1 bO.2) fun _ => Eq.refl _
       ·intro a w hT
        have hAp := hT.ag ai [] trivial (by kernel_rfl)
        have hAp := hAp.add (t := 124) (v := .pointer (some (am.add (d.toNat * 6)))) (hT.vals 4 rfl 124 rfl)
        exact ovr hAp rfl (r_fieldAddr (hAp.get rfl) Try.underlying43 rfl ti_22 (by decide)) fun _ => Eq.refl _
       ·intro a w hT
        have hAp := hT.ag ai [] trivial (by kernel_rfl)
        have hAp := hAp.add (t := 125) (v := .pointer (some ((am.add (d.toNat * 6)).add 5))) (hT.vals 5 rfl 125 rfl)
        exact ovr hAp rfl (r_load1 tU22 rfl (hAp.get rfl) (Ext.cell hT.chg cM)) fun _ => Eq.refl _
       ·intro a w hT
        have hAp := hT.ag ai [(14, .func (.func 38) #[] #[pB k 0])] ⟨rfl, trivial⟩ (by kernel_rfl)
        exact ovr hAp rfl (r_move (hAp.get rfl)) fun _ => Eq.refl _
       ·intro a w hT
        have hAp := hT.ag ai [(20, .int .i64 o)] ⟨rfl, trivial⟩ (by kernel_rfl)
        exact ovr hAp rfl (r_move (hAp.get rfl)) fun _ => Eq.refl _
       ·intro fU av cy dX dY
        have dZ := dX [(8, Sl.v j), (9, Sl.v l), (10, .map q), (14, .func (.func 38) #[] #[pB k 0]), (15, Sl.v g), (16, .int .i64 d), (17, .int .i64 p), (20, .int .i64 o), (54, .int .i64 (j.n : Int)), (55, .int .i64 d)] ⟨rfl, rfl, rfl, rfl, rfl, rfl, rfl, rfl, rfl, rfl, trivial⟩ (by kernel_rfl)
        obtain ⟨x, d0, cN, d1⟩ := dY 10 rfl 130 rfl
        have aj := dZ.add d1
        have fV : Chg [] al av := cy
        have d2 := Ext.cell cy cM
        have d3 := dR av x cy d0 cN
        refine oneF (c := 11) aj rfl (by kernel_rfl) (constF ⟨fun _ _ _ h => h, fun _ _ _ h => h, fun _ _ _ h => h, fun _ _ _ h => h, fun _ _ _ h => h, fun _ _ _ h => h, fun _ _ _ h => h, fun _ _ _ h => h, fun _ _ _ h => h, trivial⟩) ⟨?_, ?_, ?_, ?_, ?_, ?_, ?_, ?_, ?_, trivial⟩ ?_
        ·intro a hT
         have hAp := hT.ag aj [(15, Sl.v g)] ⟨rfl, trivial⟩ (by kernel_rfl)
         exact opk_val hAp rfl (r_move (hAp.get rfl)) fun _ _ e => ⟨_, e, rfl, fun _ => Eq.refl _⟩
        ·intro a hT
         have hAp := hT.ag aj [(16, .int .i64 d)] ⟨rfl, trivial⟩ (by kernel_rfl)
         exact opk_val hAp rfl (r_move (hAp.get rfl)) fun _ _ e => ⟨_, e, rfl, fun _ => Eq.refl _⟩
        ·intro a hT
         have hAp := hT.ag aj [(15, Sl.v g)] ⟨rfl, trivial⟩ (by kernel_rfl)
         exact opk_val hAp rfl (r_move (hAp.get rfl)) fun _ _ e => ⟨_, e, rfl, fun _ => Eq.refl _⟩
        ·intro a hT
         have hAp := hT.ag aj [(16, .int .i64 d)] ⟨rfl, trivial⟩ (by kernel_rfl)
         exact opk_val hAp rfl (r_move (hAp.get rfl)) fun _ _ e => ⟨_, e, rfl, fun _ => Eq.refl _⟩
        ·intro a hT
         have hAp := hT.ag aj [] trivial (by kernel_rfl)
         have hAp := hAp.add (t := 122) (v := Sl.v g) (hT.vals 2 rfl 122 rfl)
         have hAp := hAp.add (t := 123) (v := .int .i64 d) (hT.vals 3 rfl 123 rfl)
         exact opk_val hAp rfl (r_indexAddr (hAp.get rfl) (hAp.get rfl) tU33 ti_43 bO.1 bO.2) fun _ _ e => ⟨_, e, rfl, fun _ => Eq.refl _⟩
        ·intro a hT
         have hAp := hT.ag aj [] trivial (by kernel_rfl)
         have hAp := hAp.add (t := 124) (v := .pointer (some (am.add (d.toNat * 6)))) (hT.vals 4 rfl 124 rfl)
         exact opk_val hAp rfl (r_fieldAddr (hAp.get rfl) Try.underlying43 rfl ti_22 (by decide)) fun _ _ e => ⟨_, e, rfl, fun _ => Eq.refl _⟩
        ·intro a hT
         have hAp := hT.ag aj [] trivial (by kernel_rfl)
         have hAp := hAp.add (t := 125) (v := .pointer (some ((am.add (d.toNat * 6)).add 5))) (hT.vals 5 rfl 125 rfl)
         exact opk_val hAp rfl (r_load1 tU22 rfl (hAp.get rfl) (Ext.cell hT.chg d2)) fun _ _ e => ⟨_, e, rfl, fun _ => Eq.refl _⟩
        ·intro a hT
         have hAp := hT.ag aj [(14, .func (.func 38) #[] #[pB k 0])] ⟨rfl, trivial⟩ (by kernel_rfl)
         exact opk_val hAp rfl (r_move (hAp.get rfl)) fun _ _ e => ⟨_, e, rfl, fun _ => Eq.refl _⟩
        ·intro a hT
         have hAp := hT.ag aj [(20, .int .i64 o)] ⟨rfl, trivial⟩ (by kernel_rfl)
         exact opk_val hAp rfl (r_move (hAp.get rfl)) fun _ _ e => ⟨_, e, rfl, fun _ => Eq.refl _⟩
        ·intro d4 hT
         have d5 := hT.ag aj [(8, Sl.v j), (9, Sl.v l), (10, .map q), (14, .func (.func 38) #[] #[pB k 0]), (15, Sl.v g), (16, .int .i64 d), (17, .int .i64 p), (20, .int .i64 o), (54, .int .i64 (j.n : Int)), (55, .int .i64 d), (130, Sl.v (Sl.mk (some ⟨x, 0, none⟩) 1 1))] ⟨rfl, rfl, rfl, rfl, rfl, rfl, rfl, rfl, rfl, rfl, rfl, trivial⟩ (by kernel_rfl)
         have d6 : d4.tmps.getD 126 undef = Sl.v aM := hT.vals 6 rfl 126 rfl
         have cz := d5.add d6
         have d7 := d3 cN
         refine (opk_run cz rfl (fun _ _ hr => r_append (cz.get rfl) (cz.get rfl) hr) d7 fun fX fY bH d8 d9 fZ f0 fa => ?_)
         refine ⟨_, d9, ?_⟩
         obtain ⟨ax, rfl, fb⟩ := fa
         obtain ⟨f1, fc⟩ := fb
         refine PRF_drop (X := [2, 3, 4, 5, 6, 7, 8]) (Fs' := [0, 1]) d8 (by kernel_rfl) fun f2 fd f3 => ?_
         have cA := fd [(8, Sl.v j), (9, Sl.v l), (10, .map q), (14, .func (.func 38) #[] #[pB k 0]), (15, Sl.v g), (16, .int .i64 d), (17, .int .i64 p), (20, .int .i64 o), (54, .int .i64 (j.n : Int)), (55, .int .i64 d), (131, Sl.v ax)] ⟨rfl, rfl, rfl, rfl, rfl, rfl, rfl, rfl, rfl, rfl, rfl, trivial⟩ (by kernel_rfl)
         refine joinF cA (by kernel_rfl) ⟨fun _ _ _ _ h => h, fun _ _ _ _ h => h, trivial⟩ ⟨?_, ?_, trivial⟩ ?_
         ·intro a w hT
          have hAp := hT.ag cA [(15, Sl.v g)] ⟨rfl, trivial⟩ (by kernel_rfl)
          exact ovr hAp rfl (r_move (hAp.get rfl)) fun _ => Eq.refl _
         ·intro a w hT
          have hAp := hT.ag cA [(16, .int .i64 d)] ⟨rfl, trivial⟩ (by kernel_rfl)
          exact ovr hAp rfl (r_move (hAp.get rfl)) fun _ => Eq.refl _
         ·intro cO aN ff fg cP
          have fh := fg [(8, Sl.v j), (9, Sl.v l), (10, .map q), (14, .func (.func 38) #[] #[pB k 0]), (15, Sl.v g), (16, .int .i64 d), (17, .int .i64 p), (20, .int .i64 o), (54, .int .i64 (j.n : Int)), (55, .int .i64 d), (131, Sl.v ax)] ⟨rfl, rfl, rfl, rfl, rfl, rfl, rfl, rfl, rfl, rfl, rfl, trivial⟩ (by kernel_rfl)
          have fi : cO.tmps.getD 120 undef = Sl.v g := cP 0 rfl 120 rfl
          have fj := fh.add fi
          have fk : cO.tmps.getD 121 undef = .int .i64 d := cP 1 rfl 121 rfl
          have cB := fj.add fk
          have fl : Chg [] bH aN := ff
          have fm := fc aN    fl
          obtain ⟨ay, cQ, fn⟩ := fm
          refine par (D := bN) (S := [12, 13]) (F := []) (V := VL [(12, fun v _ => v = .pointer (some (ay.add (d.toNat * 6)))), (13, fun v _ => v = .pointer (some ((ay.add (d.toNat * 6)).add 5)))]) cB (by kernel_rfl) ⟨fun _ _ _ _ h => h, fun _ _ _ _ h => h, trivial⟩ ⟨?_, ?_, trivial⟩ ?_
          ·intro a w hT
           have hAp := hT.ag cB [(120, Sl.v g), (121, .int .i64 d)] ⟨rfl, rfl, trivial⟩ (by kernel_rfl)
           exact ovr hAp rfl (r_indexAddr (hAp.get rfl) (hAp.get rfl) tU33 ti_43 cQ.1 cQ.2) fun _ => Eq.refl _
          ·intro a w hT
           have hAp := hT.ag cB [] trivial (by kernel_rfl)
           have hAp := hAp.add (t := 132) (v := .pointer (some (ay.add (d.toNat * 6)))) (hT.vals 12 rfl 132 rfl)
           exact ovr hAp rfl (r_fieldAddr (hAp.get rfl) Try.underlying43 rfl ti_22 (by decide)) fun _ => Eq.refl _
          ·intro fo aO fp fq fr
           have fs := fq [(8, Sl.v j), (9, Sl.v l), (10, .map q), (14, .func (.func 38) #[] #[pB k 0]), (15, Sl.v g), (16, .int .i64 d), (17, .int .i64 p), (20, .int .i64 o), (54, .int .i64 (j.n : Int)), (55, .int .i64 d), (131, Sl.v ax)] ⟨rfl, rfl, rfl, rfl, rfl, rfl, rfl, rfl, rfl, rfl, rfl, trivial⟩ (by kernel_rfl)
           have ft : fo.tmps.getD 133 undef = .pointer (some ((ay.add (d.toNat * 6)).add 5)) := fr 13 rfl 133 rfl
           have cC := fs.add ft
           have fu : Chg [] aN aO := fp
           have fv := fn aO    fu
           obtain ⟨aP, bI, cp, bJ, fx, cR, fy, f4, fz⟩ := fv
           refine one (D := bN) (i := 14) rfl (by kernel_rfl) (opk_store cC cR (r_store (vs := [Sl.v ax]) (((cC.get rfl)).trans (congrArg (fun a => Value.pointer (some a)) fx)) (cC.get rfl) rfl ti_22 cR (Nat.ble_eq_true_of_le fy) (ones_all _ rfl)) fun f5 az fA fB fC => ?_)
           have fD := fz az fA fB
           refine PR_end (by kernel_rfl) ?_
           have fF := fC.kp [(8, Sl.v j), (9, Sl.v l), (10, .map q), (14, .func (.func 38) #[] #[pB k 0]), (15, Sl.v g), (16, .int .i64 d), (17, .int .i64 p), (20, .int .i64 o), (54, .int .i64 (j.n : Int)), (55, .int .i64 d)] rfl
           refine gK (bs := []) (N := []) fF (Chg.refl [] _) trivial (by simp) trivial (by simp) fD ?_
           refine bn <| tn <| gR <| gM ?_
           refine gM ?_
           refine gM ?_
           refine gI1 tU79 ti_86 fun cq => ?_
           refine gF 1 Try.underlying86 ti_3 ?_
           refine gE fun bg => gL tU3 ?_
           refine g2s r_addI ?_
           refine gN <| ge ?_
           exact k1 []
      ·refine gx <| te <| te <| bh <| bn <| tn <| gR <| g2s r_addI ?_
       refine gM <| ge ?_
       exact k1 []
   ·refine gx <| te <| te <| bh <| tn <| gS <| gR <| gM ?_
    refine gN ?_
    refine gN <| ge <| tn <| gr ?_
    exact gz2
def slots_Touched.vc (q : Int) (r : Str) (t : Str) (u : Sl) (x : Sl) (c : Sl) (b : Int) (R : Value → World → Prop) (w : World) : Prop :=
∀ (y : World) (aa : Nat), New w aa y → Chg [] w y →
CallK Try.prog 37 #[.agg #[.int .i64 q, .string (Bs r), .string (Bs t), Sl.v u, Sl.v x]] y [aa] (fun v m => ∃ (j : Sl), v = Sl.v j ∧
∃ ab : Addr, (((((¬ (b < 0)) ∧ (¬ ((j.n : Int) ≤ b))) ∧ (¬ ((c.n : Int) ≤ b)))) → ((0 : Int) ≤ b ∧ b < (c.n : Int)) ∧  c.a = some ab) ∧
∃ (z : Bool), (((((¬ (b < 0)) ∧ (¬ ((j.n : Int) ≤ b))) ∧ (¬ ((c.n : Int) ≤ b)))) → m.cell? ((ab.add (b.toNat * 6)).add 0) = some (.bool z)) ∧
(((((b < 0) ∨ ((j.n : Int) ≤ b)) ∨ ((c.n : Int) ≤ b)) ∨ (z = true)) →
R (.bool false) m) ∧
(((((¬ (b < 0)) ∧ (¬ ((j.n : Int) ≤ b))) ∧ (¬ ((c.n : Int) ≤ b))) ∧ (z = false)) →
((0 : Int) ≤ b ∧ b < (c.n : Int)) ∧ ∃ ad : Addr, c.a = some ad ∧
∃ (ak : Bool) (d : Bool) (f : Sl) (g : Sl) (af : Int) (ag : Sl), (Cells m (ad.add (b.toNat * 6)) [.bool ak, .bool d, Sl.v f, Sl.v g, .int .i64 af, Sl.v ag]) ∧
∀ (k : World) (al : Nat), New m al k → Chg [] m k →
∃ o : Sl → World → Prop, (∀ i : Sl, ∀ w' w'' : World, Ext w' w'' → o i w' → o i w'') ∧
(((((d = false) ∧ (¬ (0 < (f.n : Int)))) ∧ (¬ (0 < (g.n : Int))))) → ∀ w' : World, Ext k w' → Calls Try.prog 41 #[Sl.v j, .int .i64 b] w' (Ret fun v w'' => Ext w' w'' ∧ ∃ i : Sl, v = Sl.v i ∧ o i w'')) ∧
∃ (p : Bool), (((((d = false) ∧ (¬ (0 < (f.n : Int)))) ∧ (¬ (0 < (g.n : Int))))) → ∀ i : Sl, ∀ w' : World, Ext k w' → (((((d = false) ∧ (¬ (0 < (f.n : Int)))) ∧ (¬ (0 < (g.n : Int))))) → o i w') → Calls Try.prog 40 #[Sl.v ag, Sl.v i] w' (Ret fun v w'' => Ext w' w'' ∧ v = .bool p)) ∧
∃ ah : Addr, ((((((d = false) ∧ (¬ (0 < (f.n : Int)))) ∧ (¬ (0 < (g.n : Int)))) ∧ (p = true))) → ((0 : Int) ≤ b ∧ b < (j.n : Int)) ∧ j.a = some ah) ∧
∃ (ai : Int), ((((((d = false) ∧ (¬ (0 < (f.n : Int)))) ∧ (¬ (0 < (g.n : Int)))) ∧ (p = true))) → k.cell? ((ah.add (b.toNat * 10)).add 0) = some (.int .i64 ai)) ∧
∀ (aj : World), Chg [] k aj →
R (.bool ((((d || (decide (0 < (f.n : Int)))) || (decide (0 < (g.n : Int)))) || (!p)) || (decide (af ≠ ai)))) aj))
theorem slots_Touched.ok (q : Int) (r : Str) (t : Str) (u : Sl) (x : Sl) (c : Sl) (b : Int) {R : Value → World → Prop} {w : World} (am : slots_Touched.vc q r t u x c b R w) : Calls Try.prog 16 #[.agg #[.int .i64 q, .string (Bs r), .string (Bs t), Sl.v u, Sl.v x], Sl.v c, .int .i64 b] w (Ret R) := by
 refine go _ Try.func16 Try.ntmps16 am ?_
 refine gS <| gR <| nb fun y aa => ?_
 refine gN <| ge <| tn <| gS <| gR ?_
 refine gBN 0 5 Try.underlying26 ti_26 <| gT1 ?_
 refine gC [0] Try.func37 fun _ m => gE fun j => gQ ?_
 refine gN <| ge <| tn <| gS <| gS <| gR ?_
 refine gM ?_
 refine g2 r_lss ?_
 refine gM ?_
 refine G1 r_move ?_
 refine G1 r_move ?_
 refine G1 (fun l => r_len l tU79) ?_
 refine G2 r_geq ?_
 refine gpo ?_
 refine gM ?_
 refine G1 r_move ?_
 refine G1 r_move ?_
 refine G1 (fun l => r_len l tU33) ?_
 refine G2 r_geq ?_
 refine gpo ?_
 refine gM ?_
 refine G1 r_move ?_
 refine G1 r_move ?_
 refine GI2 tU33 ti_43 (fun hg => ⟨⟨(dF (oF (oF (g_f hg)).1).1), (dF (oF (oF (g_f hg)).1).2)⟩, (dF (oF (g_f hg)).2)⟩) fun ab => ?_
 refine GF 0 Try.underlying43 ti_4 ?_
 refine gE fun z => GLd tU4 (fun hg => ⟨⟨(dF (oF (oF (g_f hg)).1).1), (dF (oF (oF (g_f hg)).1).2)⟩, (dF (oF (g_f hg)).2)⟩) ?_
 refine gpo <| ge <| tn ?_
 refine gi (fun h => ((oT h).imp (fun h => ((oT h).imp (fun h => ((oT h).imp (fun h => (dT h)) (fun h => (dT h)))) (fun h => (dT h)))) (fun h => h))) (fun h => ⟨⟨⟨(dF (oF (oF (oF h).1).1).1), (dF (oF (oF (oF h).1).1).2)⟩, (dF (oF (oF h).1).2)⟩, (oF h).2⟩) ?_ ?_
 ·refine gS <| gR <| gN <| ge <| tn <| gr <| tr ?_
  exact gz1
 ·refine gk <| tn <| gS <| gR <| gM ?_
  refine gM ?_
  refine gI1 tU33 ti_43 fun ad => ?_
  refine gE fun ak => gE fun d => gE fun f => gE fun g => gE fun af => gE fun ag => gLN Try.underlying43 ti_43 ?_
  refine na ti_43 fun au al => ?_
  refine wn 0 0 ti_43 fun av => ge <| tn <| gS ?_
  refine gD fun k => gT1 <| gE fun o => gA fun an => gA fun ao => gE fun p => gA fun ap => gE fun ah => gA fun aq => gE fun ai => gA fun ar => ?_
  refine gW 0 34 [(19, rsG (true && (((d || (decide (0 < (f.n : Int)))) || (decide (0 < (g.n : Int)))) == false)) (α := Sl) default (fun s => Sl.v s) (fun s w => o s w) (an)), (20, rsG (true && (((d || (decide (0 < (f.n : Int)))) || (decide (0 < (g.n : Int)))) == false)) () (fun _ => .bool p) (fun _ _ => True) (fun _ _ _ _ _ => trivial))] ?_
  refine gF 1 Try.underlying43 ti_4 ?_
  refine gB 0 tU4 ?_
  refine gM ?_
  refine GF 2 Try.underlying43 ti_23 ?_
  refine GB 0 tU23 ?_
  refine G1 (fun l => r_len l tU23) ?_
  refine G2 r_gtr ?_
  refine gpo ?_
  refine gM ?_
  refine GF 3 Try.underlying43 ti_41 ?_
  refine GB 0 tU41 ?_
  refine G1 (fun l => r_len l tU41) ?_
  refine G2 r_gtr ?_
  refine gpo ?_
  refine gM ?_
  refine GF 5 Try.underlying43 ti_22 ?_
  refine GB 0 tU22 ?_
  refine G1 r_move ?_
  refine G1 r_move ?_
  refine YC rfl Try.func41 (fun hg w' hE _ => ao ⟨⟨(oF (oF (g_f hg)).1).1, (dF (oF (oF (g_f hg)).1).2)⟩, (dF (oF (g_f hg)).2)⟩ w' hE) (fun _ _ h => h) fun i => ?_
  refine YC rfl Try.func40 (fun hg w' hE hF => ap ⟨⟨(oF (oF (g_f hg)).1).1, (dF (oF (oF (g_f hg)).1).2)⟩, (dF (oF (g_f hg)).2)⟩ i w' hE (fun hp => (hF.1 (by kernel_rfl)) (g_mkf rfl (b_or_mkf ⟨(b_or_mkf ⟨hp.1.1, (decide_eq_false hp.1.2)⟩), (decide_eq_false hp.2)⟩)))) (fun _ _ h => ⟨(), h, trivial⟩) fun _ => ?_
  refine G1 r_not ?_
  refine gpo ?_
  refine gM ?_
  refine GF 4 Try.underlying43 ti_3 ?_
  refine GB 0 tU3 ?_
  refine G1 r_move ?_
  refine G1 r_move ?_
  refine GIx tU79 ti_86 (fun hg => aq ⟨⟨⟨(oF (oF (oF (g_f hg)).1).1).1, (dF (oF (oF (oF (g_f hg)).1).1).2)⟩, (dF (oF (oF (g_f hg)).1).2)⟩, (nF (oF (g_f hg)).2)⟩) ?_
  refine GF 0 Try.underlying86 ti_3 ?_
  refine gP ar <| GLd tU3 (fun hg => ⟨⟨⟨(oF (oF (oF (g_f hg)).1).1).1, (dF (oF (oF (oF (g_f hg)).1).1).2)⟩, (dF (oF (oF (g_f hg)).1).2)⟩, (nF (oF (g_f hg)).2)⟩) ?_
  refine G2 r_neq ?_
  refine gpo ?_
  refine gN ?_
  refine eT fun aj => ?_
  refine gZ <| tn <| gr <| gT0 ?_
  exact gz1
def slots_Kids.vc (c : Int) (d : Str) (f : Str) (g : Sl) (i : Sl) (a : Int) (R : Value → World → Prop) (w : World) : Prop :=
∀ (j : World) (k : Nat), New w k j → Chg [] w j →
CallK Try.prog 37 #[.agg #[.int .i64 c, .string (Bs d), .string (Bs f), Sl.v g, Sl.v i]] j [k] (fun v l => ∃ (b : Sl), v = Sl.v b ∧
(((a < 0) ∨ ((b.n : Int) ≤ a)) →
R (Sl.v Sl.nil) l) ∧
(((¬ (a < 0)) ∧ (¬ ((b.n : Int) ≤ a))) →
CallK Try.prog 41 #[Sl.v b, .int .i64 a] l [] (fun v o => ∃ (m : Sl), v = Sl.v m ∧
R (Sl.v m) o)))
theorem slots_Kids.ok (c : Int) (d : Str) (f : Str) (g : Sl) (i : Sl) (a : Int) {R : Value → World → Prop} {w : World} (p : slots_Kids.vc c d f g i a R w) : Calls Try.prog 24 #[.agg #[.int .i64 c, .string (Bs d), .string (Bs f), Sl.v g, Sl.v i], .int .i64 a] w (Ret R) := by
 refine go _ Try.func24 Try.ntmps24 p ?_
 refine gS <| gR <| nb fun j k => ?_
 refine gN <| ge <| tn <| gS <| gR ?_
 refine gBN 0 5 Try.underlying26 ti_26 <| gT1 ?_
 refine gC [0] Try.func37 fun _ l => gE fun b => gQ ?_
 refine gN <| ge <| tn <| gS <| gS <| gR ?_
 refine gM ?_
 refine g2 r_lss ?_
 refine gM ?_
 refine G1 r_move ?_
 refine G1 r_move ?_
 refine G1 (fun q => r_len q tU79) ?_
 refine G2 r_geq ?_
 refine gpo <| ge <| tn ?_
 refine gi (fun h => ((oT h).imp (fun h => (dT h)) (fun h => (dT h)))) (fun h => ⟨(dF (oF h).1), (dF (oF h).2)⟩) ?_ ?_
 ·refine gS <| gR <| gN <| ge <| tn <| gr <| tr ?_
  exact gz1
 ·refine gk <| tn <| gS <| gR <| gM ?_
  refine gM ?_
  refine gC [] Try.func41 fun _ o => gE fun m => gQ ?_
  refine gN <| ge <| tn <| gr ?_
  exact gz1
def slots_Of_1.vc (a : Int) (b : Addr) (R : Value → World → Prop) (w : World) : Prop :=
∃ (d : Option Nat), (w.cell? b = some (.map d)) ∧
∃ (f : Int) (c : Bool), ((Instr.lookup 81 (.map d) (.int .i64 a) true).run Try.prog w = .ok (.tuple #[.int .i64 f, .bool c]) w) ∧
((c = true) →
R (.int .i64 f) w) ∧
((c = false) →
(I64 ((-2) - a)) ∧
R (.int .i64 ((-2) - a)) w)
theorem slots_Of_1.ok (a : Int) (b : Addr) {R : Value → World → Prop} {w : World} (g : slots_Of_1.vc a b R w) : Calls Try.prog 38 #[.int .i64 a, .pointer (some b)] w (Ret R) := by
 refine go _ Try.func38 Try.ntmps38 g ?_
 refine gS <| gR <| gN <| ge <| tn <| gS <| gS <| gR ?_
 refine gE fun d => gL tU81 ?_
 refine gM ?_
 refine gE fun f => gE fun c => gA fun hx => ev (fun _ s => r_lookup (s.ag.opv rfl) (s.ag.opv rfl) hx) ?_
 refine gM ?_
 refine gx1 ?_
 refine gx1 ?_
 refine gN ?_
 refine gN <| ge <| tn <| gS <| gR ?_
 refine gM <| ge <| tn ?_
 refine gi id id ?_ ?_
 ·refine gS <| gR <| gM ?_
  refine gN <| ge <| tn <| gr <| tr ?_
  exact gz1
 ·refine gk <| tn <| gS <| gR <| gM ?_
  refine g2s r_subI ?_
  refine gN <| ge <| tn <| gr ?_
  exact gz1
def slots_changed.vc (ag : Int) (ah : Str) (o : Str) (p : Sl) (ai : Sl) (aj : Int) (ak : Str) (q : Str) (r : Sl) (al : Sl) (R : Value → World → Prop) (w : World) : Prop :=
∀ (u : World) (m : Nat) (j : Nat) (i : Nat) (g : Nat), New w m u → New w j u → New w i u → New w g u → m ≠ j → m ≠ i → m ≠ g → j ≠ i → j ≠ g → i ≠ g → Chg [] w u →
∃ (am : Int → Sl → World → Prop) (an : Int → Sl → World → Nat),
am 0 Sl.nil u ∧
(∀ (b : Int) (k : Sl) (s : World), am b k s →
((b < (r.n : Int)) →
((0 : Int) ≤ b ∧ b < (r.n : Int)) ∧ ∃ aI : Addr, r.a = some aI ∧
∃ (y : Str) (x : Str), (Cells s (aI.add (b.toNat * 2)) [.string (Bs y), .string (Bs x)]) ∧
∀ (ao : World) (ap : Nat), New s ap ao → Chg [] s ao →
CallK Try.prog 65 #[.agg #[.int .i64 ag, .string (Bs ah), .string (Bs o), Sl.v p, Sl.v ai], .string (Bs y)] ao [m, j, i, g, ap] (fun v z => ∃ (aq : Str) (ar : Bool), v = .tuple #[.string (Bs aq), .bool ar] ∧
(((ar = false) ∨ (aq ≠ x)) →
∀ (aa : World) (au : Nat), New z au aa → Chg [] z aa →
∀ (_ : Box aa au 47 [.string (Bs y), .string (Bs x)]),
RunK Try.prog (Builtin.append_ #[23, 23] 23 #[Sl.v k, Sl.v (Sl.mk (some ⟨au, 0, none⟩) 1 1)]) aa [m, j, i, g, ap] (fun v aM => ∃ (av : Sl), v = Sl.v av ∧
(I64 (b + 1)) ∧
∀ (ax : World), Chg [g] aM ax →
am (b + 1) av ax ∧ an (b + 1) av ax < an b k s)) ∧
(((ar = true) ∧ (¬ (aq ≠ x))) →
(I64 (b + 1)) ∧
am (b + 1) k z ∧ an (b + 1) k z < an b k s))) ∧
((¬ (b < (r.n : Int))) →
∃ (ay : Int → Sl → World → Prop) (az : Int → Sl → World → Nat),
ay 0 Sl.nil s ∧
(∀ (f : Int) (l : Sl) (t : World), ay f l t →
((f < (p.n : Int)) →
((0 : Int) ≤ f ∧ f < (p.n : Int)) ∧ ∃ aJ : Addr, p.a = some aJ ∧
∃ (ab : Str) (aN : Str), (Cells t (aJ.add (f.toNat * 2)) [.string (Bs ab), .string (Bs aN)]) ∧
∀ (aA : World) (aB : Nat), New t aB aA → Chg [] t aA →
CallK Try.prog 65 #[.agg #[.int .i64 aj, .string (Bs ak), .string (Bs q), Sl.v r, Sl.v al], .string (Bs ab)] aA [j, i, g, aB] (fun v ad => ∃ (aO : Str) (aC : Bool), v = .tuple #[.string (Bs aO), .bool aC] ∧
((aC = false) →
∀ (af : World) (aD : Nat), New ad aD af → Chg [] ad af →
∀ (_ : Box af aD 9 [.string (Bs ab)]),
RunK Try.prog (Builtin.append_ #[41, 41] 41 #[Sl.v l, Sl.v (Sl.mk (some ⟨aD, 0, none⟩) 1 1)]) af [j, i, g, aB] (fun v aP => ∃ (aG : Sl), v = Sl.v aG ∧
(I64 (f + 1)) ∧
∀ (aH : World), Chg [g] aP aH →
ay (f + 1) aG aH ∧ az (f + 1) aG aH < az f l t)) ∧
((aC = true) →
(I64 (f + 1)) ∧
ay (f + 1) l ad ∧ az (f + 1) l ad < az f l t))) ∧
((¬ (f < (p.n : Int))) →
∀ (aK : World), Chg [i] t aK →
R (.agg #[.bool false, .bool (decide (o ≠ q)), Sl.v k, Sl.v l, .int .i64 0, Sl.v Sl.nil]) aK))))
theorem slots_changed.ok (ag : Int) (ah : Str) (o : Str) (p : Sl) (ai : Sl) (aj : Int) (ak : Str) (q : Str) (r : Sl) (al : Sl) {R : Value → World → Prop} {w : World} (aQ : slots_changed.vc ag ah o p ai aj ak q r al R w) : Calls Try.prog 39 #[.agg #[.int .i64 ag, .string (Bs ah), .string (Bs o), Sl.v p, Sl.v ai], .agg #[.int .i64 aj, .string (Bs ak), .string (Bs q), Sl.v r, Sl.v al]] w (Ret R) := by
 refine go _ Try.func39 Try.ntmps39 aQ ?_
 refine gS <| gR <| nb fun w4 m => ?_
 refine nb fun w6 j => ?_
 refine na ti_43 fun w8 i => ge <| tn <| gS <| gR ?_
 refine gF 2 Try.underlying26 ti_9 ?_
 refine gB 2 tU9 ?_
 refine gF 2 Try.underlying26 ti_9 ?_
 refine gB 1 tU9 ?_
 refine g2 r_sneq ?_
 refine gbK #[.bool false, .bool (decide (o ≠ q)), Sl.v Sl.nil, Sl.v Sl.nil, .int .i64 0, Sl.v Sl.nil] ti_43 Try.underlying43 pl_43 ?_
 refine na ti_43 fun aV g => ?_
 refine wn 0 0 ti_43 fun u => ge <| tn <| gS <| gS <| gR ?_
 refine gF 3 Try.underlying26 ti_23 ?_
 refine gB 2 tU23 ?_
 refine g1 (fun aL => r_len aL tU23) ?_
 refine gM <| ge <| tn <| gb ?_
 refine gT (fun h d c v => v _ m j i g (h _ (by simp)) (h _ (by simp)) (h _ (by simp)) (h _ (by simp)) (fun e => by simp [e] at d) (fun e => by simp [e] at d) (fun e => by simp [e] at d) (fun e => by simp [e] at d) (fun e => by simp [e] at d) (fun e => by simp [e] at d) c) <| gE fun _ => gE fun mu => ?_
 refine l2 mu (fun b _ => [(23, .int .i64 b)]) [(2, _), (3, _), (4, _), (5, _), (21, _), (22, _)] (fun _ k => [(g, 43, [.bool false, .bool (decide (o ≠ q)), Sl.v k, Sl.v Sl.nil, .int .i64 0, Sl.v Sl.nil])]) [(m, _, _), (j, _, _), (i, _, _)] [0, 3, 2, 1] fun b k s _ => gS <| gR ?_
 refine g2 r_lss <| ge <| tn <| gS ?_
 refine gi dT dF ?_ ?_
 ·refine gk <| tn <| gS <| gb <| gS <| gR <| gI1 tU23 ti_47 fun aI => ?_
  refine gE fun y => gE fun x => gLN Try.underlying47 ti_47 ?_
  refine na ti_47 fun aX ap => ?_
  refine wn 0 0 ti_47 fun ao => ge <| tn <| gS <| gR ?_
  refine gBN 2 5 Try.underlying26 ti_26 ?_
  refine gF 0 Try.underlying47 ti_9 ?_
  refine gB 0 tU9 <| gT1 ?_
  refine gC [2, 3, 4, 1, 0] Try.func65 fun _ z => gE fun aq => gE fun ar => gQ ?_
  refine gM ?_
  refine gx1 ?_
  refine gx1 ?_
  refine gN ?_
  refine gN <| ge <| tn <| gS <| gR ?_
  refine gM ?_
  refine g1 r_not ?_
  refine gM ?_
  refine G1 r_move ?_
  refine GF 1 Try.underlying47 ti_9 ?_
  refine GB 0 tU9 ?_
  refine G2 r_sneq ?_
  refine gpo <| ge <| tn ?_
  refine gi (fun h => ((oT h).imp (fun h => (nT h)) (fun h => (dT h)))) (fun h => ⟨(nF (oF h).1), (dF (oF h).2)⟩) ?_ ?_
  ·refine gR <| gF 2 Try.underlying43 ti_23 ?_
   refine gB 1 tU23 ?_
   refine gBN 0 2 Try.underlying47 ti_47 ?_
   refine ns [.string (Bs y), .string (Bs x)] tU23 ti_47 fun aa au => gT1 ?_
   refine gX 0 ?_
   refine gR2 [3, 4, 5, 2, 1] r_append fun _ aM => gE fun av => gQ ?_
   refine gF 2 Try.underlying43 ti_23 ?_
   refine wo 3 ti_23 fun ax => ge <| bn <| tn <| gR ?_
   refine g2s r_addI ?_
   refine gM <| ge <| gT0 ?_
   exact k2 [3, 0, 1, 2]
  ·refine gk <| bn <| tn <| gR <| g2s r_addI ?_
   refine gM <| ge ?_
   exact k2 [1, 2, 3, 4]
 ·refine gx <| te <| te <| bh <| tn <| gS <| gS <| gR <| gF 3 Try.underlying26 ti_23 ?_
  refine gB 1 tU23 ?_
  refine g1 (fun aL => r_len aL tU23) ?_
  refine gM <| ge <| tn <| gb <| gE fun _ => gE fun mu => ?_
  refine l2 mu (fun f _ => [(52, .int .i64 f)]) [(3, _), (4, _), (5, _), (50, _), (51, _)] (fun _ l => [(g, 43, [.bool false, .bool (decide (o ≠ q)), Sl.v k, Sl.v l, .int .i64 0, Sl.v Sl.nil])]) [(j, _, _), (i, _, _)] [0, 2, 3] fun f l t _ => gS <| gR ?_
  refine g2 r_lss <| ge <| tn <| gS ?_
  refine gi dT dF ?_ ?_
  ·refine gk <| tn <| gS <| gb <| gS <| gR <| gI1 tU23 ti_47 fun aJ => ?_
   refine gE fun ab => gE fun aN => gLN Try.underlying47 ti_47 ?_
   refine na ti_47 fun aY aB => ?_
   refine wn 0 0 ti_47 fun aA => ge <| tn <| gS <| gR ?_
   refine gBN 2 5 Try.underlying26 ti_26 ?_
   refine gF 0 Try.underlying47 ti_9 ?_
   refine gB 0 tU9 <| gT1 ?_
   refine gC [2, 3, 1, 0] Try.func65 fun _ ad => gE fun aO => gE fun aC => gQ ?_
   refine gM ?_
   refine gx1 ?_
   refine gx1 ?_
   refine gN ?_
   refine gN <| ge <| tn <| gS <| gR ?_
   refine gM ?_
   refine g1 r_not <| ge <| tn ?_
   refine gi nT nF ?_ ?_
   ·refine gR <| gF 3 Try.underlying43 ti_41 ?_
    refine gB 1 tU41 ?_
    refine gF 0 Try.underlying47 ti_9 ?_
    refine gB 0 tU9 ?_
    refine ns [.string (Bs ab)] tU41 ti_9 fun af aD => gT1 ?_
    refine gX 0 ?_
    refine gR2 [3, 4, 2, 1] r_append fun _ aP => gE fun aG => gQ ?_
    refine gF 3 Try.underlying43 ti_41 ?_
    refine wo 2 ti_41 fun aH => ge <| bn <| tn <| gR ?_
    refine g2s r_addI ?_
    refine gM <| ge <| gT0 ?_
    exact k2 [2, 0, 1]
   ·refine gk <| bn <| tn <| gR <| g2s r_addI ?_
    refine gM <| ge ?_
    exact k2 [1, 2, 3]
  ·refine gx <| te <| te <| bh <| tn <| gS <| gR <| gBN 0 6 Try.underlying43 ti_43 ?_
   refine wo 2 ti_43 fun aK => ge <| tn <| gr <| gT0 ?_
   exact gzB 2 Try.underlying43 ti_43
def slots_kids.vc (d : Sl) (c : Int) (R : Value → World → Prop) (w : World) : Prop :=
(I64 (c + 1)) ∧
∃ (o : Sl → Int → World → Prop) (r : Sl → Int → World → Nat),
o Sl.nil (c + 1) w ∧
(∀ (f : Sl) (b : Int) (g : World), o f b g →
((0 : Int) ≤ c ∧ c < (d.n : Int)) ∧ ∃ p : Addr, d.a = some p ∧
∃ (h : Int), (g.cell? ((p.add (c.toNat * 10)).add 1) = some (.int .i64 h)) ∧
(I64 (c + h)) ∧
((b < (c + h)) →
∀ (i : World) (k : Nat), New g k i → Chg [] g i →
∀ (_ : Box i k 3 [.int .i64 b]),
RunK Try.prog (Builtin.append_ #[22, 22] 22 #[Sl.v f, Sl.v (Sl.mk (some ⟨k, 0, none⟩) 1 1)]) i [] (fun v l => ∃ (m : Sl), v = Sl.v m ∧
((0 : Int) ≤ b ∧ b < (d.n : Int)) ∧ ∃ q : Addr, d.a = some q ∧
∃ (j : Int), (l.cell? ((q.add (b.toNat * 10)).add 1) = some (.int .i64 j)) ∧
(I64 (b + j)) ∧
o m (b + j) l ∧ r m (b + j) l < r f b g)) ∧
((¬ (b < (c + h))) →
R (Sl.v f) g))
theorem slots_kids.ok (d : Sl) (c : Int) {R : Value → World → Prop} {w : World} (s : slots_kids.vc d c R w) : Calls Try.prog 41 #[Sl.v d, .int .i64 c] w (Ret R) := by
 refine go _ Try.func41 Try.ntmps41 s ?_
 refine gS <| gR <| gN <| ge <| tn <| gS <| gR ?_
 refine gN <| ge <| tn <| gS <| gS <| gR ?_
 refine gM ?_
 refine g2s r_addI ?_
 refine gN <| ge <| tn <| gb <| gE fun _ => gE fun mu => ?_
 refine l2 mu (fun f b => [(5, Sl.v f), (6, .int .i64 b)]) [(0, _), (1, _)] (fun _ _ => []) [] [] fun f b g _ => gS <| gS <| gR ?_
 refine gM ?_
 refine gM ?_
 refine gM ?_
 refine gM ?_
 refine gI1 tU79 ti_86 fun p => ?_
 refine gF 1 Try.underlying86 ti_3 ?_
 refine gE fun h => gL tU3 ?_
 refine g2s r_addI ?_
 refine g2 r_lss <| ge <| tn ?_
 refine gi dT dF ?_ ?_
 ·refine gk <| tn <| gS <| gb <| gR <| gM ?_
  refine gM ?_
  refine ns [.int .i64 b] tU22 ti_3 fun i k => gT1 ?_
  refine gX 0 ?_
  refine gR2 [] r_append fun _ l => gE fun m => gQ ?_
  refine gN <| ge <| bn <| tn <| gR ?_
  refine gM ?_
  refine gM ?_
  refine gM ?_
  refine gI1 tU79 ti_86 fun q => ?_
  refine gF 1 Try.underlying86 ti_3 ?_
  refine gE fun j => gL tU3 ?_
  refine g2s r_addI ?_
  refine gN <| ge ?_
  exact k2 []
 ·refine gx <| te <| te <| bh <| tn <| gS <| gR <| gM ?_
  refine gN <| ge <| tn <| gr ?_
  exact gz1
end Go.Proofs.Yteohbfaechfliaa
