/-
  PRINTED BY PROGRAM: for each function its condition (vc), and that this suffices (ok).
-/
import Derived.Test.YteohbfaechfliaaQSlotsAllGT
namespace Go.Proofs.Yteohbfaechfliaa
open Go.RowKit
set_option linter.unusedVariables false
set_option maxHeartbeats 1000000
set_option maxRecDepth 10000
def slots_Of.vc (aj : Int) (ak : Str) (al : Str) (am : Sl) (an : Sl) (ao : Int) (ap : Str) (aq : Str) (ar : Sl) (au : Sl) (p : Sl) (R : Value → World → Prop) (w : World) : Prop :=
∀ (a3 : World) (az : Nat) (aH : Nat), New w az a3 → New w aH a3 → az ≠ aH → Chg [] w a3 →
CallK Try.prog 36 #[.agg #[.int .i64 aj, .string (Bs ak), .string (Bs al), Sl.v am, Sl.v an], .agg #[.int .i64 ao, .string (Bs ap), .string (Bs aq), Sl.v ar, Sl.v au], Sl.v p] a3 [az, aH] (fun v bK => ∃ (bv : Bool), v = .bool bv ∧
((bv = false) →
R (.tuple #[Sl.v Sl.nil, .int .i64 1]) bK) ∧
((bv = true) →
∀ (aN : World), Chg [] bK aN →
∃ aQ : Sl → World → Prop, (∀ g : Sl, ∀ w' w'' : World, Ext w' w'' → aQ g w' → aQ g w'') ∧
(∀ w' : World, Ext aN w' → Calls Try.prog 37 #[.agg #[.int .i64 aj, .string (Bs ak), .string (Bs al), Sl.v am, Sl.v an]] w' (Ret fun v w'' => Ext w' w'' ∧ ∃ g : Sl, v = Sl.v g ∧ aQ g w'')) ∧
∃ aR : Sl → World → Prop, (∀ j : Sl, ∀ w' w'' : World, Ext w' w'' → aR j w' → aR j w'') ∧
(∀ w' : World, Ext aN w' → Calls Try.prog 37 #[.agg #[.int .i64 ao, .string (Bs ap), .string (Bs aq), Sl.v ar, Sl.v au]] w' (Ret fun v w'' => Ext w' w'' ∧ ∃ j : Sl, v = Sl.v j ∧ aR j w'')) ∧
∀ (aS : World) (g : Sl) (j : Sl), Ext aN aS → aQ g aS → aR j aS → 
RunK Try.prog (Instr.makeMap 81 none) aS [] (fun v c2 => ∃ (m : Option Nat), v = .map m ∧
RunK Try.prog (Instr.makeMap 81 none) c2 [] (fun v bx => ∃ (aI : Option Nat), v = .map aI ∧
∀ (aT : World) (k : Nat), New bx k aT → Chg [] bx aT →
∃ (bz : Int → World → Prop) (bL : Int → World → Nat),
bz 0 aT ∧
(∀ (u : Int) (aA : World), bz u aA →
((u < (p.n : Int)) →
((0 : Int) ≤ u ∧ u < (p.n : Int)) ∧ ∃ ca : Addr, p.a = some ca ∧
∃ (aB : Int) (aC : Int), (Cells aA (ca.add (u.toNat * 2)) [.int .i64 aB, .int .i64 aC]) ∧
∀ (bA : World) (r : Nat), New aA r bA → Chg [] aA bA →
RunU Try.prog (Instr.mapUpdate 81 (.map m) (.int .i64 aB) (.int .i64 aC)) bA [k, r] (fun cb =>
∀ (bB : World), Chg [] cb bB →
RunU Try.prog (Instr.mapUpdate 81 (.map aI) (.int .i64 aC) (.int .i64 aB)) bB [k, r] (fun bM =>
(I64 (u + 1)) ∧
bz (u + 1) bM ∧ bL (u + 1) bM < bL u aA))) ∧
((¬ (u < (p.n : Int))) →
RunK Try.prog (Instr.makeSlice 33 (.int .i64 (g.n : Int)) (.int .i64 (g.n : Int))) aA [k] (fun v bN => ∃ (l : Sl), v = Sl.v l ∧
∀ (_ : Box bN k 81 [.map aI]),
∃ (a4 : Int → World → Prop) (a5 : Int → World → Nat),
a4 0 bN ∧
(∀ (d : Int) (av : World), a4 d av →
((d < (g.n : Int)) →
∃ (o : Int) (r_1_1449 : Bool), ((Instr.lookup 81 (.map m) (.int .i64 d) true).run Try.prog av = .ok (.tuple #[.int .i64 o, .bool r_1_1449]) av) ∧
((r_1_1449 = false) →
((0 : Int) ≤ d ∧ d < (l.n : Int)) ∧ ∃ cc : Addr, l.a = some cc ∧
∃ (a7 bO : Nat) (cd : TypeId) (bP : List Value), ((cc.add (d.toNat * 6)).add 0) = ⟨a7, bO, none⟩ ∧ Box av a7 cd bP ∧ bO + 1 ≤ bP.length ∧ (∀ b ∈ [], b ≠ a7) ∧
(∀ aU : World, Chg [a7] av aU → Box aU a7 cd (putAt bP bO [.bool true]) →
(I64 (d + 1)) ∧
a4 (d + 1) aU ∧ a5 (d + 1) aU < a5 d av)) ∧
((r_1_1449 = true) →
∀ (aJ : World), Chg [] av aJ →
∃ aV : Addr, (((0 : Int) ≤ d ∧ d < (g.n : Int)) ∧ g.a = some aV) ∧
∃ (a8 : Int) (a9 : Str) (ba : Str) (bb : Sl) (bd : Sl), (Cells aJ ((aV.add (d.toNat * 10)).add 5) [.int .i64 a8, .string (Bs a9), .string (Bs ba), Sl.v bb, Sl.v bd]) ∧
∃ aX : Addr, (((0 : Int) ≤ o ∧ o < (j.n : Int)) ∧ j.a = some aX) ∧
∃ (bf : Int) (bg : Str) (bh : Str) (bi : Sl) (bj : Sl), (Cells aJ ((aX.add (o.toNat * 10)).add 5) [.int .i64 bf, .string (Bs bg), .string (Bs bh), Sl.v bi, Sl.v bj]) ∧
∃ bk : Bool → Bool → Sl → Sl → Int → Sl → World → Prop, (∀ x : Bool, ∀ y : Bool, ∀ z : Sl, ∀ aa : Sl, ∀ ab : Int, ∀ ad : Sl, ∀ w' w'' : World, Ext w' w'' → bk x y z aa ab ad w' → bk x y z aa ab ad w'') ∧
(∀ w' : World, Ext aJ w' → Calls Try.prog 39 #[.agg #[.int .i64 a8, .string (Bs a9), .string (Bs ba), Sl.v bb, Sl.v bd], .agg #[.int .i64 bf, .string (Bs bg), .string (Bs bh), Sl.v bi, Sl.v bj]] w' (Ret fun v w'' => Ext w' w'' ∧ ∃ x : Bool, ∃ y : Bool, ∃ z : Sl, ∃ aa : Sl, ∃ ab : Int, ∃ ad : Sl, v = .agg #[.bool x, .bool y, Sl.v z, Sl.v aa, .int .i64 ab, Sl.v ad] ∧ bk x y z aa ab ad w'')) ∧
∃ bC : Addr, (((0 : Int) ≤ d ∧ d < (l.n : Int)) ∧ l.a = some bC) ∧
∀ (aY : World) (x : Bool) (y : Bool) (z : Sl) (aa : Sl) (ab : Int) (ad : Sl), Ext aJ aY → bk x y z aa ab ad aY → 
∃ (bl bQ : Nat) (cf : TypeId) (bR : List Value), (bC.add (d.toNat * 6)) = ⟨bl, bQ, none⟩ ∧ Box aY bl cf bR ∧ bQ + 6 ≤ bR.length ∧ (∀ b ∈ [], b ≠ bl) ∧
(∀ bm : World, Chg [bl] aY bm → Box bm bl cf (putAt bR bQ [.bool x, .bool y, Sl.v z, Sl.v aa, .int .i64 ab, Sl.v ad]) →
((0 : Int) ≤ d ∧ d < (l.n : Int)) ∧ ∃ cg : Addr, l.a = some cg ∧
∃ (bn bS : Nat) (ch : TypeId) (bT : List Value), ((cg.add (d.toNat * 6)).add 4) = ⟨bn, bS, none⟩ ∧ Box bm bn ch bT ∧ bS + 1 ≤ bT.length ∧ (∀ b ∈ [], b ≠ bn) ∧
(∀ aZ : World, Chg [bn] bm aZ → Box aZ bn ch (putAt bT bS [.int .i64 (-1)]) →
((0 : Int) ≤ o ∧ o < (j.n : Int)) ∧ ∃ ci : Addr, j.a = some ci ∧
∃ (aK : Int), (aZ.cell? ((ci.add (o.toNat * 10)).add 0) = some (.int .i64 aK)) ∧
∃ bD : World → Prop,
(((0 ≤ aK) →
CallK Try.prog 38 #[.int .i64 aK, .pointer (some (⟨k, 0, none⟩ : Addr))] aZ [] (fun v cj => ∃ (bU : Int), v = .int .i64 bU ∧
((0 : Int) ≤ d ∧ d < (l.n : Int)) ∧ ∃ ck : Addr, l.a = some ck ∧
∃ (bo bV : Nat) (cl : TypeId) (bX : List Value), ((ck.add (d.toNat * 6)).add 4) = ⟨bo, bV, none⟩ ∧ Box cj bo cl bX ∧ bV + 1 ≤ bX.length ∧ (∀ b ∈ [], b ≠ bo) ∧
(∀ bF : World, Chg [bo] cj bF → Box bF bo cl (putAt bX bV [.int .i64 bU]) →
bD bF))) ∧
((¬ (0 ≤ aK)) →
bD aZ)) ∧
(∀ (bG : World), bD bG →
(I64 (o + 1)) ∧
∃ (bH : Int → World → Prop) (bY : Int → World → Nat),
bH (o + 1) bG ∧
(∀ (q : Int) (aD : World), bH q aD →
((0 : Int) ≤ o ∧ o < (j.n : Int)) ∧ ∃ cm : Addr, j.a = some cm ∧
∃ (bp : Int), (aD.cell? ((cm.add (o.toNat * 10)).add 1) = some (.int .i64 bp)) ∧
(I64 (o + bp)) ∧
((q < (o + bp)) →
∀ (aF : World), Chg [] aD aF →
∃ aG : Addr, (((0 : Int) ≤ d ∧ d < (l.n : Int)) ∧ l.a = some aG) ∧
∃ (bq : Sl), (aF.cell? ((aG.add (d.toNat * 6)).add 5) = some (Sl.v bq)) ∧
∃ (aL : Int), (∀ w' : World, Ext aF w' → Calls Try.prog 38 #[.int .i64 q, .pointer (some (⟨k, 0, none⟩ : Addr))] w' (Ret fun v w'' => Ext w' w'' ∧ v = .int .i64 aL)) ∧
∀ (w1877 : World) (ah : Nat), Ext aF w1877 → aF.heap.size ≤ ah → Box w1877 ah 3 [.int .i64 aL] → 
∀ (_ : Box w1877 ah 3 [.int .i64 aL]),
RunK Try.prog (Builtin.append_ #[22, 22] 22 #[Sl.v bq, Sl.v (Sl.mk (some ⟨ah, 0, none⟩) 1 1)]) w1877 [] (fun v bZ => ∃ (a1 : Sl), v = Sl.v a1 ∧
(bZ.cell? ((aG.add (d.toNat * 6)).add 5) = some (Sl.v bq)) ∧
∀ (br : World), Chg [] bZ br →
∃ a2 : Addr, (((0 : Int) ≤ d ∧ d < (l.n : Int)) ∧ l.a = some a2) ∧
∀ (bs : World), Chg [] br bs →
∃ (bt b0 : Nat) (cn : TypeId) (b1 : List Value), ((a2.add (d.toNat * 6)).add 5) = ⟨bt, b0, none⟩ ∧ Box bs bt cn b1 ∧ b0 + 1 ≤ b1.length ∧ (∀ b ∈ [], b ≠ bt) ∧
(∀ aO : World, Chg [bt] bs aO → Box aO bt cn (putAt b1 b0 [Sl.v a1]) →
((0 : Int) ≤ q ∧ q < (j.n : Int)) ∧ ∃ co : Addr, j.a = some co ∧
∃ (aP : Int), (aO.cell? ((co.add (q.toNat * 10)).add 1) = some (.int .i64 aP)) ∧
(I64 (q + aP)) ∧
bH (q + aP) aO ∧ bY (q + aP) aO < bY q aD))) ∧
((¬ (q < (o + bp))) →
(I64 (d + 1)) ∧
a4 (d + 1) aD ∧ a5 (d + 1) aD < a5 d av))))))) ∧
((¬ (d < (g.n : Int))) →
R (.tuple #[Sl.v l, .int .i64 0]) av)))))))))
theorem slots_Of.ok (aj : Int) (ak : Str) (al : Str) (am : Sl) (an : Sl) (ao : Int) (ap : Str) (aq : Str) (ar : Sl) (au : Sl) (p : Sl) {R : Value → World → Prop} {w : World} (c3 : slots_Of.vc aj ak al am an ao ap aq ar au p R w) : Calls Try.prog 12 #[.agg #[.int .i64 aj, .string (Bs ak), .string (Bs al), Sl.v am, Sl.v an], .agg #[.int .i64 ao, .string (Bs ap), .string (Bs aq), Sl.v ar, Sl.v au], Sl.v p] w (Ret R) := by
 refine enter [.agg #[.int .i64 aj, .string (Bs ak), .string (Bs al), Sl.v am, Sl.v an], .agg #[.int .i64 ao, .string (Bs ap), .string (Bs aq), Sl.v ar, Sl.v au], Sl.v p] Try.func12 rfl Try.ntmps12 rfl ?_
 intro a0 c4
 unfold slots_Of.vc at c3
 refine wp_seq (wp_region_lit ?_)
 refine sq (opk_new (fun B => .pointer (some ⟨B, 0, none⟩)) c4 rfl (r_box (cs := [.int .i64 aj, .string (Bs ak), .string (Bs al), Sl.v am, Sl.v an]) (c4.get rfl) rfl) fun a6 w5 az f7 f8 c6 c7 _ => ?_)
 have f9 : New w az w5 := f8
 have c8 : Chg [] w w5 := f7
 refine sq (opk_new (fun B => .pointer (some ⟨B, 0, none⟩)) c7 rfl (r_box (cs := [.int .i64 ao, .string (Bs ap), .string (Bs aq), Sl.v ar, Sl.v au]) (c7.get rfl) rfl) fun lq a3 aH cp c9 da ga _ => ?_)
 have gb : az ≠ aH := Nat.ne_of_lt (Nat.lt_of_lt_of_le c6.lt c9.ge)
 have gc := New.of c8 c9
 have db := c6.ext cp
 have gd := c8.more cp
 have gf := f9.up cp.size
 refine sqv ga rfl (r_assign rfl) fun _ gg => sqv gg rfl (r_assign rfl) fun _ gh => sq_end ?_
 have dc := gh.kp [(2, Sl.v p), (3, pB az 0), (4, pB aH 0)] rfl
 refine then_normal (wp_seq (wp_seq (wp_region_lit ?_)))
 refine sqv dc rfl (r_loadN (cs := [.int .i64 aj, .string (Bs ak), .string (Bs al), Sl.v am, Sl.v an]) Try.underlying26 rfl ti_26 (dc.get rfl) (db.part 0 _ rfl)) fun _ dd => sqv dd rfl (r_loadN (cs := [.int .i64 ao, .string (Bs ap), .string (Bs aq), Sl.v ar, Sl.v au]) Try.underlying26 rfl ti_26 (dd.get rfl) (da.part 0 _ rfl)) fun _ df => sqv df rfl (r_move (df.get rfl)) fun _ b2 => ?_
 have gi := c3 a3 az aH gf gc gb gd
 refine sq (opk_call b2 rfl (r_call (args := #[.agg #[.int .i64 aj, .string (Bs ak), .string (Bs al), Sl.v am, Sl.v an], .agg #[.int .i64 ao, .string (Bs ap), .string (Bs aq), Sl.v ar, Sl.v au], Sl.v p]) Try.func36 (by decide) rfl (map_arr (ml_cons (b2.get rfl) (ml_cons (b2.get rfl) (ml_cons (b2.get rfl) ml_nil)))) rfl) gi fun lr ls bK dg _ dh lu gj => ?_)
 obtain ⟨bv, rfl, di⟩ := gj
 have gk := db.kept dh (.head _)
 have gl := da.kept dh (.tail _ (.head _))
 refine sqv dg rfl (r_not (dg.get rfl)) fun _ gm => sq_end ?_
 have aM := gm.kp [(2, Sl.v p), (3, pB az 0), (4, pB aH 0), (25, .bool (!bv))] rfl
 refine then_normal ?_
 refine wp_cond_split (aM.get rfl) (fun hc => ?_) (fun hc => ?_)
 ·have gn := di.1 (b_not_t hc)
  clear hc
  refine wp_seq (wp_region_lit ?_)
  refine sqv aM rfl (r_assign rfl) fun _ go => sqv go rfl (r_assign rfl) fun _ gp => sq_end ?_
  have cq := gp.kp [(6, Sl.v Sl.nil), (7, .int .i64 1)] rfl
  refine then_normal ?_
  refine wp_ret ?_
  refine then_ret ?_
  exact res_all (vs := [Sl.v Sl.nil, .int .i64 1]) rfl cq ⟨res_of_tmp cq rfl, res_of_tmp cq rfl, trivial⟩ gn
 ·have gq := di.2 (b_not_f hc)
  clear hc
  refine wp_skip ?_
  refine then_normal (wp_seq ?_)
  refine draw' (by kernel_rfl) fun aN cr => ?_
  have dj := gk.ext cr
  have dk := gl.ext cr
  have gr : Chg [] bK aN := cr
  have gs := gq aN    gr
  obtain ⟨aQ, dl, gu, gv⟩ := gs
  obtain ⟨aR, dm, gx, gy⟩ := gv
  refine par (D := [[], [0], [], [0, 1, 2], [0, 1, 2, 3], [0, 1, 2, 3, 4]]) (S := [0, 1, 2, 3, 4, 5]) (F := []) (V := VL [(0, fun v _ => v = .agg #[.int .i64 aj, .string (Bs ak), .string (Bs al), Sl.v am, Sl.v an]), (1, fun v w' => ∃ g : Sl, aQ g w' ∧ v = Sl.v g), (2, fun v _ => v = .agg #[.int .i64 ao, .string (Bs ap), .string (Bs aq), Sl.v ar, Sl.v au]), (3, fun v w' => ∃ j : Sl, aR j w' ∧ v = Sl.v j), (4, fun v w' => ∃ g : Sl, aQ g w' ∧ v = Sl.v g), (5, fun v w' => ∃ j : Sl, aR j w' ∧ v = Sl.v j)]) aM (by kernel_rfl) ⟨fun _ _ _ _ h => h, fun _ _ _ hE ⟨g, h0_, e⟩ => ⟨g, (dl g _ _ hE h0_), e⟩, fun _ _ _ _ h => h, fun _ _ _ hE ⟨j, h0_, e⟩ => ⟨j, (dm j _ _ hE h0_), e⟩, fun _ _ _ hE ⟨g, h0_, e⟩ => ⟨g, (dl g _ _ hE h0_), e⟩, fun _ _ _ hE ⟨j, h0_, e⟩ => ⟨j, (dm j _ _ hE h0_), e⟩, trivial⟩ ⟨?_, ?_, ?_, ?_, ?_, ?_, trivial⟩ ?_
  ·intro a w hT
   have hAp := hT.ag aM [(3, pB az 0)] ⟨rfl, trivial⟩ (by kernel_rfl)
   exact ovr hAp rfl (r_loadN (cs := [.int .i64 aj, .string (Bs ak), .string (Bs al), Sl.v am, Sl.v an]) Try.underlying26 rfl ti_26 (hAp.get rfl) ((dj.ext hT.chg).part 0 _ rfl)) fun _ => Eq.refl _
  ·intro a w hT
   have hAp := hT.ag aM [] trivial (by kernel_rfl)
   have hAp := hAp.add (t := 26) (v := .agg #[.int .i64 aj, .string (Bs ak), .string (Bs al), Sl.v am, Sl.v an]) (hT.vals 0 rfl 26 rfl)
   exact opk_callX hAp rfl (r_call (args := #[.agg #[.int .i64 aj, .string (Bs ak), .string (Bs al), Sl.v am, Sl.v an]]) Try.func37 (by decide) rfl (map_arr (ml_cons (hAp.get rfl) ml_nil)) rfl) (gu w hT.chg) fun _ _ _ _ e ⟨hE, g, he, hV⟩ => ⟨_, e, hE, fun _ => ⟨g, hV, he⟩⟩
  ·intro a w hT
   have hAp := hT.ag aM [(4, pB aH 0)] ⟨rfl, trivial⟩ (by kernel_rfl)
   exact ovr hAp rfl (r_loadN (cs := [.int .i64 ao, .string (Bs ap), .string (Bs aq), Sl.v ar, Sl.v au]) Try.underlying26 rfl ti_26 (hAp.get rfl) ((dk.ext hT.chg).part 0 _ rfl)) fun _ => Eq.refl _
  ·intro a w hT
   have hAp := hT.ag aM [] trivial (by kernel_rfl)
   have hAp := hAp.add (t := 28) (v := .agg #[.int .i64 ao, .string (Bs ap), .string (Bs aq), Sl.v ar, Sl.v au]) (hT.vals 2 rfl 28 rfl)
   exact opk_callX hAp rfl (r_call (args := #[.agg #[.int .i64 ao, .string (Bs ap), .string (Bs aq), Sl.v ar, Sl.v au]]) Try.func37 (by decide) rfl (map_arr (ml_cons (hAp.get rfl) ml_nil)) rfl) (gx w hT.chg) fun _ _ _ _ e ⟨hE, j, he, hV⟩ => ⟨_, e, hE, fun _ => ⟨j, hV, he⟩⟩
  ·intro a w hT
   have hAp := hT.ag aM [] trivial (by kernel_rfl)
   obtain ⟨g, gz, gA⟩ := hT.vals 1 rfl 27 rfl
   have hAp := hAp.add gA
   exact opk_val hAp rfl (r_assign (hAp.get rfl)) fun _ _ e => ⟨_, e, Chg.refl _ _, fun _ => ⟨g, gz, rfl⟩⟩
  ·intro a w hT
   have hAp := hT.ag aM [] trivial (by kernel_rfl)
   obtain ⟨j, gB, gC⟩ := hT.vals 3 rfl 29 rfl
   have hAp := hAp.add gC
   exact opk_val hAp rfl (r_assign (hAp.get rfl)) fun _ _ e => ⟨_, e, Chg.refl _ _, fun _ => ⟨j, gB, rfl⟩⟩
  ·intro lv aS b3 gD dn
   have gF := gD [(2, Sl.v p)] ⟨rfl, trivial⟩ (by kernel_rfl)
   obtain ⟨g, gG, gH⟩ := dn 4 rfl 8 rfl
   have gI := gF.add gH
   obtain ⟨j, gJ, gK⟩ := dn 5 rfl 9 rfl
   have gL := gI.add gK
   have lx := dj.ext b3
   have ly := dk.ext b3
   have lz : Chg [] aN aS := b3
   have gM := gy aS g j b3 gG gJ
   refine PR_end (by kernel_rfl) ?_
   have gN := gL.kp [(2, Sl.v p), (8, Sl.v g), (9, Sl.v j)] rfl
   refine then_normal (wp_seq (wp_region_lit ?_))
   refine sq (opk_run gN rfl (fun _ _ hr => r_makeMap hr) gM fun lA lB c2 gO _ lC lD gP => ?_)
   obtain ⟨m, rfl, gQ⟩ := gP
   refine sq (opk_run gO rfl (fun _ _ hr => r_makeMap hr) gQ fun lF lG bx gR _ lH lI gS => ?_)
   obtain ⟨aI, rfl, gT⟩ := gS
   refine sq (opk_new (fun B => .pointer (some ⟨B, 0, none⟩)) gR rfl (r_alloc (cs := [.map none]) ti_81 rfl) fun lJ dp k gU gV dq dr _ => ?_)
   have ds : New bx k dp := gV
   have gX : Chg [] bx dp := gU
   refine sqv dr rfl (r_assign (dr.get rfl)) fun _ ct => ?_
   refine sq (opk_store ct dq (r_store (vs := [.map aI]) (ct.get rfl) (ct.get rfl) rfl ti_81 dq rfl (ones_all _ rfl)) fun lK aT dt gY gZ => ?_)
   have g0 : Box aT k 81 [.map aI] := gY
   have g1 := gX.storeNew ds dt
   have g2 := ds.up dt.size
   refine sq_end ?_
   have du := gZ.kp [(2, Sl.v p), (8, Sl.v g), (9, Sl.v j), (10, .map m), (11, pB k 0)] rfl
   refine then_normal (wp_seq (wp_seq (wp_region_lit ?_)))
   refine sqv du rfl (r_move (du.get rfl)) fun _ dv => sqv dv rfl (r_len (dv.get rfl) tU29) fun _ g3 => sqv g3 rfl (r_move rfl) fun _ g4 => sq_end ?_
   have g5 := g4.kp [(8, Sl.v g), (9, Sl.v j), (10, .map m), (11, pB k 0), (32, Sl.v p), (33, .int .i64 (p.n : Int)), (34, .int .i64 0)] rfl
   refine then_normal (wp_block ?_)
   have g6 := gT aT k g2  g1
   obtain ⟨bz, bL, g7, g8⟩ := g6
   refine wp_loop_st (σ := Int × World) (fun s a w => Ag 136 a [(8, Sl.v g), (9, Sl.v j), (10, .map m), (11, pB k 0), (32, Sl.v p), (33, .int .i64 (p.n : Int)), (34, .int .i64 s.1)] ∧ Box w k 81 [.map aI] ∧ w = s.2 ∧ bz s.1 s.2) (fun s => bL s.1 s.2) (0, aT) ⟨g5.kp [(8, Sl.v g), (9, Sl.v j), (10, .map m), (11, pB k 0), (32, Sl.v p), (33, .int .i64 (p.n : Int)), (34, .int .i64 0)] rfl, g0, rfl, g7⟩ ?_
   rintro ⟨u, aA⟩ lL w_ ⟨cu, cv, hw_, g9⟩
   have hw_ : aA = w_ := hw_.symm
   subst hw_
   have dx := g8 u _ g9
   refine wp_seq (wp_region_lit ?_)
   refine sqv cu rfl (r_lss (cu.get rfl) (cu.get rfl)) fun _ ha => sq_end ?_
   have bI := ha.kp [(8, Sl.v g), (9, Sl.v j), (10, .map m), (11, pB k 0), (32, Sl.v p), (33, .int .i64 (p.n : Int)), (34, .int .i64 u), (35, .bool (decide (u < (p.n : Int))))] rfl
   refine then_normal (wp_seq ?_)
   refine wp_cond_split (bI.get rfl) (fun hc => ?_) (fun hc => ?_)
   ·have hb := dx.1 (of_decide_eq_true hc)
    clear hc
    refine wp_skip ?_
    refine then_normal (wp_seq (wp_block (wp_seq (wp_region_lit ?_))))
    obtain ⟨hd, ca, hf, hg⟩ := hb
    refine sqv bI rfl (r_indexAddr (bI.get rfl) (bI.get rfl) tU29 ti_40 hd hf) fun _ dy => ?_
    obtain ⟨aB, aC, hh, hi⟩ := hg
    refine sqv dy rfl (r_loadN Try.underlying40 rfl ti_40 (dy.get rfl) hh) fun _ hj => ?_
    refine sq (opk_new (fun B => .pointer (some ⟨B, 0, none⟩)) hj rfl (r_alloc (cs := [.int .i64 0, .int .i64 0]) ti_40 rfl) fun lM dz r dA dB dC cx _ => ?_)
    have hk : k ≠ r := Nat.ne_of_lt (Nat.lt_of_lt_of_le cv.lt dB.ge)
    have dD : New aA r dz := dB
    have hl := cv.ext dA
    have hn : Chg [] aA dz := dA
    refine sq (opk_store cx dC (r_store (vs := [.int .i64 aB, .int .i64 aC]) (cx.get rfl) (cx.get rfl) rfl ti_40 dC rfl (ones_all _ rfl)) fun lN ho cy hp hq => ?_)
    have hs : Box ho r 40 [.int .i64 aB, .int .i64 aC] := hp
    have ht := hl.keep cy (by simpa using hk)
    have hu := hn.storeNew dD cy
    have hv := dD.up cy.size
    refine sq_end ?_
    have ax := hq.kp [(8, Sl.v g), (9, Sl.v j), (10, .map m), (11, pB k 0), (13, pB r 0), (32, Sl.v p), (33, .int .i64 (p.n : Int)), (34, .int .i64 u)] rfl
    refine then_normal ?_
    refine draw' (by kernel_rfl) fun bA b4 => ?_
    have dF := ht.ext b4
    have bJ := hs.ext b4
    have hx := hu.more b4
    have hy := hv.up b4.size
    have hz := hi bA r hy  hx
    refine startF (D := [[], [], [1], [], [], [4], [], [6], [], [8], [0, 1, 2, 6, 7], [0, 1, 2, 3, 4, 5, 6, 7, 8, 9, 10]]) (Fs := [0, 1, 2, 3, 4, 5, 6, 7, 8, 9]) (Ef := [(0, fun v _ => v = .map m), (1, fun v _ => v = pB r 0), (2, fun v _ => v = .int .i64 aB), (3, fun v _ => v = .map aI), (4, fun v _ => v = pB r 1), (5, fun v _ => v = .int .i64 aC), (6, fun v _ => v = pB r 1), (7, fun v _ => v = .int .i64 aC), (8, fun v _ => v = pB r 0), (9, fun v _ => v = .int .i64 aB)]) (by kernel_rfl) ?_
    refine oneF (c := 10) ax rfl (by kernel_rfl) (constF ⟨fun _ _ _ h => h, fun _ _ _ h => h, fun _ _ _ h => h, fun _ _ _ h => h, fun _ _ _ h => h, fun _ _ _ h => h, fun _ _ _ h => h, fun _ _ _ h => h, fun _ _ _ h => h, fun _ _ _ h => h, trivial⟩) ⟨?_, ?_, ?_, ?_, ?_, ?_, ?_, ?_, ?_, ?_, trivial⟩ ?_
    ·intro a hT
     have hAp := hT.ag ax [(10, .map m)] ⟨rfl, trivial⟩ (by kernel_rfl)
     exact opk_val hAp rfl (r_move (hAp.get rfl)) fun _ _ e => ⟨_, e, rfl, fun _ => Eq.refl _⟩
    ·intro a hT
     have hAp := hT.ag ax [(13, pB r 0)] ⟨rfl, trivial⟩ (by kernel_rfl)
     exact opk_val hAp rfl (r_fieldAddr (hAp.get rfl) Try.underlying40 rfl ti_3 (by decide)) fun _ _ e => ⟨_, e, rfl, fun _ => Eq.refl _⟩
    ·intro a hT
     have hAp := hT.ag ax [] trivial (by kernel_rfl)
     have hAp := hAp.add (t := 39) (v := pB r 0) (hT.vals 1 rfl 39 rfl)
     exact opk_val hAp rfl (r_load1 tU3 rfl (hAp.get rfl) ((bJ.ext hT.chg).cell 0 _ rfl)) fun _ _ e => ⟨_, e, rfl, fun _ => Eq.refl _⟩
    ·intro a hT
     have hAp := hT.ag ax [(11, pB k 0)] ⟨rfl, trivial⟩ (by kernel_rfl)
     exact opk_val hAp rfl (r_load1 tU81 rfl (hAp.get rfl) ((dF.ext hT.chg).cell 0 _ rfl)) fun _ _ e => ⟨_, e, rfl, fun _ => Eq.refl _⟩
    ·intro a hT
     have hAp := hT.ag ax [(13, pB r 0)] ⟨rfl, trivial⟩ (by kernel_rfl)
     exact opk_val hAp rfl (r_fieldAddr (hAp.get rfl) Try.underlying40 rfl ti_3 (by decide)) fun _ _ e => ⟨_, e, rfl, fun _ => Eq.refl _⟩
    ·intro a hT
     have hAp := hT.ag ax [] trivial (by kernel_rfl)
     have hAp := hAp.add (t := 42) (v := pB r 1) (hT.vals 4 rfl 42 rfl)
     exact opk_val hAp rfl (r_load1 tU3 rfl (hAp.get rfl) ((bJ.ext hT.chg).cell 1 _ rfl)) fun _ _ e => ⟨_, e, rfl, fun _ => Eq.refl _⟩
    ·intro a hT
     have hAp := hT.ag ax [(13, pB r 0)] ⟨rfl, trivial⟩ (by kernel_rfl)
     exact opk_val hAp rfl (r_fieldAddr (hAp.get rfl) Try.underlying40 rfl ti_3 (by decide)) fun _ _ e => ⟨_, e, rfl, fun _ => Eq.refl _⟩
    ·intro a hT
     have hAp := hT.ag ax [] trivial (by kernel_rfl)
     have hAp := hAp.add (t := 44) (v := pB r 1) (hT.vals 6 rfl 44 rfl)
     exact opk_val hAp rfl (r_load1 tU3 rfl (hAp.get rfl) ((bJ.ext hT.chg).cell 1 _ rfl)) fun _ _ e => ⟨_, e, rfl, fun _ => Eq.refl _⟩
    ·intro a hT
     have hAp := hT.ag ax [(13, pB r 0)] ⟨rfl, trivial⟩ (by kernel_rfl)
     exact opk_val hAp rfl (r_fieldAddr (hAp.get rfl) Try.underlying40 rfl ti_3 (by decide)) fun _ _ e => ⟨_, e, rfl, fun _ => Eq.refl _⟩
    ·intro a hT
     have hAp := hT.ag ax [] trivial (by kernel_rfl)
     have hAp := hAp.add (t := 46) (v := pB r 0) (hT.vals 8 rfl 46 rfl)
     exact opk_val hAp rfl (r_load1 tU3 rfl (hAp.get rfl) ((bJ.ext hT.chg).cell 0 _ rfl)) fun _ _ e => ⟨_, e, rfl, fun _ => Eq.refl _⟩
    ·intro cz hT
     have hA := hT.ag ax [(8, Sl.v g), (9, Sl.v j), (10, .map m), (11, pB k 0), (13, pB r 0), (32, Sl.v p), (33, .int .i64 (p.n : Int)), (34, .int .i64 u)] ⟨rfl, rfl, rfl, rfl, rfl, rfl, rfl, rfl, trivial⟩ (by kernel_rfl)
     have hB : cz.tmps.getD 38 undef = .map m := hT.vals 0 rfl 38 rfl
     have hC := hA.add hB
     have hD : cz.tmps.getD 40 undef = .int .i64 aB := hT.vals 2 rfl 40 rfl
     have hF := hC.add hD
     have hG : cz.tmps.getD 45 undef = .int .i64 aC := hT.vals 7 rfl 45 rfl
     have b5 := hF.add hG
     refine opk_runUF b5 (fun _ hr => r_mapUpdate (b5.get rfl) (b5.get rfl) (b5.get rfl) hr) hz fun cb hH dG lO hI => ⟨undef, Eq.refl _, ?_⟩
     have dH := dF.kept dG (.head _)
     have cA := bJ.kept dG (.tail _ (.head _))
     refine PRF_drop (X := [0, 1, 2, 6, 7]) (Fs' := [3, 4, 5, 8, 9]) hH (by kernel_rfl) fun lP hJ lQ => ?_
     have bu := hJ [(8, Sl.v g), (9, Sl.v j), (10, .map m), (11, pB k 0), (13, pB r 0), (32, Sl.v p), (33, .int .i64 (p.n : Int)), (34, .int .i64 u)] ⟨rfl, rfl, rfl, rfl, rfl, rfl, rfl, rfl, trivial⟩ (by kernel_rfl)
     refine joinF bu (by kernel_rfl) ⟨fun _ _ _ _ h => h, fun _ _ _ _ h => h, fun _ _ _ _ h => h, fun _ _ _ _ h => h, fun _ _ _ _ h => h, trivial⟩ ⟨?_, ?_, ?_, ?_, ?_, trivial⟩ ?_
     ·intro a w hT
      have hAp := hT.ag bu [(11, pB k 0)] ⟨rfl, trivial⟩ (by kernel_rfl)
      exact ovr hAp rfl (r_load1 tU81 rfl (hAp.get rfl) ((dH.ext hT.chg).cell 0 _ rfl)) fun _ => Eq.refl _
     ·intro a w hT
      have hAp := hT.ag bu [(13, pB r 0)] ⟨rfl, trivial⟩ (by kernel_rfl)
      exact ovr hAp rfl (r_fieldAddr (hAp.get rfl) Try.underlying40 rfl ti_3 (by decide)) fun _ => Eq.refl _
     ·intro a w hT
      have hAp := hT.ag bu [] trivial (by kernel_rfl)
      have hAp := hAp.add (t := 42) (v := pB r 1) (hT.vals 4 rfl 42 rfl)
      exact ovr hAp rfl (r_load1 tU3 rfl (hAp.get rfl) ((cA.ext hT.chg).cell 1 _ rfl)) fun _ => Eq.refl _
     ·intro a w hT
      have hAp := hT.ag bu [(13, pB r 0)] ⟨rfl, trivial⟩ (by kernel_rfl)
      exact ovr hAp rfl (r_fieldAddr (hAp.get rfl) Try.underlying40 rfl ti_3 (by decide)) fun _ => Eq.refl _
     ·intro a w hT
      have hAp := hT.ag bu [] trivial (by kernel_rfl)
      have hAp := hAp.add (t := 46) (v := pB r 0) (hT.vals 8 rfl 46 rfl)
      exact ovr hAp rfl (r_load1 tU3 rfl (hAp.get rfl) ((cA.ext hT.chg).cell 0 _ rfl)) fun _ => Eq.refl _
     ·intro cB bB cC hK cD
      have hL := hK [(8, Sl.v g), (9, Sl.v j), (10, .map m), (11, pB k 0), (32, Sl.v p), (33, .int .i64 (p.n : Int)), (34, .int .i64 u)] ⟨rfl, rfl, rfl, rfl, rfl, rfl, rfl, trivial⟩ (by kernel_rfl)
      have hM : cB.tmps.getD 41 undef = .map aI := cD 3 rfl 41 rfl
      have hN := hL.add hM
      have hO : cB.tmps.getD 43 undef = .int .i64 aC := cD 5 rfl 43 rfl
      have hP := hN.add hO
      have hQ : cB.tmps.getD 47 undef = .int .i64 aB := cD 9 rfl 47 rfl
      have b6 := hP.add hQ
      have hS := dH.ext cC
      have hU := cA.ext cC
      have hX : Chg [] cb bB := cC
      have hY := hI bB    hX
      refine one (D := [[], [], [1], [], [], [4], [], [6], [], [8], [0, 1, 2, 6, 7], [0, 1, 2, 3, 4, 5, 6, 7, 8, 9, 10]]) (i := 11) rfl (by kernel_rfl) (opk_runU b6 (fun _ hr => r_mapUpdate (b6.get rfl) (b6.get rfl) (b6.get rfl) hr) hY fun lR bM hZ dI lS h0 => ?_)
      have h1 := hS.kept dI (.head _)
      have lT := hU.kept dI (.tail _ (.head _))
      refine PR_end (by kernel_rfl) ?_
      have dJ := hZ.kp [(8, Sl.v g), (9, Sl.v j), (10, .map m), (11, pB k 0), (32, Sl.v p), (33, .int .i64 (p.n : Int)), (34, .int .i64 u)] rfl
      refine block_normal ?_
      refine then_normal (wp_region_lit ?_)
      obtain ⟨h2, dK⟩ := h0
      refine sqv dJ rfl (r_addI (dJ.get rfl) rfl h2) fun _ dL => sqv dL rfl (r_move (dL.get rfl)) fun _ h3 => sq_end ?_
      have h4 := h3.kp [(8, Sl.v g), (9, Sl.v j), (10, .map m), (11, pB k 0), (32, Sl.v p), (33, .int .i64 (p.n : Int)), (34, .int .i64 (u + 1))] rfl
      have h5 := h4.kp [(8, Sl.v g), (9, Sl.v j), (10, .map m), (11, pB k 0), (32, Sl.v p), (33, .int .i64 (p.n : Int)), (34, .int .i64 (u + 1))] rfl
      exact then_normal ⟨(u + 1, bM), ⟨h5, h1, rfl, dK.1⟩, dK.2⟩
   ·have h6 := dx.2 (of_decide_eq_false hc)
    clear hc
    refine wp_exit ?_
    refine then_exit ?_
    refine then_exit ?_
    refine block_hit ?_
    have dM := bI.kp [(8, Sl.v g), (9, Sl.v j), (10, .map m), (11, pB k 0)] rfl
    refine then_normal (wp_seq (wp_region_lit ?_))
    refine sqv dM rfl (r_makeFunc (f := #[]) (c := #[pB k 0]) (map_arr ml_nil) (map_arr (ml_cons (dM.get rfl) ml_nil))) fun _ dN => sqv dN rfl (r_assign (dN.get rfl)) fun _ h7 => sq_end ?_
    have dO := h7.kp [(8, Sl.v g), (9, Sl.v j), (10, .map m), (14, .func (.func 38) #[] #[pB k 0])] rfl
    refine then_normal (wp_seq (wp_region_lit ?_))
    refine sqv dO rfl (r_move (dO.get rfl)) fun _ dP => sqv dP rfl (r_len (dP.get rfl) tU79) fun _ cF => ?_
    refine sq (opk_run cF rfl (fun _ _ hr => r_makeSlice (cF.get rfl) (cF.get rfl) hr) h6 fun lU lV bN dQ _ h8 lX h9 => ?_)
    obtain ⟨l, rfl, ia⟩ := h9
    have ib := cv.kept h8 (.head _)
    refine sqv dQ rfl (r_assign (dQ.get rfl)) fun _ id => sq_end ?_
    have dR := id.kp [(8, Sl.v g), (9, Sl.v j), (10, .map m), (14, .func (.func 38) #[] #[pB k 0]), (15, Sl.v l)] rfl
    refine then_normal (wp_seq (wp_seq (wp_region_lit ?_)))
    refine sqv dR rfl (r_move (dR.get rfl)) fun _ dS => sqv dS rfl (r_len (dS.get rfl) tU79) fun _ ig => sqv ig rfl (r_move rfl) fun _ ih => sq_end ?_
    have ii := ih.kp [(8, Sl.v g), (9, Sl.v j), (10, .map m), (14, .func (.func 38) #[] #[pB k 0]), (15, Sl.v l), (54, .int .i64 (g.n : Int)), (55, .int .i64 0)] rfl
    refine then_normal (wp_block ?_)
    have ij := ia ib
    obtain ⟨a4, a5, ik, il⟩ := ij
    refine wp_loop_st (σ := Int × World) (fun s a w => Ag 136 a [(8, Sl.v g), (9, Sl.v j), (10, .map m), (14, .func (.func 38) #[] #[pB k 0]), (15, Sl.v l), (54, .int .i64 (g.n : Int)), (55, .int .i64 s.1)] ∧ w = s.2 ∧ a4 s.1 s.2) (fun s => a5 s.1 s.2) (0, bN) ⟨ii.kp [(8, Sl.v g), (9, Sl.v j), (10, .map m), (14, .func (.func 38) #[] #[pB k 0]), (15, Sl.v l), (54, .int .i64 (g.n : Int)), (55, .int .i64 0)] rfl, rfl, ik⟩ ?_
    rintro ⟨d, av⟩ lY w_ ⟨cG, hw_, im⟩
    have hw_ : av = w_ := hw_.symm
    subst hw_
    have dT := il d _ im
    refine wp_seq (wp_region_lit ?_)
    refine sqv cG rfl (r_lss (cG.get rfl) (cG.get rfl)) fun _ io => sq_end ?_
    have b7 := io.kp [(8, Sl.v g), (9, Sl.v j), (10, .map m), (14, .func (.func 38) #[] #[pB k 0]), (15, Sl.v l), (54, .int .i64 (g.n : Int)), (55, .int .i64 d), (56, .bool (decide (d < (g.n : Int))))] rfl
    refine then_normal (wp_seq ?_)
    refine wp_cond_split (b7.get rfl) (fun hc => ?_) (fun hc => ?_)
    ·have ip := dT.1 (of_decide_eq_true hc)
     clear hc
     refine wp_skip ?_
     refine then_normal (wp_seq (wp_block (wp_seq (wp_region_lit ?_))))
     refine sqv b7 rfl (r_move (b7.get rfl)) fun _ dU => sqv dU rfl (r_assign (dU.get rfl)) fun _ iq => sq_end ?_
     have dV := iq.kp [(8, Sl.v g), (9, Sl.v j), (10, .map m), (14, .func (.func 38) #[] #[pB k 0]), (15, Sl.v l), (16, .int .i64 d), (54, .int .i64 (g.n : Int)), (55, .int .i64 d)] rfl
     refine then_normal (wp_seq (wp_region_lit ?_))
     refine sqv dV rfl (r_move (dV.get rfl)) fun _ dX => sqv dX rfl (r_move (dX.get rfl)) fun _ cH => ?_
     obtain ⟨o, r_1_1449, ir, dY⟩ := ip
     refine sqv cH rfl (r_lookup (cH.get rfl) (cH.get rfl) ir) fun _ dZ => sqv dZ rfl (r_move (dZ.get rfl)) fun _ d0 => sqv d0 rfl (r_extract (d0.get rfl) rfl) fun _ d1 => sqv d1 rfl (r_extract (d1.get rfl) rfl) fun _ d2 => sqv d2 rfl (r_assign (d2.get rfl)) fun _ d3 => sqv d3 rfl (r_assign (d3.get rfl)) fun _ it => sq_end ?_
     have d4 := it.kp [(8, Sl.v g), (9, Sl.v j), (10, .map m), (14, .func (.func 38) #[] #[pB k 0]), (15, Sl.v l), (16, .int .i64 d), (17, .int .i64 o), (18, .bool r_1_1449), (54, .int .i64 (g.n : Int)), (55, .int .i64 d)] rfl
     refine then_normal (wp_seq (wp_seq (wp_region_lit ?_)))
     refine sqv d4 rfl (r_move (d4.get rfl)) fun _ d5 => sqv d5 rfl (r_not (d5.get rfl)) fun _ iu => sq_end ?_
     have af := iu.kp [(8, Sl.v g), (9, Sl.v j), (10, .map m), (14, .func (.func 38) #[] #[pB k 0]), (15, Sl.v l), (16, .int .i64 d), (17, .int .i64 o), (54, .int .i64 (g.n : Int)), (55, .int .i64 d), (65, .bool (!r_1_1449))] rfl
     refine then_normal ?_
     refine wp_cond_split (af.get rfl) (fun hc => ?_) (fun hc => ?_)
     ·have iv := dY.1 (b_not_t hc)
      clear hc
      refine wp_seq (wp_region_lit ?_)
      refine sqv af rfl (r_move (af.get rfl)) fun _ d6 => sqv d6 rfl (r_move (d6.get rfl)) fun _ cI => ?_
      obtain ⟨ix, cc, iy, iz⟩ := iv
      refine sqv cI rfl (r_indexAddr (cI.get rfl) (cI.get rfl) tU33 ti_43 ix iy) fun _ d7 => sqv d7 rfl (r_fieldAddr (d7.get rfl) Try.underlying43 rfl ti_4 (by decide)) fun _ d8 => ?_
      obtain ⟨a7, bO, cd, bP, iA, d9, iB, lZ, iC⟩ := iz
      refine sq (opk_store d8 d9 (r_store (vs := [.bool true]) (((d8.get rfl)).trans (congrArg (fun a => Value.pointer (some a)) iA)) rfl rfl ti_4 d9 (Nat.ble_eq_true_of_le iB) (ones_all _ rfl)) fun l0 aU iD iF iG => ?_)
      have iH := iC aU iD iF
      refine sq_end ?_
      have iI := iG.kp [(8, Sl.v g), (9, Sl.v j), (10, .map m), (14, .func (.func 38) #[] #[pB k 0]), (15, Sl.v l), (54, .int .i64 (g.n : Int)), (55, .int .i64 d)] rfl
      refine then_normal ?_
      refine wp_exit ?_
      refine then_exit ?_
      refine block_hit ?_
      have fa := iI.kp [(8, Sl.v g), (9, Sl.v j), (10, .map m), (14, .func (.func 38) #[] #[pB k 0]), (15, Sl.v l), (54, .int .i64 (g.n : Int)), (55, .int .i64 d)] rfl
      refine then_normal (wp_region_lit ?_)
      obtain ⟨iJ, fb⟩ := iH
      refine sqv fa rfl (r_addI (fa.get rfl) rfl iJ) fun _ fc => sqv fc rfl (r_move (fc.get rfl)) fun _ iK => sq_end ?_
      have iL := iK.kp [(8, Sl.v g), (9, Sl.v j), (10, .map m), (14, .func (.func 38) #[] #[pB k 0]), (15, Sl.v l), (54, .int .i64 (g.n : Int)), (55, .int .i64 (d + 1))] rfl
      have iM := iL.kp [(8, Sl.v g), (9, Sl.v j), (10, .map m), (14, .func (.func 38) #[] #[pB k 0]), (15, Sl.v l), (54, .int .i64 (g.n : Int)), (55, .int .i64 (d + 1))] rfl
      exact then_normal ⟨(d + 1, aU), ⟨iM, rfl, fb.1⟩, fb.2⟩
     ·have iN := dY.2 (b_not_f hc)
      clear hc
      refine wp_skip ?_
      refine then_normal (wp_seq ?_)
      refine draw' (by kernel_rfl) fun aJ iO => ?_
      have iP : Chg [] av aJ := iO
      have iQ := iN aJ    iP
      obtain ⟨aV, fd, iR⟩ := iQ
      obtain ⟨a8, a9, ba, bb, bd, iS, iT⟩ := iR
      obtain ⟨aX, ff, iU⟩ := iT
      obtain ⟨bf, bg, bh, bi, bj, iV, iX⟩ := iU
      obtain ⟨bk, iY, iZ, i0⟩ := iX
      obtain ⟨bC, fg, i1⟩ := i0
      refine par (D := [[], [], [], [], [2, 3], [2, 3, 4], [2, 3, 4, 5], [], [], [7, 8], [7, 8, 9], [7, 8, 9, 10], [2, 3, 4, 5, 6, 7, 8, 9, 10, 11], [0, 1, 2, 3, 4, 5, 6, 7, 8, 9, 10, 11, 12], [0, 1, 2, 3, 4, 5, 6, 7, 8, 9, 10, 11, 12, 13]]) (S := [0, 1, 2, 3, 4, 5, 6, 7, 8, 9, 10, 11, 12, 13]) (F := []) (V := VL [(0, fun v _ => v = Sl.v l), (1, fun v _ => v = .int .i64 d), (2, fun v _ => v = Sl.v g), (3, fun v _ => v = .int .i64 d), (4, fun v _ => v = .pointer (some (aV.add (d.toNat * 10)))), (5, fun v _ => v = .pointer (some ((aV.add (d.toNat * 10)).add 5))), (6, fun v _ => v = .agg #[.int .i64 a8, .string (Bs a9), .string (Bs ba), Sl.v bb, Sl.v bd]), (7, fun v _ => v = Sl.v j), (8, fun v _ => v = .int .i64 o), (9, fun v _ => v = .pointer (some (aX.add (o.toNat * 10)))), (10, fun v _ => v = .pointer (some ((aX.add (o.toNat * 10)).add 5))), (11, fun v _ => v = .agg #[.int .i64 bf, .string (Bs bg), .string (Bs bh), Sl.v bi, Sl.v bj]), (12, fun v w' => ∃ x : Bool, ∃ y : Bool, ∃ z : Sl, ∃ aa : Sl, ∃ ab : Int, ∃ ad : Sl, bk x y z aa ab ad w' ∧ v = .agg #[.bool x, .bool y, Sl.v z, Sl.v aa, .int .i64 ab, Sl.v ad]), (13, fun v _ => v = .pointer (some (bC.add (d.toNat * 6))))]) af (by kernel_rfl) ⟨fun _ _ _ _ h => h, fun _ _ _ _ h => h, fun _ _ _ _ h => h, fun _ _ _ _ h => h, fun _ _ _ _ h => h, fun _ _ _ _ h => h, fun _ _ _ _ h => h, fun _ _ _ _ h => h, fun _ _ _ _ h => h, fun _ _ _ _ h => h, fun _ _ _ _ h => h, fun _ _ _ _ h => h, fun _ _ _ hE ⟨x, y, z, aa, ab, ad, h0_, e⟩ => ⟨x, y, z, aa, ab, ad, (iY x y z aa ab ad _ _ hE h0_), e⟩, fun _ _ _ _ h => h, trivial⟩ ⟨?_, ?_, ?_, ?_, ?_, ?_, ?_, ?_, ?_, ?_, ?_, ?_, ?_, ?_, trivial⟩ ?_
      ·intro a w hT
       have hAp := hT.ag af [(15, Sl.v l)] ⟨rfl, trivial⟩ (by kernel_rfl)
       exact ovr hAp rfl (r_move (hAp.get rfl)) fun _ => Eq.refl _
      ·intro a w hT
       have hAp := hT.ag af [(16, .int .i64 d)] ⟨rfl, trivial⟩ (by kernel_rfl)
       exact ovr hAp rfl (r_move (hAp.get rfl)) fun _ => Eq.refl _
      ·intro a w hT
       have hAp := hT.ag af [(8, Sl.v g)] ⟨rfl, trivial⟩ (by kernel_rfl)
       exact ovr hAp rfl (r_move (hAp.get rfl)) fun _ => Eq.refl _
      ·intro a w hT
       have hAp := hT.ag af [(16, .int .i64 d)] ⟨rfl, trivial⟩ (by kernel_rfl)
       exact ovr hAp rfl (r_move (hAp.get rfl)) fun _ => Eq.refl _
      ·intro a w hT
       have hAp := hT.ag af [] trivial (by kernel_rfl)
       have hAp := hAp.add (t := 72) (v := Sl.v g) (hT.vals 2 rfl 72 rfl)
       have hAp := hAp.add (t := 73) (v := .int .i64 d) (hT.vals 3 rfl 73 rfl)
       exact ovr hAp rfl (r_indexAddr (hAp.get rfl) (hAp.get rfl) tU79 ti_86 fd.1 fd.2) fun _ => Eq.refl _
      ·intro a w hT
       have hAp := hT.ag af [] trivial (by kernel_rfl)
       have hAp := hAp.add (t := 74) (v := .pointer (some (aV.add (d.toNat * 10)))) (hT.vals 4 rfl 74 rfl)
       exact ovr hAp rfl (r_fieldAddr (hAp.get rfl) Try.underlying86 rfl ti_26 (by decide)) fun _ => Eq.refl _
      ·intro a w hT
       have hAp := hT.ag af [] trivial (by kernel_rfl)
       have hAp := hAp.add (t := 75) (v := .pointer (some ((aV.add (d.toNat * 10)).add 5))) (hT.vals 5 rfl 75 rfl)
       exact ovr hAp rfl (r_loadN Try.underlying26 rfl ti_26 (hAp.get rfl) (iS.ext hT.chg)) fun _ => Eq.refl _
      ·intro a w hT
       have hAp := hT.ag af [(9, Sl.v j)] ⟨rfl, trivial⟩ (by kernel_rfl)
       exact ovr hAp rfl (r_move (hAp.get rfl)) fun _ => Eq.refl _
      ·intro a w hT
       have hAp := hT.ag af [(17, .int .i64 o)] ⟨rfl, trivial⟩ (by kernel_rfl)
       exact ovr hAp rfl (r_move (hAp.get rfl)) fun _ => Eq.refl _
      ·intro a w hT
       have hAp := hT.ag af [] trivial (by kernel_rfl)
       have hAp := hAp.add (t := 77) (v := Sl.v j) (hT.vals 7 rfl 77 rfl)
       have hAp := hAp.add (t := 78) (v := .int .i64 o) (hT.vals 8 rfl 78 rfl)
       exact ovr hAp rfl (r_indexAddr (hAp.get rfl) (hAp.get rfl) tU79 ti_86 ff.1 ff.2) fun _ => Eq.refl _
      ·intro a w hT
       have hAp := hT.ag af [] trivial (by kernel_rfl)
       have hAp := hAp.add (t := 79) (v := .pointer (some (aX.add (o.toNat * 10)))) (hT.vals 9 rfl 79 rfl)
       exact ovr hAp rfl (r_fieldAddr (hAp.get rfl) Try.underlying86 rfl ti_26 (by decide)) fun _ => Eq.refl _
      ·intro a w hT
       have hAp := hT.ag af [] trivial (by kernel_rfl)
       have hAp := hAp.add (t := 80) (v := .pointer (some ((aX.add (o.toNat * 10)).add 5))) (hT.vals 10 rfl 80 rfl)
       exact ovr hAp rfl (r_loadN Try.underlying26 rfl ti_26 (hAp.get rfl) (iV.ext hT.chg)) fun _ => Eq.refl _
      ·intro a w hT
       have hAp := hT.ag af [] trivial (by kernel_rfl)
       have hAp := hAp.add (t := 76) (v := .agg #[.int .i64 a8, .string (Bs a9), .string (Bs ba), Sl.v bb, Sl.v bd]) (hT.vals 6 rfl 76 rfl)
       have hAp := hAp.add (t := 81) (v := .agg #[.int .i64 bf, .string (Bs bg), .string (Bs bh), Sl.v bi, Sl.v bj]) (hT.vals 11 rfl 81 rfl)
       exact opk_callX hAp rfl (r_call (args := #[.agg #[.int .i64 a8, .string (Bs a9), .string (Bs ba), Sl.v bb, Sl.v bd], .agg #[.int .i64 bf, .string (Bs bg), .string (Bs bh), Sl.v bi, Sl.v bj]]) Try.func39 (by decide) rfl (map_arr (ml_cons (hAp.get rfl) (ml_cons (hAp.get rfl) ml_nil))) rfl) (iZ w hT.chg) fun _ _ _ _ e ⟨hE, x, y, z, aa, ab, ad, he, hV⟩ => ⟨_, e, hE, fun _ => ⟨x, y, z, aa, ab, ad, hV, he⟩⟩
      ·intro a w hT
       have hAp := hT.ag af [] trivial (by kernel_rfl)
       have hAp := hAp.add (t := 70) (v := Sl.v l) (hT.vals 0 rfl 70 rfl)
       have hAp := hAp.add (t := 71) (v := .int .i64 d) (hT.vals 1 rfl 71 rfl)
       exact ovr hAp rfl (r_indexAddr (hAp.get rfl) (hAp.get rfl) tU33 ti_43 fg.1 fg.2) fun _ => Eq.refl _
      ·intro i2 aY fh i3 fi
       have i4 := i3 [(8, Sl.v g), (9, Sl.v j), (10, .map m), (14, .func (.func 38) #[] #[pB k 0]), (15, Sl.v l), (16, .int .i64 d), (17, .int .i64 o), (54, .int .i64 (g.n : Int)), (55, .int .i64 d)] ⟨rfl, rfl, rfl, rfl, rfl, rfl, rfl, rfl, rfl, trivial⟩ (by kernel_rfl)
       obtain ⟨x, y, z, aa, ab, ad, i5, i6⟩ := fi 12 rfl 82 rfl
       have i7 := i4.add i6
       have i8 : i2.tmps.getD 83 undef = .pointer (some (bC.add (d.toNat * 6))) := fi 13 rfl 83 rfl
       have cJ := i7.add i8
       have l1 : Chg [] aJ aY := fh
       have i9 := i1 aY x y z aa ab ad fh i5
       obtain ⟨bl, bQ, cf, bR, ja, fj, jb, l2, jc⟩ := i9
       refine one (D := [[], [], [], [], [2, 3], [2, 3, 4], [2, 3, 4, 5], [], [], [7, 8], [7, 8, 9], [7, 8, 9, 10], [2, 3, 4, 5, 6, 7, 8, 9, 10, 11], [0, 1, 2, 3, 4, 5, 6, 7, 8, 9, 10, 11, 12], [0, 1, 2, 3, 4, 5, 6, 7, 8, 9, 10, 11, 12, 13]]) (i := 14) rfl (by kernel_rfl) (opk_store cJ fj (r_store (vs := [.bool x, .bool y, Sl.v z, Sl.v aa, .int .i64 ab, Sl.v ad]) (((cJ.get rfl)).trans (congrArg (fun a => Value.pointer (some a)) ja)) (cJ.get rfl) rfl ti_43 fj (Nat.ble_eq_true_of_le jb) (ones_all _ rfl)) fun l3 bm jd jf jg => ?_)
       have jh := jc bm jd jf
       refine PR_end (by kernel_rfl) ?_
       have fk := jg.kp [(8, Sl.v g), (9, Sl.v j), (10, .map m), (14, .func (.func 38) #[] #[pB k 0]), (15, Sl.v l), (16, .int .i64 d), (17, .int .i64 o), (54, .int .i64 (g.n : Int)), (55, .int .i64 d)] rfl
       refine then_normal (wp_seq (wp_region_lit ?_))
       refine sqv fk rfl (r_move (fk.get rfl)) fun _ fl => sqv fl rfl (r_move (fl.get rfl)) fun _ cK => ?_
       obtain ⟨ji, cg, jj, jk⟩ := jh
       refine sqv cK rfl (r_indexAddr (cK.get rfl) (cK.get rfl) tU33 ti_43 ji jj) fun _ fm => sqv fm rfl (r_fieldAddr (fm.get rfl) Try.underlying43 rfl ti_3 (by decide)) fun _ fn => ?_
       obtain ⟨bn, bS, ch, bT, jl, fo, jm, l4, jn⟩ := jk
       refine sq (opk_store fn fo (r_store (vs := [.int .i64 (-1)]) (((fn.get rfl)).trans (congrArg (fun a => Value.pointer (some a)) jl)) rfl rfl ti_3 fo (Nat.ble_eq_true_of_le jm) (ones_all _ rfl)) fun l5 aZ jo jp jq => ?_)
       have jr := jn aZ jo jp
       refine sq_end ?_
       have fp := jq.kp [(8, Sl.v g), (9, Sl.v j), (10, .map m), (14, .func (.func 38) #[] #[pB k 0]), (15, Sl.v l), (16, .int .i64 d), (17, .int .i64 o), (54, .int .i64 (g.n : Int)), (55, .int .i64 d)] rfl
       refine then_normal (wp_seq (wp_seq (wp_region_lit ?_)))
       refine sqv fp rfl (r_move (fp.get rfl)) fun _ fq => sqv fq rfl (r_move (fq.get rfl)) fun _ cL => ?_
       obtain ⟨js, ci, jt, ju⟩ := jr
       refine sqv cL rfl (r_indexAddr (cL.get rfl) (cL.get rfl) tU79 ti_86 js jt) fun _ fr => sqv fr rfl (r_fieldAddr (fr.get rfl) Try.underlying86 rfl ti_3 (by decide)) fun _ fs => ?_
       obtain ⟨aK, jv, jx⟩ := ju
       refine sqv fs rfl (r_load1 tU3 rfl (fs.get rfl) jv) fun _ ft => sqv ft rfl (r_assign (ft.get rfl)) fun _ jy => sq_end ?_
       have fu := jy.kp [(8, Sl.v g), (9, Sl.v j), (10, .map m), (14, .func (.func 38) #[] #[pB k 0]), (15, Sl.v l), (16, .int .i64 d), (17, .int .i64 o), (19, .int .i64 aK), (54, .int .i64 (g.n : Int)), (55, .int .i64 d)] rfl
       refine then_normal (wp_seq (wp_region_lit ?_))
       refine sqv fu rfl (r_move (fu.get rfl)) fun _ fv => sqv fv rfl (r_geq (fv.get rfl) rfl) fun _ jz => sq_end ?_
       have b8 := jz.kp [(8, Sl.v g), (9, Sl.v j), (10, .map m), (14, .func (.func 38) #[] #[pB k 0]), (15, Sl.v l), (16, .int .i64 d), (17, .int .i64 o), (19, .int .i64 aK), (54, .int .i64 (g.n : Int)), (55, .int .i64 d), (94, .bool (decide (0 ≤ aK)))] rfl
       refine then_normal ?_
       obtain ⟨bD, fx, jA⟩ := jx
       refine wp_meet (fun a w => Ag 136 a [(8, Sl.v g), (9, Sl.v j), (10, .map m), (14, .func (.func 38) #[] #[pB k 0]), (15, Sl.v l), (16, .int .i64 d), (17, .int .i64 o), (54, .int .i64 (g.n : Int)), (55, .int .i64 d)] ∧ bD w) ?_ ?_
       ·refine wp_cond_split (b8.get rfl) (fun hc => ?_) (fun hc => ?_)
        ·have jB := fx.1 (of_decide_eq_true hc)
         clear hc
         refine wp_region_lit ?_
         refine sqv b8 rfl (r_move (b8.get rfl)) fun _ fy => sqv fy rfl (r_move (fy.get rfl)) fun _ fz => sqv fz rfl (r_move (fz.get rfl)) fun _ fA => sqv fA rfl (r_move (fA.get rfl)) fun _ cM => ?_
         refine sq (opk_call cM rfl (r_callV (args := #[.int .i64 aK]) Try.func38 (by decide) rfl (map_arr (ml_cons (cM.get rfl) ml_nil)) (cM.get rfl)) jB fun l6 l7 cj cN _ l8 l9 jC => ?_)
         obtain ⟨bU, rfl, jD⟩ := jC
         obtain ⟨jF, ck, jG, jH⟩ := jD
         refine sqv cN rfl (r_indexAddr (cN.get rfl) (cN.get rfl) tU33 ti_43 jF jG) fun _ fB => sqv fB rfl (r_fieldAddr (fB.get rfl) Try.underlying43 rfl ti_3 (by decide)) fun _ cO => ?_
         obtain ⟨bo, bV, cl, bX, jI, fC, jJ, ma, jK⟩ := jH
         refine sq (opk_store cO fC (r_store (vs := [.int .i64 bU]) (((cO.get rfl)).trans (congrArg (fun a => Value.pointer (some a)) jI)) (cO.get rfl) rfl ti_3 fC (Nat.ble_eq_true_of_le jJ) (ones_all _ rfl)) fun mb bF jL jM jN => ?_)
         have jO := jK bF jL jM
         refine sq_end ?_
         have jP := jN.kp [(8, Sl.v g), (9, Sl.v j), (10, .map m), (14, .func (.func 38) #[] #[pB k 0]), (15, Sl.v l), (16, .int .i64 d), (17, .int .i64 o), (54, .int .i64 (g.n : Int)), (55, .int .i64 d)] rfl
         have jQ := jP.kp [(8, Sl.v g), (9, Sl.v j), (10, .map m), (14, .func (.func 38) #[] #[pB k 0]), (15, Sl.v l), (16, .int .i64 d), (17, .int .i64 o), (54, .int .i64 (g.n : Int)), (55, .int .i64 d)] rfl
         exact then_normal ⟨jQ, jO⟩
        ·have jR := fx.2 (of_decide_eq_false hc)
         clear hc
         refine wp_skip ?_
         have jS := b8.kp [(8, Sl.v g), (9, Sl.v j), (10, .map m), (14, .func (.func 38) #[] #[pB k 0]), (15, Sl.v l), (16, .int .i64 d), (17, .int .i64 o), (54, .int .i64 (g.n : Int)), (55, .int .i64 d)] rfl
         exact then_normal ⟨jS, jR⟩
       ·intro mc bG hm
        obtain ⟨fD, jT⟩ := hm
        have jU := jA bG jT
        refine then_normal (wp_seq (wp_region_lit ?_))
        refine sqv fD rfl (r_move (fD.get rfl)) fun _ fF => ?_
        obtain ⟨jV, jX⟩ := jU
        refine sqv fF rfl (r_addI (fF.get rfl) rfl jV) fun _ fG => sqv fG rfl (r_assign (fG.get rfl)) fun _ jY => sq_end ?_
        have jZ := jY.kp [(8, Sl.v g), (9, Sl.v j), (10, .map m), (14, .func (.func 38) #[] #[pB k 0]), (15, Sl.v l), (16, .int .i64 d), (17, .int .i64 o), (20, .int .i64 (o + 1)), (54, .int .i64 (g.n : Int)), (55, .int .i64 d)] rfl
        refine then_normal (wp_block ?_)
        obtain ⟨bH, bY, j0, j1⟩ := jX
        refine wp_loop_st (σ := Int × World) (fun s a w => Ag 136 a [(8, Sl.v g), (9, Sl.v j), (10, .map m), (14, .func (.func 38) #[] #[pB k 0]), (15, Sl.v l), (16, .int .i64 d), (17, .int .i64 o), (20, .int .i64 s.1), (54, .int .i64 (g.n : Int)), (55, .int .i64 d)] ∧ w = s.2 ∧ bH s.1 s.2) (fun s => bY s.1 s.2) (o + 1, bG) ⟨jZ.kp [(8, Sl.v g), (9, Sl.v j), (10, .map m), (14, .func (.func 38) #[] #[pB k 0]), (15, Sl.v l), (16, .int .i64 d), (17, .int .i64 o), (20, .int .i64 (o + 1)), (54, .int .i64 (g.n : Int)), (55, .int .i64 d)] rfl, rfl, j0⟩ ?_
        rintro ⟨q, aD⟩ md w_ ⟨fH, hw_, j2⟩
        have hw_ : aD = w_ := hw_.symm
        subst hw_
        have j3 := j1 q _ j2
        refine wp_seq (wp_seq (wp_region_lit ?_))
        refine sqv fH rfl (r_move (fH.get rfl)) fun _ fI => sqv fI rfl (r_move (fI.get rfl)) fun _ fJ => sqv fJ rfl (r_move (fJ.get rfl)) fun _ fK => sqv fK rfl (r_move (fK.get rfl)) fun _ cP => ?_
        obtain ⟨j4, cm, j5, j6⟩ := j3
        refine sqv cP rfl (r_indexAddr (cP.get rfl) (cP.get rfl) tU79 ti_86 j4 j5) fun _ fL => sqv fL rfl (r_fieldAddr (fL.get rfl) Try.underlying86 rfl ti_3 (by decide)) fun _ fM => ?_
        obtain ⟨bp, j7, j8⟩ := j6
        refine sqv fM rfl (r_load1 tU3 rfl (fM.get rfl) j7) fun _ cQ => ?_
        obtain ⟨j9, fN⟩ := j8
        refine sqv cQ rfl (r_addI (cQ.get rfl) (cQ.get rfl) j9) fun _ cR => sqv cR rfl (r_lss (cR.get rfl) (cR.get rfl)) fun _ ka => sq_end ?_
        have ai := ka.kp [(8, Sl.v g), (9, Sl.v j), (10, .map m), (14, .func (.func 38) #[] #[pB k 0]), (15, Sl.v l), (16, .int .i64 d), (17, .int .i64 o), (20, .int .i64 q), (54, .int .i64 (g.n : Int)), (55, .int .i64 d), (112, .bool (decide (q < (o + bp))))] rfl
        refine then_normal ?_
        refine wp_cond_split (ai.get rfl) (fun hc => ?_) (fun hc => ?_)
        ·have kb := fN.1 (of_decide_eq_true hc)
         clear hc
         refine wp_skip ?_
         refine then_normal (wp_seq (wp_block ?_))
         refine draw' (by kernel_rfl) fun aF kc => ?_
         have kd : Chg [] aD aF := kc
         have kf := kb aF    kd
         obtain ⟨aG, b9, kg⟩ := kf
         obtain ⟨bq, fO, kh⟩ := kg
         refine startF (D := [[], [], [], [], [2, 3], [2, 3, 4], [2, 3, 4, 5], [], [], [7, 8], [7, 8, 9], [2, 3, 4, 5, 6, 7, 8, 9, 10], [0, 1, 2, 3, 4, 5, 6, 7, 8, 9, 10, 11], [0, 1, 2, 3, 4, 5, 6, 7, 8, 9, 10, 11, 12], [0, 1, 2, 3, 4, 5, 6, 7, 8, 9, 10, 11, 12, 13]]) (Fs := [0, 1, 2, 3, 4, 5, 6, 7, 8]) (Ef := [(0, fun v _ => v = Sl.v l), (1, fun v _ => v = .int .i64 d), (2, fun v _ => v = Sl.v l), (3, fun v _ => v = .int .i64 d), (4, fun v _ => v = .pointer (some (aG.add (d.toNat * 6)))), (5, fun v _ => v = .pointer (some ((aG.add (d.toNat * 6)).add 5))), (6, fun v _ => v = Sl.v bq), (7, fun v _ => v = .func (.func 38) #[] #[pB k 0]), (8, fun v _ => v = .int .i64 q)]) (by kernel_rfl) ?_
         obtain ⟨aL, ki, kj⟩ := kh
         refine parF (D := [[], [], [], [], [2, 3], [2, 3, 4], [2, 3, 4, 5], [], [], [7, 8], [7, 8, 9], [2, 3, 4, 5, 6, 7, 8, 9, 10], [0, 1, 2, 3, 4, 5, 6, 7, 8, 9, 10, 11], [0, 1, 2, 3, 4, 5, 6, 7, 8, 9, 10, 11, 12], [0, 1, 2, 3, 4, 5, 6, 7, 8, 9, 10, 11, 12, 13]]) (S := [9, 10]) (F := []) (KE := [9, 10]) (E := [(9, fun v _ => v = .int .i64 aL), (10, fun v w' => ∃ ah : Nat, aF.heap.size ≤ ah ∧ Box w' ah 3 [.int .i64 aL] ∧ v = Sl.v (Sl.mk (some ⟨ah, 0, none⟩) 1 1))]) ai rfl (by kernel_rfl) ⟨fun _ _ _ _ h => h, fun _ _ _ hE ⟨ah, h0_, h1_, e⟩ => ⟨ah, h0_, (h1_.ext hE), e⟩, fun _ _ _ _ h => h, fun _ _ _ _ h => h, fun _ _ _ _ h => h, fun _ _ _ _ h => h, fun _ _ _ _ h => h, fun _ _ _ _ h => h, fun _ _ _ _ h => h, fun _ _ _ _ h => h, fun _ _ _ _ h => h, trivial⟩ ⟨?_, ?_, ?_, ?_, ?_, ?_, ?_, ?_, ?_, ?_, ?_, trivial⟩ ?_
         ·intro a w hT
          have hAp := hT.ag ai [] trivial (by kernel_rfl)
          have hAp := hAp.add (t := 127) (v := .func (.func 38) #[] #[pB k 0]) (hT.vals 7 rfl 127 rfl)
          have hAp := hAp.add (t := 128) (v := .int .i64 q) (hT.vals 8 rfl 128 rfl)
          exact opk_callX hAp rfl (r_callV (args := #[.int .i64 q]) Try.func38 (by decide) rfl (map_arr (ml_cons (hAp.get rfl) ml_nil)) (hAp.get rfl)) (ki w hT.chg) fun _ _ _ _ e hR => ⟨_, e, hR.1, fun _ => hR.2⟩
         ·intro a w hT
          have hAp := hT.ag ai [] trivial (by kernel_rfl)
          have hAp := hAp.add (t := 129) (v := .int .i64 aL) (hT.vals 9 rfl 129 rfl)
          exact opk_new (fun B => .slice (some ⟨B, 0, none⟩) 1 1) hAp rfl (r_buildSlice (vs := #[(0, .int .i64 aL)]) (cs := [.int .i64 aL]) (map_arr2 (ml2_cons (hAp.get rfl) (ml2_nil))) tU22 ti_3 rfl rfl (by kernel_rfl)) fun _ mf ah kk kl km _ e => ⟨_, e, kk, fun _ => ⟨ah, Nat.le_trans hT.chg.size kl.ge, km, rfl⟩⟩
         ·intro a w hT
          have hAp := hT.ag ai [(15, Sl.v l)] ⟨rfl, trivial⟩ (by kernel_rfl)
          exact ovr hAp rfl (r_move (hAp.get rfl)) fun _ => Eq.refl _
         ·intro a w hT
          have hAp := hT.ag ai [(16, .int .i64 d)] ⟨rfl, trivial⟩ (by kernel_rfl)
          exact ovr hAp rfl (r_move (hAp.get rfl)) fun _ => Eq.refl _
         ·intro a w hT
          have hAp := hT.ag ai [(15, Sl.v l)] ⟨rfl, trivial⟩ (by kernel_rfl)
          exact ovr hAp rfl (r_move (hAp.get rfl)) fun _ => Eq.refl _
         ·intro a w hT
          have hAp := hT.ag ai [(16, .int .i64 d)] ⟨rfl, trivial⟩ (by kernel_rfl)
          exact ovr hAp rfl (r_move (hAp.get rfl)) fun _ => Eq.refl _
         ·intro a w hT
          have hAp := hT.ag ai [] trivial (by kernel_rfl)
          have hAp := hAp.add (t := 122) (v := Sl.v l) (hT.vals 2 rfl 122 rfl)
          have hAp := hAp.add (t := 123) (v := .int .i64 d) (hT.vals 3 rfl 123 rfl)
          exact ovr hAp rfl (r_indexAddr (hAp.get rfl) (hAp.get rfl) tU33 ti_43 b9.1 b9.2) fun _ => Eq.refl _
         ·intro a w hT
          have hAp := hT.ag ai [] trivial (by kernel_rfl)
          have hAp := hAp.add (t := 124) (v := .pointer (some (aG.add (d.toNat * 6)))) (hT.vals 4 rfl 124 rfl)
          exact ovr hAp rfl (r_fieldAddr (hAp.get rfl) Try.underlying43 rfl ti_22 (by decide)) fun _ => Eq.refl _
         ·intro a w hT
          have hAp := hT.ag ai [] trivial (by kernel_rfl)
          have hAp := hAp.add (t := 125) (v := .pointer (some ((aG.add (d.toNat * 6)).add 5))) (hT.vals 5 rfl 125 rfl)
          exact ovr hAp rfl (r_load1 tU22 rfl (hAp.get rfl) (Ext.cell hT.chg fO)) fun _ => Eq.refl _
         ·intro a w hT
          have hAp := hT.ag ai [(14, .func (.func 38) #[] #[pB k 0])] ⟨rfl, trivial⟩ (by kernel_rfl)
          exact ovr hAp rfl (r_move (hAp.get rfl)) fun _ => Eq.refl _
         ·intro a w hT
          have hAp := hT.ag ai [(20, .int .i64 q)] ⟨rfl, trivial⟩ (by kernel_rfl)
          exact ovr hAp rfl (r_move (hAp.get rfl)) fun _ => Eq.refl _
         ·intro mg w1877 cS kn ko
          have kq := kn [(8, Sl.v g), (9, Sl.v j), (10, .map m), (14, .func (.func 38) #[] #[pB k 0]), (15, Sl.v l), (16, .int .i64 d), (17, .int .i64 o), (20, .int .i64 q), (54, .int .i64 (g.n : Int)), (55, .int .i64 d)] ⟨rfl, rfl, rfl, rfl, rfl, rfl, rfl, rfl, rfl, rfl, trivial⟩ (by kernel_rfl)
          obtain ⟨ah, kr, fP, ks⟩ := ko 10 rfl 130 rfl
          have ay := kq.add ks
          have mh : Chg [] aF w1877 := cS
          have kt := Ext.cell cS fO
          have ku := kj w1877 ah cS kr fP
          refine oneF (c := 11) ay rfl (by kernel_rfl) (constF ⟨fun _ _ _ h => h, fun _ _ _ h => h, fun _ _ _ h => h, fun _ _ _ h => h, fun _ _ _ h => h, fun _ _ _ h => h, fun _ _ _ h => h, fun _ _ _ h => h, fun _ _ _ h => h, trivial⟩) ⟨?_, ?_, ?_, ?_, ?_, ?_, ?_, ?_, ?_, trivial⟩ ?_
          ·intro a hT
           have hAp := hT.ag ay [(15, Sl.v l)] ⟨rfl, trivial⟩ (by kernel_rfl)
           exact opk_val hAp rfl (r_move (hAp.get rfl)) fun _ _ e => ⟨_, e, rfl, fun _ => Eq.refl _⟩
          ·intro a hT
           have hAp := hT.ag ay [(16, .int .i64 d)] ⟨rfl, trivial⟩ (by kernel_rfl)
           exact opk_val hAp rfl (r_move (hAp.get rfl)) fun _ _ e => ⟨_, e, rfl, fun _ => Eq.refl _⟩
          ·intro a hT
           have hAp := hT.ag ay [(15, Sl.v l)] ⟨rfl, trivial⟩ (by kernel_rfl)
           exact opk_val hAp rfl (r_move (hAp.get rfl)) fun _ _ e => ⟨_, e, rfl, fun _ => Eq.refl _⟩
          ·intro a hT
           have hAp := hT.ag ay [(16, .int .i64 d)] ⟨rfl, trivial⟩ (by kernel_rfl)
           exact opk_val hAp rfl (r_move (hAp.get rfl)) fun _ _ e => ⟨_, e, rfl, fun _ => Eq.refl _⟩
          ·intro a hT
           have hAp := hT.ag ay [] trivial (by kernel_rfl)
           have hAp := hAp.add (t := 122) (v := Sl.v l) (hT.vals 2 rfl 122 rfl)
           have hAp := hAp.add (t := 123) (v := .int .i64 d) (hT.vals 3 rfl 123 rfl)
           exact opk_val hAp rfl (r_indexAddr (hAp.get rfl) (hAp.get rfl) tU33 ti_43 b9.1 b9.2) fun _ _ e => ⟨_, e, rfl, fun _ => Eq.refl _⟩
          ·intro a hT
           have hAp := hT.ag ay [] trivial (by kernel_rfl)
           have hAp := hAp.add (t := 124) (v := .pointer (some (aG.add (d.toNat * 6)))) (hT.vals 4 rfl 124 rfl)
           exact opk_val hAp rfl (r_fieldAddr (hAp.get rfl) Try.underlying43 rfl ti_22 (by decide)) fun _ _ e => ⟨_, e, rfl, fun _ => Eq.refl _⟩
          ·intro a hT
           have hAp := hT.ag ay [] trivial (by kernel_rfl)
           have hAp := hAp.add (t := 125) (v := .pointer (some ((aG.add (d.toNat * 6)).add 5))) (hT.vals 5 rfl 125 rfl)
           exact opk_val hAp rfl (r_load1 tU22 rfl (hAp.get rfl) (Ext.cell hT.chg kt)) fun _ _ e => ⟨_, e, rfl, fun _ => Eq.refl _⟩
          ·intro a hT
           have hAp := hT.ag ay [(14, .func (.func 38) #[] #[pB k 0])] ⟨rfl, trivial⟩ (by kernel_rfl)
           exact opk_val hAp rfl (r_move (hAp.get rfl)) fun _ _ e => ⟨_, e, rfl, fun _ => Eq.refl _⟩
          ·intro a hT
           have hAp := hT.ag ay [(20, .int .i64 q)] ⟨rfl, trivial⟩ (by kernel_rfl)
           exact opk_val hAp rfl (r_move (hAp.get rfl)) fun _ _ e => ⟨_, e, rfl, fun _ => Eq.refl _⟩
          ·intro kv hT
           have kx := hT.ag ay [(8, Sl.v g), (9, Sl.v j), (10, .map m), (14, .func (.func 38) #[] #[pB k 0]), (15, Sl.v l), (16, .int .i64 d), (17, .int .i64 o), (20, .int .i64 q), (54, .int .i64 (g.n : Int)), (55, .int .i64 d), (130, Sl.v (Sl.mk (some ⟨ah, 0, none⟩) 1 1))] ⟨rfl, rfl, rfl, rfl, rfl, rfl, rfl, rfl, rfl, rfl, rfl, trivial⟩ (by kernel_rfl)
           have ky : kv.tmps.getD 126 undef = Sl.v bq := hT.vals 6 rfl 126 rfl
           have cT := kx.add ky
           have kz := ku fP
           refine (opk_run cT rfl (fun _ _ hr => r_append (cT.get rfl) (cT.get rfl) hr) kz fun mi mj bZ kA kB ml mm kC => ?_)
           refine ⟨_, kB, ?_⟩
           obtain ⟨a1, rfl, kD⟩ := kC
           obtain ⟨mn, kF⟩ := kD
           refine PRF_drop (X := [2, 3, 4, 5, 6, 7, 8]) (Fs' := [0, 1]) kA (by kernel_rfl) fun mo kG mp => ?_
           have cU := kG [(8, Sl.v g), (9, Sl.v j), (10, .map m), (14, .func (.func 38) #[] #[pB k 0]), (15, Sl.v l), (16, .int .i64 d), (17, .int .i64 o), (20, .int .i64 q), (54, .int .i64 (g.n : Int)), (55, .int .i64 d), (131, Sl.v a1)] ⟨rfl, rfl, rfl, rfl, rfl, rfl, rfl, rfl, rfl, rfl, rfl, trivial⟩ (by kernel_rfl)
           refine joinF cU (by kernel_rfl) ⟨fun _ _ _ _ h => h, fun _ _ _ _ h => h, trivial⟩ ⟨?_, ?_, trivial⟩ ?_
           ·intro a w hT
            have hAp := hT.ag cU [(15, Sl.v l)] ⟨rfl, trivial⟩ (by kernel_rfl)
            exact ovr hAp rfl (r_move (hAp.get rfl)) fun _ => Eq.refl _
           ·intro a w hT
            have hAp := hT.ag cU [(16, .int .i64 d)] ⟨rfl, trivial⟩ (by kernel_rfl)
            exact ovr hAp rfl (r_move (hAp.get rfl)) fun _ => Eq.refl _
           ·intro fQ br kH kI fR
            have kJ := kI [(8, Sl.v g), (9, Sl.v j), (10, .map m), (14, .func (.func 38) #[] #[pB k 0]), (15, Sl.v l), (16, .int .i64 d), (17, .int .i64 o), (20, .int .i64 q), (54, .int .i64 (g.n : Int)), (55, .int .i64 d), (131, Sl.v a1)] ⟨rfl, rfl, rfl, rfl, rfl, rfl, rfl, rfl, rfl, rfl, rfl, trivial⟩ (by kernel_rfl)
            have kK : fQ.tmps.getD 120 undef = Sl.v l := fR 0 rfl 120 rfl
            have kL := kJ.add kK
            have kM : fQ.tmps.getD 121 undef = .int .i64 d := fR 1 rfl 121 rfl
            have cX := kL.add kM
            have kN : Chg [] bZ br := kH
            have kO := kF br    kN
            obtain ⟨a2, fS, kP⟩ := kO
            refine par (D := [[], [], [], [], [2, 3], [2, 3, 4], [2, 3, 4, 5], [], [], [7, 8], [7, 8, 9], [2, 3, 4, 5, 6, 7, 8, 9, 10], [0, 1, 2, 3, 4, 5, 6, 7, 8, 9, 10, 11], [0, 1, 2, 3, 4, 5, 6, 7, 8, 9, 10, 11, 12], [0, 1, 2, 3, 4, 5, 6, 7, 8, 9, 10, 11, 12, 13]]) (S := [12, 13]) (F := []) (V := VL [(12, fun v _ => v = .pointer (some (a2.add (d.toNat * 6)))), (13, fun v _ => v = .pointer (some ((a2.add (d.toNat * 6)).add 5)))]) cX (by kernel_rfl) ⟨fun _ _ _ _ h => h, fun _ _ _ _ h => h, trivial⟩ ⟨?_, ?_, trivial⟩ ?_
            ·intro a w hT
             have hAp := hT.ag cX [(120, Sl.v l), (121, .int .i64 d)] ⟨rfl, rfl, trivial⟩ (by kernel_rfl)
             exact ovr hAp rfl (r_indexAddr (hAp.get rfl) (hAp.get rfl) tU33 ti_43 fS.1 fS.2) fun _ => Eq.refl _
            ·intro a w hT
             have hAp := hT.ag cX [] trivial (by kernel_rfl)
             have hAp := hAp.add (t := 132) (v := .pointer (some (a2.add (d.toNat * 6)))) (hT.vals 12 rfl 132 rfl)
             exact ovr hAp rfl (r_fieldAddr (hAp.get rfl) Try.underlying43 rfl ti_22 (by decide)) fun _ => Eq.refl _
            ·intro kQ bs kR kS kT
             have kU := kS [(8, Sl.v g), (9, Sl.v j), (10, .map m), (14, .func (.func 38) #[] #[pB k 0]), (15, Sl.v l), (16, .int .i64 d), (17, .int .i64 o), (20, .int .i64 q), (54, .int .i64 (g.n : Int)), (55, .int .i64 d), (131, Sl.v a1)] ⟨rfl, rfl, rfl, rfl, rfl, rfl, rfl, rfl, rfl, rfl, rfl, trivial⟩ (by kernel_rfl)
             have kV : kQ.tmps.getD 133 undef = .pointer (some ((a2.add (d.toNat * 6)).add 5)) := kT 13 rfl 133 rfl
             have cY := kU.add kV
             have kX : Chg [] br bs := kR
             have kY := kP bs    kX
             obtain ⟨bt, b0, cn, b1, kZ, fT, k0, mq, k1⟩ := kY
             refine one (D := [[], [], [], [], [2, 3], [2, 3, 4], [2, 3, 4, 5], [], [], [7, 8], [7, 8, 9], [2, 3, 4, 5, 6, 7, 8, 9, 10], [0, 1, 2, 3, 4, 5, 6, 7, 8, 9, 10, 11], [0, 1, 2, 3, 4, 5, 6, 7, 8, 9, 10, 11, 12], [0, 1, 2, 3, 4, 5, 6, 7, 8, 9, 10, 11, 12, 13]]) (i := 14) rfl (by kernel_rfl) (opk_store cY fT (r_store (vs := [Sl.v a1]) (((cY.get rfl)).trans (congrArg (fun a => Value.pointer (some a)) kZ)) (cY.get rfl) rfl ti_22 fT (Nat.ble_eq_true_of_le k0) (ones_all _ rfl)) fun mr aO k2 k3 k4 => ?_)
             have k5 := k1 aO k2 k3
             refine PR_end (by kernel_rfl) ?_
             have fU := k4.kp [(8, Sl.v g), (9, Sl.v j), (10, .map m), (14, .func (.func 38) #[] #[pB k 0]), (15, Sl.v l), (16, .int .i64 d), (17, .int .i64 o), (20, .int .i64 q), (54, .int .i64 (g.n : Int)), (55, .int .i64 d)] rfl
             refine block_normal ?_
             refine then_normal (wp_region_lit ?_)
             refine sqv fU rfl (r_move (fU.get rfl)) fun _ fV => sqv fV rfl (r_move (fV.get rfl)) fun _ fX => sqv fX rfl (r_move (fX.get rfl)) fun _ cZ => ?_
             obtain ⟨k6, co, k7, k8⟩ := k5
             refine sqv cZ rfl (r_indexAddr (cZ.get rfl) (cZ.get rfl) tU79 ti_86 k6 k7) fun _ fY => sqv fY rfl (r_fieldAddr (fY.get rfl) Try.underlying86 rfl ti_3 (by decide)) fun _ fZ => ?_
             obtain ⟨aP, k9, la⟩ := k8
             refine sqv fZ rfl (r_load1 tU3 rfl (fZ.get rfl) k9) fun _ c0 => ?_
             obtain ⟨lb, f0⟩ := la
             refine sqv c0 rfl (r_addI (c0.get rfl) (c0.get rfl) lb) fun _ f1 => sqv f1 rfl (r_assign (f1.get rfl)) fun _ lc => sq_end ?_
             have ld := lc.kp [(8, Sl.v g), (9, Sl.v j), (10, .map m), (14, .func (.func 38) #[] #[pB k 0]), (15, Sl.v l), (16, .int .i64 d), (17, .int .i64 o), (20, .int .i64 (q + aP)), (54, .int .i64 (g.n : Int)), (55, .int .i64 d)] rfl
             have lf := ld.kp [(8, Sl.v g), (9, Sl.v j), (10, .map m), (14, .func (.func 38) #[] #[pB k 0]), (15, Sl.v l), (16, .int .i64 d), (17, .int .i64 o), (20, .int .i64 (q + aP)), (54, .int .i64 (g.n : Int)), (55, .int .i64 d)] rfl
             exact then_normal ⟨(q + aP, aO), ⟨lf, rfl, f0.1⟩, f0.2⟩
        ·have lg := fN.2 (of_decide_eq_false hc)
         clear hc
         refine wp_exit ?_
         refine then_exit ?_
         refine then_exit ?_
         refine block_hit ?_
         have f2 := ai.kp [(8, Sl.v g), (9, Sl.v j), (10, .map m), (14, .func (.func 38) #[] #[pB k 0]), (15, Sl.v l), (54, .int .i64 (g.n : Int)), (55, .int .i64 d)] rfl
         refine block_normal ?_
         refine then_normal (wp_region_lit ?_)
         obtain ⟨lh, f3⟩ := lg
         refine sqv f2 rfl (r_addI (f2.get rfl) rfl lh) fun _ f4 => sqv f4 rfl (r_move (f4.get rfl)) fun _ li => sq_end ?_
         have lj := li.kp [(8, Sl.v g), (9, Sl.v j), (10, .map m), (14, .func (.func 38) #[] #[pB k 0]), (15, Sl.v l), (54, .int .i64 (g.n : Int)), (55, .int .i64 (d + 1))] rfl
         have lk := lj.kp [(8, Sl.v g), (9, Sl.v j), (10, .map m), (14, .func (.func 38) #[] #[pB k 0]), (15, Sl.v l), (54, .int .i64 (g.n : Int)), (55, .int .i64 (d + 1))] rfl
         exact then_normal ⟨(d + 1, aD), ⟨lk, rfl, f3.1⟩, f3.2⟩
    ·have ll := dT.2 (of_decide_eq_false hc)
     clear hc
     refine wp_exit ?_
     refine then_exit ?_
     refine then_exit ?_
     refine block_hit ?_
     have f5 := b7.kp [(15, Sl.v l)] rfl
     refine then_normal (wp_seq (wp_region_lit ?_))
     refine sqv f5 rfl (r_move (f5.get rfl)) fun _ f6 => sqv f6 rfl (r_assign (f6.get rfl)) fun _ lm => sqv lm rfl (r_assign rfl) fun _ ln => sq_end ?_
     have c1 := ln.kp [(6, Sl.v l), (7, .int .i64 0)] rfl
     refine then_normal ?_
     refine wp_ret ?_
     exact res_all (vs := [Sl.v l, .int .i64 0]) rfl c1 ⟨res_of_tmp c1 rfl, res_of_tmp c1 rfl, trivial⟩ ll
def slots_Touched.vc (u : Int) (x : Str) (y : Str) (z : Sl) (aa : Sl) (l : Sl) (f : Int) (R : Value → World → Prop) (w : World) : Prop :=
∀ (w5 : World) (aj : Nat), New w aj w5 → Chg [] w w5 →
CallK Try.prog 37 #[.agg #[.int .i64 u, .string (Bs x), .string (Bs y), Sl.v z, Sl.v aa]] w5 [aj] (fun v ab => ∃ (k : Sl), v = Sl.v k ∧
∃ ap : Addr, (((((¬ (f < 0)) ∧ (¬ ((k.n : Int) ≤ f))) ∧ (¬ ((l.n : Int) ≤ f)))) → ((0 : Int) ≤ f ∧ f < (l.n : Int)) ∧  l.a = some ap) ∧
∃ (al : Bool), (((((¬ (f < 0)) ∧ (¬ ((k.n : Int) ≤ f))) ∧ (¬ ((l.n : Int) ≤ f)))) → ab.cell? ((ap.add (f.toNat * 6)).add 0) = some (.bool al)) ∧
(((((f < 0) ∨ ((k.n : Int) ≤ f)) ∨ ((l.n : Int) ≤ f)) ∨ (al = true)) →
R (.bool false) ab) ∧
(((((¬ (f < 0)) ∧ (¬ ((k.n : Int) ≤ f))) ∧ (¬ ((l.n : Int) ≤ f))) ∧ (al = false)) →
((0 : Int) ≤ f ∧ f < (l.n : Int)) ∧ ∃ aq : Addr, l.a = some aq ∧
∃ (an : Bool) (b : Bool) (c : Sl) (d : Sl) (p : Int) (ad : Sl), (Cells ab (aq.add (f.toNat * 6)) [.bool an, .bool b, Sl.v c, Sl.v d, .int .i64 p, Sl.v ad]) ∧
∀ (r : World) (m : Nat), New ab m r → Chg [] ab r →
∃ ah : Sl → World → Prop, (∀ o : Sl, ∀ w' w'' : World, Ext w' w'' → ah o w' → ah o w'') ∧
(((((b = false) ∧ (¬ (0 < (c.n : Int)))) ∧ (¬ (0 < (d.n : Int))))) → ∀ w' : World, Ext r w' → Calls Try.prog 41 #[Sl.v k, .int .i64 f] w' (Ret fun v w'' => Ext w' w'' ∧ ∃ o : Sl, v = Sl.v o ∧ ah o w'')) ∧
∃ (i : Bool), (((((b = false) ∧ (¬ (0 < (c.n : Int)))) ∧ (¬ (0 < (d.n : Int))))) → ∀ o : Sl, ∀ w' : World, Ext r w' → (((((b = false) ∧ (¬ (0 < (c.n : Int)))) ∧ (¬ (0 < (d.n : Int))))) → ah o w') → Calls Try.prog 40 #[Sl.v ad, Sl.v o] w' (Ret fun v w'' => Ext w' w'' ∧ v = .bool i)) ∧
∃ ai : Addr, ((((((b = false) ∧ (¬ (0 < (c.n : Int)))) ∧ (¬ (0 < (d.n : Int)))) ∧ (i = true))) → ((0 : Int) ≤ f ∧ f < (k.n : Int)) ∧ k.a = some ai) ∧
∃ (q : Int), ((((((b = false) ∧ (¬ (0 < (c.n : Int)))) ∧ (¬ (0 < (d.n : Int)))) ∧ (i = true))) → r.cell? ((ai.add (f.toNat * 10)).add 0) = some (.int .i64 q)) ∧
∀ (am : World), Chg [] r am →
R (.bool ((((b || (decide (0 < (c.n : Int)))) || (decide (0 < (d.n : Int)))) || (!i)) || (decide (p ≠ q)))) am))
theorem slots_Touched.ok (u : Int) (x : Str) (y : Str) (z : Sl) (aa : Sl) (l : Sl) (f : Int) {R : Value → World → Prop} {w : World} (aD : slots_Touched.vc u x y z aa l f R w) : Calls Try.prog 16 #[.agg #[.int .i64 u, .string (Bs x), .string (Bs y), Sl.v z, Sl.v aa], Sl.v l, .int .i64 f] w (Ret R) := by
 refine enter [.agg #[.int .i64 u, .string (Bs x), .string (Bs y), Sl.v z, Sl.v aa], Sl.v l, .int .i64 f] Try.func16 rfl Try.ntmps16 rfl ?_
 intro a0 aF
 unfold slots_Touched.vc at aD
 refine wp_seq (wp_region_lit ?_)
 refine sq (opk_new (fun B => .pointer (some ⟨B, 0, none⟩)) aF rfl (r_box (cs := [.int .i64 u, .string (Bs x), .string (Bs y), Sl.v z, Sl.v aa]) (aF.get rfl) rfl) fun a6 w5 aj bd bf aG bg _ => ?_)
 have bh : New w aj w5 := bf
 have bi : Chg [] w w5 := bd
 refine sqv bg rfl (r_assign rfl) fun _ bj => sq_end ?_
 have aH := bj.kp [(1, Sl.v l), (2, .int .i64 f), (3, pB aj 0)] rfl
 refine then_normal (wp_seq (wp_region_lit ?_))
 refine sqv aH rfl (r_loadN (cs := [.int .i64 u, .string (Bs x), .string (Bs y), Sl.v z, Sl.v aa]) Try.underlying26 rfl ti_26 (aH.get rfl) (aG.part 0 _ rfl)) fun _ aI => ?_
 have bk := aD w5 aj bh  bi
 refine sq (opk_call aI rfl (r_call (args := #[.agg #[.int .i64 u, .string (Bs x), .string (Bs y), Sl.v z, Sl.v aa]]) Try.func37 (by decide) rfl (map_arr (ml_cons (aI.get rfl) ml_nil)) rfl) bk fun cd cf ab aJ _ bl cg bm => ?_)
 obtain ⟨k, rfl, bn⟩ := bm
 have ch := aG.kept bl (.head _)
 refine sqv aJ rfl (r_assign (aJ.get rfl)) fun _ bo => sq_end ?_
 have aK := bo.kp [(1, Sl.v l), (2, .int .i64 f), (7, Sl.v k)] rfl
 refine then_normal (wp_seq (wp_seq (wp_region_lit ?_)))
 refine sqv aK rfl (r_move (aK.get rfl)) fun _ aL => sqv aL rfl (r_lss (aL.get rfl) rfl) fun _ aM => sqv aM rfl (r_move (aM.get rfl)) fun _ aN => ?_
 refine sq (opk_gval aN rfl rfl (g := true) (e := (decide (f < 0))) rfl (fun hg => r_move (aN.get rfl)) fun ci aO _ => ?_)
 refine sq (opk_gval aO rfl rfl (g := true) (e := (decide (f < 0))) rfl (fun hg => r_move (aO.get rfl)) fun cj aP _ => ?_)
 refine sq (opk_gval aP rfl rfl (g := true) (e := (decide (f < 0))) rfl (fun hg => r_len (cv_get (aP.get rfl) hg) tU79) fun ck ar _ => ?_)
 refine sq (opk_gval ar rfl rfl (g := true) (e := (decide (f < 0))) rfl (fun hg => r_geq (cv_get (ar.get rfl) hg) (cv_get (ar.get rfl) hg)) fun cl au _ => ?_)
 refine sqv au rfl (r_pick_or (g := (true && ((decide (f < 0)) == false))) (au.get rfl) (au.get rfl) (fun he => g_mkf rfl he)) fun _ aQ => sqv aQ rfl (r_move (aQ.get rfl)) fun _ aR => ?_
 refine sq (opk_gval aR rfl rfl (g := true) (e := ((decide (f < 0)) || (decide ((k.n : Int) ≤ f)))) rfl (fun hg => r_move (aR.get rfl)) fun cm aS _ => ?_)
 refine sq (opk_gval aS rfl rfl (g := true) (e := ((decide (f < 0)) || (decide ((k.n : Int) ≤ f)))) rfl (fun hg => r_move (aS.get rfl)) fun cn aT _ => ?_)
 refine sq (opk_gval aT rfl rfl (g := true) (e := ((decide (f < 0)) || (decide ((k.n : Int) ≤ f)))) rfl (fun hg => r_len (cv_get (aT.get rfl) hg) tU33) fun co av _ => ?_)
 refine sq (opk_gval av rfl rfl (g := true) (e := ((decide (f < 0)) || (decide ((k.n : Int) ≤ f)))) rfl (fun hg => r_geq (cv_get (av.get rfl) hg) (cv_get (av.get rfl) hg)) fun cp ax _ => ?_)
 refine sqv ax rfl (r_pick_or (g := (true && (((decide (f < 0)) || (decide ((k.n : Int) ≤ f))) == false))) (ax.get rfl) (ax.get rfl) (fun he => g_mkf rfl he)) fun _ aU => sqv aU rfl (r_move (aU.get rfl)) fun _ aV => ?_
 refine sq (opk_gval aV rfl rfl (g := true) (e := (((decide (f < 0)) || (decide ((k.n : Int) ≤ f))) || (decide ((l.n : Int) ≤ f)))) rfl (fun hg => r_move (aV.get rfl)) fun cq aX _ => ?_)
 refine sq (opk_gval aX rfl rfl (g := true) (e := (((decide (f < 0)) || (decide ((k.n : Int) ≤ f))) || (decide ((l.n : Int) ≤ f)))) rfl (fun hg => r_move (aX.get rfl)) fun cr ay _ => ?_)
 obtain ⟨ap, aY, bp⟩ := bn
 refine sq (opk_gval ay rfl rfl (g := true) (e := (((decide (f < 0)) || (decide ((k.n : Int) ≤ f))) || (decide ((l.n : Int) ≤ f)))) rfl (fun hg => r_indexAddr (cv_get (ay.get rfl) hg) (cv_get (ay.get rfl) hg) tU33 ti_43 (aY ⟨⟨(of_decide_eq_false (b_or_f (b_or_f (g_f hg)).1).1), (of_decide_eq_false (b_or_f (b_or_f (g_f hg)).1).2)⟩, (of_decide_eq_false (b_or_f (g_f hg)).2)⟩).1 (aY ⟨⟨(of_decide_eq_false (b_or_f (b_or_f (g_f hg)).1).1), (of_decide_eq_false (b_or_f (b_or_f (g_f hg)).1).2)⟩, (of_decide_eq_false (b_or_f (g_f hg)).2)⟩).2) fun ct aZ _ => ?_)
 refine sq (opk_gval aZ rfl rfl (g := true) (e := (((decide (f < 0)) || (decide ((k.n : Int) ≤ f))) || (decide ((l.n : Int) ≤ f)))) rfl (fun hg => r_fieldAddr (cv_get (aZ.get rfl) hg) Try.underlying43 rfl ti_4 (by decide)) fun cu hA49 _ => ?_)
 obtain ⟨al, bq, a1⟩ := bp
 refine sq (opk_gval hA49 rfl rfl (g := true) (e := (((decide (f < 0)) || (decide ((k.n : Int) ≤ f))) || (decide ((l.n : Int) ≤ f)))) rfl (fun hg => r_load1 tU4 rfl (cv_get (hA49.get rfl) hg) (bq ⟨⟨(of_decide_eq_false (b_or_f (b_or_f (g_f hg)).1).1), (of_decide_eq_false (b_or_f (b_or_f (g_f hg)).1).2)⟩, (of_decide_eq_false (b_or_f (g_f hg)).2)⟩)) fun cv az _ => ?_)
 refine sqv az rfl (r_pick_or (g := (true && ((((decide (f < 0)) || (decide ((k.n : Int) ≤ f))) || (decide ((l.n : Int) ≤ f))) == false))) (az.get rfl) (az.get rfl) (fun he => g_mkf rfl he)) fun _ br => sq_end ?_
 have ao := br.kp [(1, Sl.v l), (2, .int .i64 f), (7, Sl.v k), (31, .bool ((((decide (f < 0)) || (decide ((k.n : Int) ≤ f))) || (decide ((l.n : Int) ≤ f))) || al))] rfl
 refine then_normal ?_
 refine wp_cond_split (ao.get rfl) (fun hc => ?_) (fun hc => ?_)
 ·have bs := a1.1 ((b_or_t hc).imp (fun h => ((b_or_t h).imp (fun h => ((b_or_t h).imp (fun h => (of_decide_eq_true h)) (fun h => (of_decide_eq_true h)))) (fun h => (of_decide_eq_true h)))) (fun h => h))
  clear hc
  refine wp_seq (wp_region_lit ?_)
  refine sqv ao rfl (r_assign rfl) fun _ bt => sq_end ?_
  have a2 := bt.kp [(6, .bool false)] rfl
  refine then_normal ?_
  refine wp_ret ?_
  refine then_ret ?_
  exact res_all (vs := [.bool false]) rfl a2 ⟨res_of_tmp a2 rfl, trivial⟩ bs
 ·have bu := a1.2 ⟨⟨⟨(of_decide_eq_false (b_or_f (b_or_f (b_or_f hc).1).1).1), (of_decide_eq_false (b_or_f (b_or_f (b_or_f hc).1).1).2)⟩, (of_decide_eq_false (b_or_f (b_or_f hc).1).2)⟩, (b_or_f hc).2⟩
  clear hc
  refine wp_skip ?_
  refine then_normal (wp_seq (wp_region_lit ?_))
  refine sqv ao rfl (r_move (ao.get rfl)) fun _ a3 => sqv a3 rfl (r_move (a3.get rfl)) fun _ aA => ?_
  obtain ⟨bv, aq, bx, bz⟩ := bu
  refine sqv aA rfl (r_indexAddr (aA.get rfl) (aA.get rfl) tU33 ti_43 bv bx) fun _ a4 => ?_
  obtain ⟨an, b, c, d, p, ad, bA, bB⟩ := bz
  refine sqv a4 rfl (r_loadN Try.underlying43 rfl ti_43 (a4.get rfl) bA) fun _ bC => ?_
  refine sq (opk_new (fun B => .pointer (some ⟨B, 0, none⟩)) bC rfl (r_alloc (cs := [.bool false, .bool false, Sl.v Sl.nil, Sl.v Sl.nil, .int .i64 0, Sl.v Sl.nil]) ti_43 rfl) fun cx a5 m bD bF hB76 aB _ => ?_)
  have a7 : New ab m a5 := bF
  have bG : Chg [] ab a5 := bD
  refine sq (opk_store aB hB76 (r_store (vs := [.bool an, .bool b, Sl.v c, Sl.v d, .int .i64 p, Sl.v ad]) (aB.get rfl) (aB.get rfl) rfl ti_43 hB76 rfl (ones_all _ rfl)) fun cy bH a8 bI bJ => ?_)
  have bK : Box bH m 43 [.bool an, .bool b, Sl.v c, Sl.v d, .int .i64 p, Sl.v ad] := bI
  have bL := bG.storeNew a7 a8
  have bM := a7.up a8.size
  refine sq_end ?_
  have j := bJ.kp [(2, .int .i64 f), (7, Sl.v k), (8, pB m 0)] rfl
  refine then_normal (wp_seq ?_)
  refine draw' (by kernel_rfl) fun r aC => ?_
  have ak := bK.ext aC
  have bN := bL.more aC
  have bO := bM.up aC.size
  have bP := bB r m bO  bN
  obtain ⟨ah, bQ, bR, bS⟩ := bP
  obtain ⟨i, bT, bU⟩ := bS
  obtain ⟨ai, a9, bV⟩ := bU
  obtain ⟨q, bX, bY⟩ := bV
  refine par (D := [[], [0], [0, 1], [0, 1, 2], [0, 1, 2, 3], [0, 1, 2, 3, 4], [0, 1, 2, 3, 4, 5], [0, 1, 2, 3, 4, 5, 6], [0, 1, 2, 3, 4, 5, 6, 7], [0, 1, 2, 3, 4, 5, 6, 7, 8], [0, 1, 2, 3, 4, 5, 6, 7, 8, 9], [0, 1, 2, 3, 4, 5, 6, 7, 8, 9, 10], [0, 1, 2, 3, 4, 5, 6, 7, 8, 9, 10, 11], [0, 1, 2, 3, 4, 5, 6, 7, 8, 9, 10, 11, 12], [0, 1, 2, 3, 4, 5, 6, 7, 8, 9, 10, 11, 12, 13], [0, 1, 2, 3, 4, 5, 6, 7, 8, 9, 10, 11, 12, 13, 14], [0, 1, 2, 3, 4, 5, 6, 7, 8, 9, 10, 11, 12, 13, 14, 15], [0, 1, 2, 3, 4, 5, 6, 7, 8, 9, 10, 11, 12, 13, 14], [0, 1, 2, 3, 4, 5, 6, 7, 8, 9, 10, 11, 12, 13, 14], [0, 1, 2, 3, 4, 5, 6, 7, 8, 9, 10, 11, 12, 13, 14, 17, 18], [0, 1, 2, 3, 4, 5, 6, 7, 8, 9, 10, 11, 12, 13, 14, 15, 16, 17, 18, 19], [0, 1, 2, 3, 4, 5, 6, 7, 8, 9, 10, 11, 12, 13, 14, 15, 16, 17, 18, 19, 20], [0, 1, 2, 3, 4, 5, 6, 7, 8, 9, 10, 11, 12, 13, 14, 15, 16, 17, 18, 19, 20, 21], [0, 1, 2, 3, 4, 5, 6, 7, 8, 9, 10, 11, 12, 13, 14, 15, 16, 17, 18, 19, 20, 21, 22], [0, 1, 2, 3, 4, 5, 6, 7, 8, 9, 10, 11, 12, 13, 14, 15, 16, 17, 18, 19, 20, 21, 22, 23], [0, 1, 2, 3, 4, 5, 6, 7, 8, 9, 10, 11, 12, 13, 14, 15, 16, 17, 18, 19, 20, 21, 22, 23, 24], [0, 1, 2, 3, 4, 5, 6, 7, 8, 9, 10, 11, 12, 13, 14, 15, 16, 17, 18, 19, 20, 21, 22, 23], [0, 1, 2, 3, 4, 5, 6, 7, 8, 9, 10, 11, 12, 13, 14, 15, 16, 17, 18, 19, 20, 21, 22, 23], [0, 1, 2, 3, 4, 5, 6, 7, 8, 9, 10, 11, 12, 13, 14, 15, 16, 17, 18, 19, 20, 21, 22, 23, 26, 27], [0, 1, 2, 3, 4, 5, 6, 7, 8, 9, 10, 11, 12, 13, 14, 15, 16, 17, 18, 19, 20, 21, 22, 23, 26, 27, 28], [0, 1, 2, 3, 4, 5, 6, 7, 8, 9, 10, 11, 12, 13, 14, 15, 16, 17, 18, 19, 20, 21, 22, 23, 26, 27, 28, 29], [0, 1, 2, 3, 4, 5, 6, 7, 8, 9, 10, 11, 12, 13, 14, 15, 16, 17, 18, 19, 20, 21, 22, 23, 24, 25, 26, 27, 28, 29, 30], [0, 1, 2, 3, 4, 5, 6, 7, 8, 9, 10, 11, 12, 13, 14, 15, 16, 17, 18, 19, 20, 21, 22, 23, 24, 25, 26, 27, 28, 29, 30, 31], [0, 1, 2, 3, 4, 5, 6, 7, 8, 9, 10, 11, 12, 13, 14, 15, 16, 17, 18, 19, 20, 21, 22, 23, 24, 25, 26, 27, 28, 29, 30, 31, 32]]) (S := [0, 1, 2, 3, 4, 5, 6, 7, 8, 9, 10, 11, 12, 13, 14, 15, 16, 17, 18, 19, 20, 21, 22, 23, 24, 25, 26, 27, 28, 29, 30, 31, 32, 33]) (F := []) (V := VL [(0, fun v _ => v = pB m 1), (1, fun v _ => v = .bool b), (2, fun v _ => v = .bool b), (3, fun v _ => v = cV (true && (b == false)) (pB m 2)), (4, fun v _ => v = cV (true && (b == false)) (Sl.v c)), (5, fun v _ => v = cV (true && (b == false)) (.int .i64 (c.n : Int))), (6, fun v _ => v = cV (true && (b == false)) (.bool (decide (0 < (c.n : Int))))), (7, fun v _ => v = .bool (b || (decide (0 < (c.n : Int))))), (8, fun v _ => v = .bool (b || (decide (0 < (c.n : Int))))), (9, fun v _ => v = cV (true && ((b || (decide (0 < (c.n : Int)))) == false)) (pB m 3)), (10, fun v _ => v = cV (true && ((b || (decide (0 < (c.n : Int)))) == false)) (Sl.v d)), (11, fun v _ => v = cV (true && ((b || (decide (0 < (c.n : Int)))) == false)) (.int .i64 (d.n : Int))), (12, fun v _ => v = cV (true && ((b || (decide (0 < (c.n : Int)))) == false)) (.bool (decide (0 < (d.n : Int))))), (13, fun v _ => v = .bool ((b || (decide (0 < (c.n : Int)))) || (decide (0 < (d.n : Int))))), (14, fun v _ => v = .bool ((b || (decide (0 < (c.n : Int)))) || (decide (0 < (d.n : Int))))), (15, fun v _ => v = cV (true && (((b || (decide (0 < (c.n : Int)))) || (decide (0 < (d.n : Int)))) == false)) (pB m 5)), (16, fun v _ => v = cV (true && (((b || (decide (0 < (c.n : Int)))) || (decide (0 < (d.n : Int)))) == false)) (Sl.v ad)), (17, fun v _ => v = cV (true && (((b || (decide (0 < (c.n : Int)))) || (decide (0 < (d.n : Int)))) == false)) (Sl.v k)), (18, fun v _ => v = cV (true && (((b || (decide (0 < (c.n : Int)))) || (decide (0 < (d.n : Int)))) == false)) (.int .i64 f)), (19, fun v w' => ∃ o : Sl, (((((b = false) ∧ (¬ (0 < (c.n : Int)))) ∧ (¬ (0 < (d.n : Int))))) → ah o w') ∧ v = cV (true && (((b || (decide (0 < (c.n : Int)))) || (decide (0 < (d.n : Int)))) == false)) (Sl.v o)), (20, fun v _ => v = cV (true && (((b || (decide (0 < (c.n : Int)))) || (decide (0 < (d.n : Int)))) == false)) (.bool i)), (21, fun v _ => v = cV (true && (((b || (decide (0 < (c.n : Int)))) || (decide (0 < (d.n : Int)))) == false)) (.bool (!i))), (22, fun v _ => v = .bool (((b || (decide (0 < (c.n : Int)))) || (decide (0 < (d.n : Int)))) || (!i))), (23, fun v _ => v = .bool (((b || (decide (0 < (c.n : Int)))) || (decide (0 < (d.n : Int)))) || (!i))), (24, fun v _ => v = cV (true && ((((b || (decide (0 < (c.n : Int)))) || (decide (0 < (d.n : Int)))) || (!i)) == false)) (pB m 4)), (25, fun v _ => v = cV (true && ((((b || (decide (0 < (c.n : Int)))) || (decide (0 < (d.n : Int)))) || (!i)) == false)) (.int .i64 p)), (26, fun v _ => v = cV (true && ((((b || (decide (0 < (c.n : Int)))) || (decide (0 < (d.n : Int)))) || (!i)) == false)) (Sl.v k)), (27, fun v _ => v = cV (true && ((((b || (decide (0 < (c.n : Int)))) || (decide (0 < (d.n : Int)))) || (!i)) == false)) (.int .i64 f)), (28, fun v _ => v = cV (true && ((((b || (decide (0 < (c.n : Int)))) || (decide (0 < (d.n : Int)))) || (!i)) == false)) (.pointer (some (ai.add (f.toNat * 10))))), (29, fun v _ => v = cV (true && ((((b || (decide (0 < (c.n : Int)))) || (decide (0 < (d.n : Int)))) || (!i)) == false)) (.pointer (some ((ai.add (f.toNat * 10)).add 0)))), (30, fun v _ => v = cV (true && ((((b || (decide (0 < (c.n : Int)))) || (decide (0 < (d.n : Int)))) || (!i)) == false)) (.int .i64 q)), (31, fun v _ => v = cV (true && ((((b || (decide (0 < (c.n : Int)))) || (decide (0 < (d.n : Int)))) || (!i)) == false)) (.bool (decide (p ≠ q)))), (32, fun v _ => v = .bool ((((b || (decide (0 < (c.n : Int)))) || (decide (0 < (d.n : Int)))) || (!i)) || (decide (p ≠ q)))), (33, fun v _ => v = .bool ((((b || (decide (0 < (c.n : Int)))) || (decide (0 < (d.n : Int)))) || (!i)) || (decide (p ≠ q))))]) j (by kernel_rfl) ⟨fun _ _ _ _ h => by first | exact h | (change _ = _ at h; change _ = _; exact h), fun _ _ _ _ h => by first | exact h | (change _ = _ at h; change _ = _; exact h), fun _ _ _ _ h => by first | exact h | (change _ = _ at h; change _ = _; exact h), fun _ _ _ _ h => by first | exact h | (change _ = _ at h; change _ = _; exact h), fun _ _ _ _ h => by first | exact h | (change _ = _ at h; change _ = _; exact h), fun _ _ _ _ h => by first | exact h | (change _ = _ at h; change _ = _; exact h), fun _ _ _ _ h => by first | exact h | (change _ = _ at h; change _ = _; exact h), fun _ _ _ _ h => by first | exact h | (change _ = _ at h; change _ = _; exact h), fun _ _ _ _ h => by first | exact h | (change _ = _ at h; change _ = _; exact h), fun _ _ _ _ h => by first | exact h | (change _ = _ at h; change _ = _; exact h), fun _ _ _ _ h => by first | exact h | (change _ = _ at h; change _ = _; exact h), fun _ _ _ _ h => by first | exact h | (change _ = _ at h; change _ = _; exact h), fun _ _ _ _ h => by first | exact h | (change _ = _ at h; change _ = _; exact h), fun _ _ _ _ h => by first | exact h | (change _ = _ at h; change _ = _; exact h), fun _ _ _ _ h => by first | exact h | (change _ = _ at h; change _ = _; exact h), fun _ _ _ _ h => by first | exact h | (change _ = _ at h; change _ = _; exact h), fun _ _ _ _ h => by first | exact h | (change _ = _ at h; change _ = _; exact h), fun _ _ _ _ h => by first | exact h | (change _ = _ at h; change _ = _; exact h), fun _ _ _ _ h => by first | exact h | (change _ = _ at h; change _ = _; exact h), fun _ _ _ hE ⟨o, h0_, e⟩ => ⟨o, (fun hp => bQ o _ _ hE (h0_ hp)), e⟩, fun _ _ _ _ h => by first | exact h | (change _ = _ at h; change _ = _; exact h), fun _ _ _ _ h => by first | exact h | (change _ = _ at h; change _ = _; exact h), fun _ _ _ _ h => by first | exact h | (change _ = _ at h; change _ = _; exact h), fun _ _ _ _ h => by first | exact h | (change _ = _ at h; change _ = _; exact h), fun _ _ _ _ h => by first | exact h | (change _ = _ at h; change _ = _; exact h), fun _ _ _ _ h => by first | exact h | (change _ = _ at h; change _ = _; exact h), fun _ _ _ _ h => by first | exact h | (change _ = _ at h; change _ = _; exact h), fun _ _ _ _ h => by first | exact h | (change _ = _ at h; change _ = _; exact h), fun _ _ _ _ h => by first | exact h | (change _ = _ at h; change _ = _; exact h), fun _ _ _ _ h => by first | exact h | (change _ = _ at h; change _ = _; exact h), fun _ _ _ _ h => by first | exact h | (change _ = _ at h; change _ = _; exact h), fun _ _ _ _ h => by first | exact h | (change _ = _ at h; change _ = _; exact h), fun _ _ _ _ h => by first | exact h | (change _ = _ at h; change _ = _; exact h), fun _ _ _ _ h => by first | exact h | (change _ = _ at h; change _ = _; exact h), trivial⟩ ⟨?_, ?_, ?_, ?_, ?_, ?_, ?_, ?_, ?_, ?_, ?_, ?_, ?_, ?_, ?_, ?_, ?_, ?_, ?_, ?_, ?_, ?_, ?_, ?_, ?_, ?_, ?_, ?_, ?_, ?_, ?_, ?_, ?_, ?_, trivial⟩ ?_
  ·intro a w hT
   have hAp := hT.ag j [(8, pB m 0)] ⟨rfl, trivial⟩ (by kernel_rfl)
   exact ovr hAp rfl (r_fieldAddr (hAp.get rfl) Try.underlying43 rfl ti_4 (by decide)) fun _ => Eq.refl _
  ·intro a w hT
   have hAp := hT.ag j [] trivial (by kernel_rfl)
   have hAp := hAp.add (t := 36) (v := pB m 1) (hT.vals 0 rfl 36 rfl)
   exact ovr hAp rfl (r_load1 tU4 rfl (hAp.get rfl) ((ak.ext hT.chg).cell 1 _ rfl)) fun _ => Eq.refl _
  ·intro a w hT
   have hAp := hT.ag j [] trivial (by kernel_rfl)
   have hAp := hAp.add (t := 37) (v := .bool b) (hT.vals 1 rfl 37 rfl)
   exact ovr hAp rfl (r_move (hAp.get rfl)) fun _ => Eq.refl _
  ·intro a w hT
   have hAp := hT.ag j [(8, pB m 0)] ⟨rfl, trivial⟩ (by kernel_rfl)
   have hAp := hAp.add (t := 38) (v := .bool b) (hT.vals 2 rfl 38 rfl)
   exact opk_gval hAp rfl rfl (g := true) (e := b) rfl (fun hg => r_fieldAddr (hAp.get rfl) Try.underlying43 rfl ti_23 (by decide)) fun _ _ e => ⟨_, e, Chg.refl _ _, fun _ => Eq.refl _⟩
  ·intro a w hT
   have hAp := hT.ag j [] trivial (by kernel_rfl)
   have hAp := hAp.add (t := 38) (v := .bool b) (hT.vals 2 rfl 38 rfl)
   have hAp := hAp.add (t := 39) (v := cV (true && (b == false)) (pB m 2)) (hT.vals 3 rfl 39 rfl)
   exact opk_gval hAp rfl rfl (g := true) (e := b) rfl (fun hg => r_load1 tU23 rfl (cv_get (hAp.get rfl) hg) ((ak.ext hT.chg).cell 2 _ rfl)) fun _ _ e => ⟨_, e, Chg.refl _ _, fun _ => Eq.refl _⟩
  ·intro a w hT
   have hAp := hT.ag j [] trivial (by kernel_rfl)
   have hAp := hAp.add (t := 38) (v := .bool b) (hT.vals 2 rfl 38 rfl)
   have hAp := hAp.add (t := 40) (v := cV (true && (b == false)) (Sl.v c)) (hT.vals 4 rfl 40 rfl)
   exact opk_gval hAp rfl rfl (g := true) (e := b) rfl (fun hg => r_len (cv_get (hAp.get rfl) hg) tU23) fun _ _ e => ⟨_, e, Chg.refl _ _, fun _ => Eq.refl _⟩
  ·intro a w hT
   have hAp := hT.ag j [] trivial (by kernel_rfl)
   have hAp := hAp.add (t := 38) (v := .bool b) (hT.vals 2 rfl 38 rfl)
   have hAp := hAp.add (t := 41) (v := cV (true && (b == false)) (.int .i64 (c.n : Int))) (hT.vals 5 rfl 41 rfl)
   exact opk_gval hAp rfl rfl (g := true) (e := b) rfl (fun hg => r_gtr (cv_get (hAp.get rfl) hg) rfl) fun _ _ e => ⟨_, e, Chg.refl _ _, fun _ => Eq.refl _⟩
  ·intro a w hT
   have hAp := hT.ag j [] trivial (by kernel_rfl)
   have hAp := hAp.add (t := 38) (v := .bool b) (hT.vals 2 rfl 38 rfl)
   have hAp := hAp.add (t := 42) (v := cV (true && (b == false)) (.bool (decide (0 < (c.n : Int))))) (hT.vals 6 rfl 42 rfl)
   exact ovr hAp rfl (r_pick_or (g := (true && (b == false))) (hAp.get rfl) (hAp.get rfl) (fun he => g_mkf rfl he)) fun _ => Eq.refl _
  ·intro a w hT
   have hAp := hT.ag j [] trivial (by kernel_rfl)
   have hAp := hAp.add (t := 43) (v := .bool (b || (decide (0 < (c.n : Int))))) (hT.vals 7 rfl 43 rfl)
   exact ovr hAp rfl (r_move (hAp.get rfl)) fun _ => Eq.refl _
  ·intro a w hT
   have hAp := hT.ag j [(8, pB m 0)] ⟨rfl, trivial⟩ (by kernel_rfl)
   have hAp := hAp.add (t := 44) (v := .bool (b || (decide (0 < (c.n : Int))))) (hT.vals 8 rfl 44 rfl)
   exact opk_gval hAp rfl rfl (g := true) (e := (b || (decide (0 < (c.n : Int))))) rfl (fun hg => r_fieldAddr (hAp.get rfl) Try.underlying43 rfl ti_41 (by decide)) fun _ _ e => ⟨_, e, Chg.refl _ _, fun _ => Eq.refl _⟩
  ·intro a w hT
   have hAp := hT.ag j [] trivial (by kernel_rfl)
   have hAp := hAp.add (t := 44) (v := .bool (b || (decide (0 < (c.n : Int))))) (hT.vals 8 rfl 44 rfl)
   have hAp := hAp.add (t := 45) (v := cV (true && ((b || (decide (0 < (c.n : Int)))) == false)) (pB m 3)) (hT.vals 9 rfl 45 rfl)
   exact opk_gval hAp rfl rfl (g := true) (e := (b || (decide (0 < (c.n : Int))))) rfl (fun hg => r_load1 tU41 rfl (cv_get (hAp.get rfl) hg) ((ak.ext hT.chg).cell 3 _ rfl)) fun _ _ e => ⟨_, e, Chg.refl _ _, fun _ => Eq.refl _⟩
  ·intro a w hT
   have hAp := hT.ag j [] trivial (by kernel_rfl)
   have hAp := hAp.add (t := 44) (v := .bool (b || (decide (0 < (c.n : Int))))) (hT.vals 8 rfl 44 rfl)
   have hAp := hAp.add (t := 46) (v := cV (true && ((b || (decide (0 < (c.n : Int)))) == false)) (Sl.v d)) (hT.vals 10 rfl 46 rfl)
   exact opk_gval hAp rfl rfl (g := true) (e := (b || (decide (0 < (c.n : Int))))) rfl (fun hg => r_len (cv_get (hAp.get rfl) hg) tU41) fun _ _ e => ⟨_, e, Chg.refl _ _, fun _ => Eq.refl _⟩
  ·intro a w hT
   have hAp := hT.ag j [] trivial (by kernel_rfl)
   have hAp := hAp.add (t := 44) (v := .bool (b || (decide (0 < (c.n : Int))))) (hT.vals 8 rfl 44 rfl)
   have hAp := hAp.add (t := 47) (v := cV (true && ((b || (decide (0 < (c.n : Int)))) == false)) (.int .i64 (d.n : Int))) (hT.vals 11 rfl 47 rfl)
   exact opk_gval hAp rfl rfl (g := true) (e := (b || (decide (0 < (c.n : Int))))) rfl (fun hg => r_gtr (cv_get (hAp.get rfl) hg) rfl) fun _ _ e => ⟨_, e, Chg.refl _ _, fun _ => Eq.refl _⟩
  ·intro a w hT
   have hAp := hT.ag j [] trivial (by kernel_rfl)
   have hAp := hAp.add (t := 44) (v := .bool (b || (decide (0 < (c.n : Int))))) (hT.vals 8 rfl 44 rfl)
   have hAp := hAp.add (t := 48) (v := cV (true && ((b || (decide (0 < (c.n : Int)))) == false)) (.bool (decide (0 < (d.n : Int))))) (hT.vals 12 rfl 48 rfl)
   exact ovr hAp rfl (r_pick_or (g := (true && ((b || (decide (0 < (c.n : Int)))) == false))) (hAp.get rfl) (hAp.get rfl) (fun he => g_mkf rfl he)) fun _ => Eq.refl _
  ·intro a w hT
   have hAp := hT.ag j [] trivial (by kernel_rfl)
   have hAp := hAp.add (t := 49) (v := .bool ((b || (decide (0 < (c.n : Int)))) || (decide (0 < (d.n : Int))))) (hT.vals 13 rfl 49 rfl)
   exact ovr hAp rfl (r_move (hAp.get rfl)) fun _ => Eq.refl _
  ·intro a w hT
   have hAp := hT.ag j [(8, pB m 0)] ⟨rfl, trivial⟩ (by kernel_rfl)
   have hAp := hAp.add (t := 50) (v := .bool ((b || (decide (0 < (c.n : Int)))) || (decide (0 < (d.n : Int))))) (hT.vals 14 rfl 50 rfl)
   exact opk_gval hAp rfl rfl (g := true) (e := ((b || (decide (0 < (c.n : Int)))) || (decide (0 < (d.n : Int))))) rfl (fun hg => r_fieldAddr (hAp.get rfl) Try.underlying43 rfl ti_22 (by decide)) fun _ _ e => ⟨_, e, Chg.refl _ _, fun _ => Eq.refl _⟩
  ·intro a w hT
   have hAp := hT.ag j [] trivial (by kernel_rfl)
   have hAp := hAp.add (t := 50) (v := .bool ((b || (decide (0 < (c.n : Int)))) || (decide (0 < (d.n : Int))))) (hT.vals 14 rfl 50 rfl)
   have hAp := hAp.add (t := 51) (v := cV (true && (((b || (decide (0 < (c.n : Int)))) || (decide (0 < (d.n : Int)))) == false)) (pB m 5)) (hT.vals 15 rfl 51 rfl)
   exact opk_gval hAp rfl rfl (g := true) (e := ((b || (decide (0 < (c.n : Int)))) || (decide (0 < (d.n : Int))))) rfl (fun hg => r_load1 tU22 rfl (cv_get (hAp.get rfl) hg) ((ak.ext hT.chg).cell 5 _ rfl)) fun _ _ e => ⟨_, e, Chg.refl _ _, fun _ => Eq.refl _⟩
  ·intro a w hT
   have hAp := hT.ag j [(7, Sl.v k)] ⟨rfl, trivial⟩ (by kernel_rfl)
   have hAp := hAp.add (t := 50) (v := .bool ((b || (decide (0 < (c.n : Int)))) || (decide (0 < (d.n : Int))))) (hT.vals 14 rfl 50 rfl)
   exact opk_gval hAp rfl rfl (g := true) (e := ((b || (decide (0 < (c.n : Int)))) || (decide (0 < (d.n : Int))))) rfl (fun hg => r_move (hAp.get rfl)) fun _ _ e => ⟨_, e, Chg.refl _ _, fun _ => Eq.refl _⟩
  ·intro a w hT
   have hAp := hT.ag j [(2, .int .i64 f)] ⟨rfl, trivial⟩ (by kernel_rfl)
   have hAp := hAp.add (t := 50) (v := .bool ((b || (decide (0 < (c.n : Int)))) || (decide (0 < (d.n : Int))))) (hT.vals 14 rfl 50 rfl)
   exact opk_gval hAp rfl rfl (g := true) (e := ((b || (decide (0 < (c.n : Int)))) || (decide (0 < (d.n : Int))))) rfl (fun hg => r_move (hAp.get rfl)) fun _ _ e => ⟨_, e, Chg.refl _ _, fun _ => Eq.refl _⟩
  ·intro a w hT
   have hAp := hT.ag j [] trivial (by kernel_rfl)
   have hAp := hAp.add (t := 50) (v := .bool ((b || (decide (0 < (c.n : Int)))) || (decide (0 < (d.n : Int))))) (hT.vals 14 rfl 50 rfl)
   have hAp := hAp.add (t := 53) (v := cV (true && (((b || (decide (0 < (c.n : Int)))) || (decide (0 < (d.n : Int)))) == false)) (Sl.v k)) (hT.vals 17 rfl 53 rfl)
   have hAp := hAp.add (t := 54) (v := cV (true && (((b || (decide (0 < (c.n : Int)))) || (decide (0 < (d.n : Int)))) == false)) (.int .i64 f)) (hT.vals 18 rfl 54 rfl)
   exact opk_gcallM hAp rfl rfl (g := true) (e := ((b || (decide (0 < (c.n : Int)))) || (decide (0 < (d.n : Int))))) rfl (fun hg => r_call (args := #[Sl.v k, .int .i64 f]) Try.func41 (by decide) rfl (map_arr (ml_cons (cv_get (hAp.get rfl) hg) (ml_cons (cv_get (hAp.get rfl) hg) ml_nil))) rfl) (fun hg => bR ⟨⟨(b_or_f (b_or_f (g_f hg)).1).1, (of_decide_eq_false (b_or_f (b_or_f (g_f hg)).1).2)⟩, (of_decide_eq_false (b_or_f (g_f hg)).2)⟩ w hT.chg) fun _ _ _ _ e hE hR => ⟨_, e, hE, fun _ => by obtain ⟨o, hx, hV⟩ := cvty (α := Sl) (fun s => Sl.v s) (fun s w => ah s w) (fun hg => by obtain ⟨o, h1, h2⟩ := hR hg; exact ⟨o, h1, h2⟩); exact ⟨o, fun hp => hV (g_mkf rfl (b_or_mkf ⟨(b_or_mkf ⟨hp.1.1, (decide_eq_false hp.1.2)⟩), (decide_eq_false hp.2)⟩)), hx⟩⟩
  ·intro a w hT
   have hAp := hT.ag j [] trivial (by kernel_rfl)
   have hAp := hAp.add (t := 50) (v := .bool ((b || (decide (0 < (c.n : Int)))) || (decide (0 < (d.n : Int))))) (hT.vals 14 rfl 50 rfl)
   have hAp := hAp.add (t := 52) (v := cV (true && (((b || (decide (0 < (c.n : Int)))) || (decide (0 < (d.n : Int)))) == false)) (Sl.v ad)) (hT.vals 16 rfl 52 rfl)
   obtain ⟨o, b1, b2⟩ := hT.vals 19 rfl 55 rfl
   have hAp := hAp.add b2
   exact opk_gcall hAp rfl rfl (g := true) (e := ((b || (decide (0 < (c.n : Int)))) || (decide (0 < (d.n : Int))))) rfl (fun hg => r_call (args := #[Sl.v ad, Sl.v o]) Try.func40 (by decide) rfl (map_arr (ml_cons (cv_get (hAp.get rfl) hg) (ml_cons (cv_get (hAp.get rfl) hg) ml_nil))) rfl) (fun hg => bT ⟨⟨(b_or_f (b_or_f (g_f hg)).1).1, (of_decide_eq_false (b_or_f (b_or_f (g_f hg)).1).2)⟩, (of_decide_eq_false (b_or_f (g_f hg)).2)⟩ o w hT.chg b1) fun _ _ _ e hE => ⟨_, e, hE, fun _ => Eq.refl _⟩
  ·intro a w hT
   have hAp := hT.ag j [] trivial (by kernel_rfl)
   have hAp := hAp.add (t := 50) (v := .bool ((b || (decide (0 < (c.n : Int)))) || (decide (0 < (d.n : Int))))) (hT.vals 14 rfl 50 rfl)
   have hAp := hAp.add (t := 56) (v := cV (true && (((b || (decide (0 < (c.n : Int)))) || (decide (0 < (d.n : Int)))) == false)) (.bool i)) (hT.vals 20 rfl 56 rfl)
   exact opk_gval hAp rfl rfl (g := true) (e := ((b || (decide (0 < (c.n : Int)))) || (decide (0 < (d.n : Int))))) rfl (fun hg => r_not (cv_get (hAp.get rfl) hg)) fun _ _ e => ⟨_, e, Chg.refl _ _, fun _ => Eq.refl _⟩
  ·intro a w hT
   have hAp := hT.ag j [] trivial (by kernel_rfl)
   have hAp := hAp.add (t := 50) (v := .bool ((b || (decide (0 < (c.n : Int)))) || (decide (0 < (d.n : Int))))) (hT.vals 14 rfl 50 rfl)
   have hAp := hAp.add (t := 57) (v := cV (true && (((b || (decide (0 < (c.n : Int)))) || (decide (0 < (d.n : Int)))) == false)) (.bool (!i))) (hT.vals 21 rfl 57 rfl)
   exact ovr hAp rfl (r_pick_or (g := (true && (((b || (decide (0 < (c.n : Int)))) || (decide (0 < (d.n : Int)))) == false))) (hAp.get rfl) (hAp.get rfl) (fun he => g_mkf rfl he)) fun _ => Eq.refl _
  ·intro a w hT
   have hAp := hT.ag j [] trivial (by kernel_rfl)
   have hAp := hAp.add (t := 58) (v := .bool (((b || (decide (0 < (c.n : Int)))) || (decide (0 < (d.n : Int)))) || (!i))) (hT.vals 22 rfl 58 rfl)
   exact ovr hAp rfl (r_move (hAp.get rfl)) fun _ => Eq.refl _
  ·intro a w hT
   have hAp := hT.ag j [(8, pB m 0)] ⟨rfl, trivial⟩ (by kernel_rfl)
   have hAp := hAp.add (t := 59) (v := .bool (((b || (decide (0 < (c.n : Int)))) || (decide (0 < (d.n : Int)))) || (!i))) (hT.vals 23 rfl 59 rfl)
   exact opk_gval hAp rfl rfl (g := true) (e := (((b || (decide (0 < (c.n : Int)))) || (decide (0 < (d.n : Int)))) || (!i))) rfl (fun hg => r_fieldAddr (hAp.get rfl) Try.underlying43 rfl ti_3 (by decide)) fun _ _ e => ⟨_, e, Chg.refl _ _, fun _ => Eq.refl _⟩
  ·intro a w hT
   have hAp := hT.ag j [] trivial (by kernel_rfl)
   have hAp := hAp.add (t := 59) (v := .bool (((b || (decide (0 < (c.n : Int)))) || (decide (0 < (d.n : Int)))) || (!i))) (hT.vals 23 rfl 59 rfl)
   have hAp := hAp.add (t := 60) (v := cV (true && ((((b || (decide (0 < (c.n : Int)))) || (decide (0 < (d.n : Int)))) || (!i)) == false)) (pB m 4)) (hT.vals 24 rfl 60 rfl)
   exact opk_gval hAp rfl rfl (g := true) (e := (((b || (decide (0 < (c.n : Int)))) || (decide (0 < (d.n : Int)))) || (!i))) rfl (fun hg => r_load1 tU3 rfl (cv_get (hAp.get rfl) hg) ((ak.ext hT.chg).cell 4 _ rfl)) fun _ _ e => ⟨_, e, Chg.refl _ _, fun _ => Eq.refl _⟩
  ·intro a w hT
   have hAp := hT.ag j [(7, Sl.v k)] ⟨rfl, trivial⟩ (by kernel_rfl)
   have hAp := hAp.add (t := 59) (v := .bool (((b || (decide (0 < (c.n : Int)))) || (decide (0 < (d.n : Int)))) || (!i))) (hT.vals 23 rfl 59 rfl)
   exact opk_gval hAp rfl rfl (g := true) (e := (((b || (decide (0 < (c.n : Int)))) || (decide (0 < (d.n : Int)))) || (!i))) rfl (fun hg => r_move (hAp.get rfl)) fun _ _ e => ⟨_, e, Chg.refl _ _, fun _ => Eq.refl _⟩
  ·intro a w hT
   have hAp := hT.ag j [(2, .int .i64 f)] ⟨rfl, trivial⟩ (by kernel_rfl)
   have hAp := hAp.add (t := 59) (v := .bool (((b || (decide (0 < (c.n : Int)))) || (decide (0 < (d.n : Int)))) || (!i))) (hT.vals 23 rfl 59 rfl)
   exact opk_gval hAp rfl rfl (g := true) (e := (((b || (decide (0 < (c.n : Int)))) || (decide (0 < (d.n : Int)))) || (!i))) rfl (fun hg => r_move (hAp.get rfl)) fun _ _ e => ⟨_, e, Chg.refl _ _, fun _ => Eq.refl _⟩
  ·intro a w hT
   have hAp := hT.ag j [] trivial (by kernel_rfl)
   have hAp := hAp.add (t := 59) (v := .bool (((b || (decide (0 < (c.n : Int)))) || (decide (0 < (d.n : Int)))) || (!i))) (hT.vals 23 rfl 59 rfl)
   have hAp := hAp.add (t := 62) (v := cV (true && ((((b || (decide (0 < (c.n : Int)))) || (decide (0 < (d.n : Int)))) || (!i)) == false)) (Sl.v k)) (hT.vals 26 rfl 62 rfl)
   have hAp := hAp.add (t := 63) (v := cV (true && ((((b || (decide (0 < (c.n : Int)))) || (decide (0 < (d.n : Int)))) || (!i)) == false)) (.int .i64 f)) (hT.vals 27 rfl 63 rfl)
   exact opk_gval hAp rfl rfl (g := true) (e := (((b || (decide (0 < (c.n : Int)))) || (decide (0 < (d.n : Int)))) || (!i))) rfl (fun hg => r_indexAddr (cv_get (hAp.get rfl) hg) (cv_get (hAp.get rfl) hg) tU79 ti_86 (a9 ⟨⟨⟨(b_or_f (b_or_f (b_or_f (g_f hg)).1).1).1, (of_decide_eq_false (b_or_f (b_or_f (b_or_f (g_f hg)).1).1).2)⟩, (of_decide_eq_false (b_or_f (b_or_f (g_f hg)).1).2)⟩, (b_not_f (b_or_f (g_f hg)).2)⟩).1 (a9 ⟨⟨⟨(b_or_f (b_or_f (b_or_f (g_f hg)).1).1).1, (of_decide_eq_false (b_or_f (b_or_f (b_or_f (g_f hg)).1).1).2)⟩, (of_decide_eq_false (b_or_f (b_or_f (g_f hg)).1).2)⟩, (b_not_f (b_or_f (g_f hg)).2)⟩).2) fun _ _ e => ⟨_, e, Chg.refl _ _, fun _ => Eq.refl _⟩
  ·intro a w hT
   have hAp := hT.ag j [] trivial (by kernel_rfl)
   have hAp := hAp.add (t := 59) (v := .bool (((b || (decide (0 < (c.n : Int)))) || (decide (0 < (d.n : Int)))) || (!i))) (hT.vals 23 rfl 59 rfl)
   have hAp := hAp.add (t := 64) (v := cV (true && ((((b || (decide (0 < (c.n : Int)))) || (decide (0 < (d.n : Int)))) || (!i)) == false)) (.pointer (some (ai.add (f.toNat * 10))))) (hT.vals 28 rfl 64 rfl)
   exact opk_gval hAp rfl rfl (g := true) (e := (((b || (decide (0 < (c.n : Int)))) || (decide (0 < (d.n : Int)))) || (!i))) rfl (fun hg => r_fieldAddr (cv_get (hAp.get rfl) hg) Try.underlying86 rfl ti_3 (by decide)) fun _ _ e => ⟨_, e, Chg.refl _ _, fun _ => Eq.refl _⟩
  ·intro a w hT
   have hAp := hT.ag j [] trivial (by kernel_rfl)
   have hAp := hAp.add (t := 59) (v := .bool (((b || (decide (0 < (c.n : Int)))) || (decide (0 < (d.n : Int)))) || (!i))) (hT.vals 23 rfl 59 rfl)
   have hAp := hAp.add (t := 65) (v := cV (true && ((((b || (decide (0 < (c.n : Int)))) || (decide (0 < (d.n : Int)))) || (!i)) == false)) (.pointer (some ((ai.add (f.toNat * 10)).add 0)))) (hT.vals 29 rfl 65 rfl)
   exact opk_gval hAp rfl rfl (g := true) (e := (((b || (decide (0 < (c.n : Int)))) || (decide (0 < (d.n : Int)))) || (!i))) rfl (fun hg => r_load1 tU3 rfl (cv_get (hAp.get rfl) hg) (Ext.cell hT.chg (bX ⟨⟨⟨(b_or_f (b_or_f (b_or_f (g_f hg)).1).1).1, (of_decide_eq_false (b_or_f (b_or_f (b_or_f (g_f hg)).1).1).2)⟩, (of_decide_eq_false (b_or_f (b_or_f (g_f hg)).1).2)⟩, (b_not_f (b_or_f (g_f hg)).2)⟩))) fun _ _ e => ⟨_, e, Chg.refl _ _, fun _ => Eq.refl _⟩
  ·intro a w hT
   have hAp := hT.ag j [] trivial (by kernel_rfl)
   have hAp := hAp.add (t := 59) (v := .bool (((b || (decide (0 < (c.n : Int)))) || (decide (0 < (d.n : Int)))) || (!i))) (hT.vals 23 rfl 59 rfl)
   have hAp := hAp.add (t := 61) (v := cV (true && ((((b || (decide (0 < (c.n : Int)))) || (decide (0 < (d.n : Int)))) || (!i)) == false)) (.int .i64 p)) (hT.vals 25 rfl 61 rfl)
   have hAp := hAp.add (t := 66) (v := cV (true && ((((b || (decide (0 < (c.n : Int)))) || (decide (0 < (d.n : Int)))) || (!i)) == false)) (.int .i64 q)) (hT.vals 30 rfl 66 rfl)
   exact opk_gval hAp rfl rfl (g := true) (e := (((b || (decide (0 < (c.n : Int)))) || (decide (0 < (d.n : Int)))) || (!i))) rfl (fun hg => r_neq (cv_get (hAp.get rfl) hg) (cv_get (hAp.get rfl) hg)) fun _ _ e => ⟨_, e, Chg.refl _ _, fun _ => Eq.refl _⟩
  ·intro a w hT
   have hAp := hT.ag j [] trivial (by kernel_rfl)
   have hAp := hAp.add (t := 59) (v := .bool (((b || (decide (0 < (c.n : Int)))) || (decide (0 < (d.n : Int)))) || (!i))) (hT.vals 23 rfl 59 rfl)
   have hAp := hAp.add (t := 67) (v := cV (true && ((((b || (decide (0 < (c.n : Int)))) || (decide (0 < (d.n : Int)))) || (!i)) == false)) (.bool (decide (p ≠ q)))) (hT.vals 31 rfl 67 rfl)
   exact ovr hAp rfl (r_pick_or (g := (true && ((((b || (decide (0 < (c.n : Int)))) || (decide (0 < (d.n : Int)))) || (!i)) == false))) (hAp.get rfl) (hAp.get rfl) (fun he => g_mkf rfl he)) fun _ => Eq.refl _
  ·intro a w hT
   have hAp := hT.ag j [] trivial (by kernel_rfl)
   have hAp := hAp.add (t := 68) (v := .bool ((((b || (decide (0 < (c.n : Int)))) || (decide (0 < (d.n : Int)))) || (!i)) || (decide (p ≠ q)))) (hT.vals 32 rfl 68 rfl)
   exact ovr hAp rfl (r_assign (hAp.get rfl)) fun _ => Eq.refl _
  ·intro b3 am ba b4 b5
   have b6 := b4 [] trivial (by kernel_rfl)
   have b7 : b3.tmps.getD 6 undef = .bool ((((b || (decide (0 < (c.n : Int)))) || (decide (0 < (d.n : Int)))) || (!i)) || (decide (p ≠ q))) := b5 33 rfl 6 rfl
   have b8 := b6.add b7
   have cz := ak.ext ba
   have b9 : Chg [] r am := ba
   refine PR_end (by kernel_rfl) ?_
   have bb := b8.kp [(6, .bool ((((b || (decide (0 < (c.n : Int)))) || (decide (0 < (d.n : Int)))) || (!i)) || (decide (p ≠ q))))] rfl
   refine then_normal ?_
   refine wp_ret ?_
   have ca := bY am    b9
   exact res_all (vs := [.bool ((((b || (decide (0 < (c.n : Int)))) || (decide (0 < (d.n : Int)))) || (!i)) || (decide (p ≠ q)))]) rfl bb ⟨res_of_tmp bb rfl, trivial⟩ ca
def slots_Kids.vc (c : Int) (d : Str) (f : Str) (i : Sl) (j : Sl) (a : Int) (R : Value → World → Prop) (w : World) : Prop :=
∀ (k : World) (l : Nat), New w l k → Chg [] w k →
CallK Try.prog 37 #[.agg #[.int .i64 c, .string (Bs d), .string (Bs f), Sl.v i, Sl.v j]] k [l] (fun v p => ∃ (b : Sl), v = Sl.v b ∧
(((a < 0) ∨ ((b.n : Int) ≤ a)) →
R (Sl.v Sl.nil) p) ∧
(((¬ (a < 0)) ∧ (¬ ((b.n : Int) ≤ a))) →
CallK Try.prog 41 #[Sl.v b, .int .i64 a] p [] (fun v t => ∃ (m : Sl), v = Sl.v m ∧
R (Sl.v m) t)))
theorem slots_Kids.ok (c : Int) (d : Str) (f : Str) (i : Sl) (j : Sl) (a : Int) {R : Value → World → Prop} {w : World} (u : slots_Kids.vc c d f i j a R w) : Calls Try.prog 24 #[.agg #[.int .i64 c, .string (Bs d), .string (Bs f), Sl.v i, Sl.v j], .int .i64 a] w (Ret R) := by
 refine enter [.agg #[.int .i64 c, .string (Bs d), .string (Bs f), Sl.v i, Sl.v j], .int .i64 a] Try.func24 rfl Try.ntmps24 rfl ?_
 intro a0 x
 unfold slots_Kids.vc at u
 refine wp_seq (wp_region_lit ?_)
 refine sq (opk_new (fun B => .pointer (some ⟨B, 0, none⟩)) x rfl (r_box (cs := [.int .i64 c, .string (Bs d), .string (Bs f), Sl.v i, Sl.v j]) (x.get rfl) rfl) fun a5 k l ap aq y ar _ => ?_)
 have au : New w l k := aq
 have av : Chg [] w k := ap
 refine sqv ar rfl (r_assign rfl) fun _ ax => sq_end ?_
 have z := ax.kp [(1, .int .i64 a), (2, pB l 0)] rfl
 refine then_normal (wp_seq (wp_region_lit ?_))
 refine sqv z rfl (r_loadN (cs := [.int .i64 c, .string (Bs d), .string (Bs f), Sl.v i, Sl.v j]) Try.underlying26 rfl ti_26 (z.get rfl) (y.part 0 _ rfl)) fun _ aa => ?_
 have ay := u k l au  av
 refine sq (opk_call aa rfl (r_call (args := #[.agg #[.int .i64 c, .string (Bs d), .string (Bs f), Sl.v i, Sl.v j]]) Try.func37 (by decide) rfl (map_arr (ml_cons (aa.get rfl) ml_nil)) rfl) ay fun aM aN p ab _ az aO aA => ?_)
 obtain ⟨b, rfl, ad⟩ := aA
 have aP := y.kept az (.head _)
 refine sqv ab rfl (r_assign (ab.get rfl)) fun _ aB => sq_end ?_
 have af := aB.kp [(1, .int .i64 a), (5, Sl.v b)] rfl
 refine then_normal (wp_seq (wp_seq (wp_region_lit ?_)))
 refine sqv af rfl (r_move (af.get rfl)) fun _ ag => sqv ag rfl (r_lss (ag.get rfl) rfl) fun _ ah => sqv ah rfl (r_move (ah.get rfl)) fun _ ai => ?_
 refine sq (opk_gval ai rfl rfl (g := true) (e := (decide (a < 0))) rfl (fun hg => r_move (ai.get rfl)) fun aQ aj _ => ?_)
 refine sq (opk_gval aj rfl rfl (g := true) (e := (decide (a < 0))) rfl (fun hg => r_move (aj.get rfl)) fun aR ak _ => ?_)
 refine sq (opk_gval ak rfl rfl (g := true) (e := (decide (a < 0))) rfl (fun hg => r_len (cv_get (ak.get rfl) hg) tU79) fun aS q _ => ?_)
 refine sq (opk_gval q rfl rfl (g := true) (e := (decide (a < 0))) rfl (fun hg => r_geq (cv_get (q.get rfl) hg) (cv_get (q.get rfl) hg)) fun aT r _ => ?_)
 refine sqv r rfl (r_pick_or (g := (true && ((decide (a < 0)) == false))) (r.get rfl) (r.get rfl) (fun he => g_mkf rfl he)) fun _ aC => sq_end ?_
 have o := aC.kp [(1, .int .i64 a), (5, Sl.v b), (15, .bool ((decide (a < 0)) || (decide ((b.n : Int) ≤ a))))] rfl
 refine then_normal ?_
 refine wp_cond_split (o.get rfl) (fun hc => ?_) (fun hc => ?_)
 ·have aD := ad.1 ((b_or_t hc).imp (fun h => (of_decide_eq_true h)) (fun h => (of_decide_eq_true h)))
  clear hc
  refine wp_seq (wp_region_lit ?_)
  refine sqv o rfl (r_assign rfl) fun _ aF => sq_end ?_
  have al := aF.kp [(4, Sl.v Sl.nil)] rfl
  refine then_normal ?_
  refine wp_ret ?_
  refine then_ret ?_
  exact res_all (vs := [Sl.v Sl.nil]) rfl al ⟨res_of_tmp al rfl, trivial⟩ aD
 ·have aG := ad.2 ⟨(of_decide_eq_false (b_or_f hc).1), (of_decide_eq_false (b_or_f hc).2)⟩
  clear hc
  refine wp_skip ?_
  refine then_normal (wp_seq (wp_region_lit ?_))
  refine sqv o rfl (r_move (o.get rfl)) fun _ am => sqv am rfl (r_move (am.get rfl)) fun _ s => ?_
  refine sq (opk_call s rfl (r_call (args := #[Sl.v b, .int .i64 a]) Try.func41 (by decide) rfl (map_arr (ml_cons (s.get rfl) (ml_cons (s.get rfl) ml_nil))) rfl) aG fun aU aV t an _ aX aY aH => ?_)
  obtain ⟨m, rfl, aI⟩ := aH
  refine sqv an rfl (r_assign (an.get rfl)) fun _ aJ => sq_end ?_
  have ao := aJ.kp [(4, Sl.v m)] rfl
  refine then_normal ?_
  refine wp_ret ?_
  exact res_all (vs := [Sl.v m]) rfl ao ⟨res_of_tmp ao rfl, trivial⟩ aI
def slots_Of_1.vc (a : Int) (c : Addr) (R : Value → World → Prop) (w : World) : Prop :=
∃ (g : Option Nat), (w.cell? c = some (.map g)) ∧
∃ (b : Int) (d : Bool), ((Instr.lookup 81 (.map g) (.int .i64 a) true).run Try.prog w = .ok (.tuple #[.int .i64 b, .bool d]) w) ∧
((d = true) →
R (.int .i64 b) w) ∧
((d = false) →
(I64 ((-2) - a)) ∧
R (.int .i64 ((-2) - a)) w)
theorem slots_Of_1.ok (a : Int) (c : Addr) {R : Value → World → Prop} {w : World} (i : slots_Of_1.vc a c R w) : Calls Try.prog 38 #[.int .i64 a, .pointer (some c)] w (Ret R) := by
 refine enter [.int .i64 a, .pointer (some c)] Try.func38 rfl Try.ntmps38 rfl ?_
 intro a0 y
 unfold slots_Of_1.vc at i
 refine wp_seq (wp_region_lit ?_)
 refine sqv y rfl (r_assign rfl) fun _ z => sq_end ?_
 have j := z.kp [(0, .int .i64 a), (1, .pointer (some c))] rfl
 refine then_normal (wp_seq (wp_seq (wp_region_lit ?_)))
 obtain ⟨g, aa, ab⟩ := i
 refine sqv j rfl (r_load1 tU81 rfl (j.get rfl) aa) fun _ k => sqv k rfl (r_move (k.get rfl)) fun _ h => ?_
 obtain ⟨b, d, ad, l⟩ := ab
 refine sqv h rfl (r_lookup (h.get rfl) (h.get rfl) ad) fun _ m => sqv m rfl (r_move (m.get rfl)) fun _ n => sqv n rfl (r_extract (n.get rfl) rfl) fun _ o => sqv o rfl (r_extract (o.get rfl) rfl) fun _ p => sqv p rfl (r_assign (p.get rfl)) fun _ q => sqv q rfl (r_assign (q.get rfl)) fun _ af => sq_end ?_
 have r := af.kp [(0, .int .i64 a), (4, .int .i64 b), (5, .bool d)] rfl
 refine then_normal (wp_seq (wp_region_lit ?_))
 refine sqv r rfl (r_move (r.get rfl)) fun _ ag => sq_end ?_
 have f := ag.kp [(0, .int .i64 a), (4, .int .i64 b), (12, .bool d)] rfl
 refine then_normal ?_
 refine wp_cond_split (f.get rfl) (fun hc => ?_) (fun hc => ?_)
 ·have ah := l.1 hc
  clear hc
  refine wp_seq (wp_region_lit ?_)
  refine sqv f rfl (r_move (f.get rfl)) fun _ s => sqv s rfl (r_assign (s.get rfl)) fun _ ai => sq_end ?_
  have t := ai.kp [(3, .int .i64 b)] rfl
  refine then_normal ?_
  refine wp_ret ?_
  refine then_ret ?_
  exact res_all (vs := [.int .i64 b]) rfl t ⟨res_of_tmp t rfl, trivial⟩ ah
 ·have aj := l.2 hc
  clear hc
  refine wp_skip ?_
  refine then_normal (wp_seq (wp_region_lit ?_))
  refine sqv f rfl (r_move (f.get rfl)) fun _ u => ?_
  obtain ⟨ak, al⟩ := aj
  refine sqv u rfl (r_subI rfl (u.get rfl) ak) fun _ v => sqv v rfl (r_assign (v.get rfl)) fun _ am => sq_end ?_
  have x := am.kp [(3, .int .i64 ((-2) - a))] rfl
  refine then_normal ?_
  refine wp_ret ?_
  exact res_all (vs := [.int .i64 ((-2) - a)]) rfl x ⟨res_of_tmp x rfl, trivial⟩ al
end Go.Proofs.Yteohbfaechfliaa
