/-
  PRINTED BY PROGRAM: for each function its condition (vc), and that this suffices (ok).
-/
import Derived.Test.YteacalmdpoblpaaGreatQCodecBaseGT
namespace Go.Proofs.YteacalmdpoblpaaGreat
open Go.RowKit
set_option linter.unusedVariables false
set_option maxHeartbeats 1000000
set_option maxRecDepth 10000
def apply_Right.vc (b : Int) (o : Int) (f : Int) (k : Int) (j : Int) (p : Str) (x : Str) (R : Value → World → Prop) (w : World) : Prop :=
∀ (w3 : World) (u : Nat), New w u w3 → Chg [] w w3 →
CallK Tryz.prog 52 #[] w3 [u] (fun v aa => v = .agg #[.nilFunc, .nilFunc, .func (.func 93) #[] #[], .func (.func 95) #[] #[], .func (.func 96) #[] #[], .func (.func 98) #[] #[], .func (.func 99) #[] #[], .func (.func 101) #[] #[], .func (.func 102) #[] #[], .func (.func 104) #[] #[], .func (.func 105) #[] #[], .func (.func 107) #[] #[], .func (.func 108) #[] #[], .func (.func 110) #[] #[]] ∧
(((((b < 1) ∨ (6 < b)) ∨ (o < 0)) ∨ (1048576 < o)) →
∀ (z : World) (n : Nat), New aa n z → Chg [] aa z →
R (.bool false) z) ∧
(((((¬ (b < 1)) ∧ (¬ (6 < b))) ∧ (¬ (o < 0))) ∧ (¬ (1048576 < o))) →
((b = 1) →
∀ (z : World) (n : Nat), New aa n z → Chg [] aa z →
R (.bool ((decide (1 ≤ j)) && (decide (j ≤ 5)))) z) ∧
((¬ (b = 1)) →
∀ (ab : World) (n : Nat), New aa n ab → Chg [] aa ab →
((0 : Int) ≤ b ∧ b < 7) ∧
∃ (al : FuncId) (ar au : Array Value), ((([.nilFunc, .nilFunc, .func (.func 93) #[] #[], .func (.func 95) #[] #[], .func (.func 96) #[] #[], .func (.func 98) #[] #[], .func (.func 99) #[] #[], .func (.func 101) #[] #[], .func (.func 102) #[] #[], .func (.func 104) #[] #[], .func (.func 105) #[] #[], .func (.func 107) #[] #[], .func (.func 108) #[] #[], .func (.func 110) #[] #[]] : List Value).getD (b.toNat * 2 + 1) .nilFunc) = .func (.func al) ar au) ∧
Body Tryz.prog al ∧
∃ ai : Int → Int → Int → Int → Int → Str → Str → World → Prop, (∀ q : Int, ∀ r : Int, ∀ c : Int, ∀ d : Int, ∀ s : Int, ∀ l : Str, ∀ m : Str, ∀ w' w'' : World, Ext w' w'' → ai q r c d s l m w' → ai q r c d s l m w'') ∧
(∀ w' : World, Ext ab w' → Calls Tryz.prog al (ar ++ #[.agg #[.int .i64 b, .int .i64 o, .int .i64 f, .int .i64 k, .int .i64 j, .string (Bs p), .string (Bs x)]] ++ au) w' (Ret fun v w'' => Ext w' w'' ∧ ∃ q : Int, ∃ r : Int, ∃ c : Int, ∃ d : Int, ∃ s : Int, ∃ l : Str, ∃ m : Str, v = .agg #[.int .i64 q, .int .i64 r, .int .i64 c, .int .i64 d, .int .i64 s, .string (Bs l), .string (Bs m)] ∧ ai q r c d s l m w'')) ∧
∀ (ad : World) (q : Int) (r : Int) (c : Int) (d : Int) (s : Int) (l : Str) (m : Str) (t : Nat), Ext ab ad → ai q r c d s l m ad → ab.heap.size ≤ t → Box ad t 59 [.int .i64 0, .int .i64 0, .int .i64 0, .int .i64 0, .int .i64 0, .string (Bs []), .string (Bs [])] → 
∀ (aj : World), Chg [t] ad aj →
R (.bool (((((decide (f = c)) && (decide (k = d))) && (decide (j = 0))) && (decide (p = l))) && (decide (x = m)))) aj)))
theorem apply_Right.ok (b : Int) (o : Int) (f : Int) (k : Int) (j : Int) (p : Str) (x : Str) {R : Value → World → Prop} {w : World} (aS : apply_Right.vc b o f k j p x R w) : Calls Tryz.prog 24 #[.agg #[.int .i64 b, .int .i64 o, .int .i64 f, .int .i64 k, .int .i64 j, .string (Bs p), .string (Bs x)]] w (Ret R) := by
 refine enter [.agg #[.int .i64 b, .int .i64 o, .int .i64 f, .int .i64 k, .int .i64 j, .string (Bs p), .string (Bs x)]] Tryz.func24 rfl Tryz.ntmps24 rfl ?_
 intro a0 aT
 unfold apply_Right.vc at aS
 refine wp_seq (wp_region_lit ?_)
 refine sq (opk_new (fun B => .pointer (some ⟨B, 0, none⟩)) aT rfl (r_box (cs := [.int .i64 b, .int .i64 o, .int .i64 f, .int .i64 k, .int .i64 j, .string (Bs p), .string (Bs x)]) (aT.get rfl) rfl) fun a4 w3 u b0 b1 b2 b3 _ => ?_)
 have b4 : New w u w3 := b1
 have b5 : Chg [] w w3 := b0
 refine sqv b3 rfl (r_assign rfl) fun _ b6 => sq_end ?_
 have b7 := b6.kp [(1, .pointer (some (⟨u, 0, none⟩ : Addr)))] rfl
 refine then_normal (wp_seq (wp_region_lit ?_))
 have b8 := aS w3 u b4  b5
 refine sq (opk_call b7 rfl (r_call (args := #[]) Tryz.func52 (by decide) rfl (map_arr ml_nil) rfl) b8 fun c8 c9 aa b9 _ ca da cb => ?_)
 obtain ⟨rfl, aU⟩ := cb
 have aV := b2.kept ca (.head _)
 refine sq (opk_new (fun B => .pointer (some ⟨B, 0, none⟩)) b9 rfl (r_alloc (cs := [.nilFunc, .nilFunc, .nilFunc, .nilFunc, .nilFunc, .nilFunc, .nilFunc, .nilFunc, .nilFunc, .nilFunc, .nilFunc, .nilFunc, .nilFunc, .nilFunc]) ti_97 rfl) fun db aX n aY aZ hB27 av _ => ?_)
 have cc : u ≠ n := Nat.ne_of_lt (Nat.lt_of_lt_of_le aV.lt aZ.ge)
 have a1 : New aa n aX := aZ
 have cd := aV.ext aY
 have cf : Chg [] aa aX := aY
 refine sq (opk_store av hB27 (r_store (vs := [.nilFunc, .nilFunc, .func (.func 93) #[] #[], .func (.func 95) #[] #[], .func (.func 96) #[] #[], .func (.func 98) #[] #[], .func (.func 99) #[] #[], .func (.func 101) #[] #[], .func (.func 102) #[] #[], .func (.func 104) #[] #[], .func (.func 105) #[] #[], .func (.func 107) #[] #[], .func (.func 108) #[] #[], .func (.func 110) #[] #[]]) (av.get rfl) (av.get rfl) rfl ti_97 hB27 rfl (ones_all _ rfl)) fun dc z ax cg ch => ?_)
 have ci : Box z n 97 [.nilFunc, .nilFunc, .func (.func 93) #[] #[], .func (.func 95) #[] #[], .func (.func 96) #[] #[], .func (.func 98) #[] #[], .func (.func 99) #[] #[], .func (.func 101) #[] #[], .func (.func 102) #[] #[], .func (.func 104) #[] #[], .func (.func 105) #[] #[], .func (.func 107) #[] #[], .func (.func 108) #[] #[], .func (.func 110) #[] #[]] := cg
 have af := cd.keep ax (by simpa using cc)
 have ay := cf.storeNew a1 ax
 have az := a1.up ax.size
 refine sq_end ?_
 have a2 := ch.kp [(1, .pointer (some (⟨u, 0, none⟩ : Addr))), (3, .pointer (some (⟨n, 0, none⟩ : Addr)))] rfl
 refine then_normal (wp_seq (wp_seq (wp_region_lit ?_)))
 refine sqv a2 rfl (r_fieldAddr (a2.get rfl) Tryz.underlying59 rfl ti_3 (by decide)) fun _ a3 => sqv a3 rfl (r_load1 tU3 rfl (a3.get rfl) (af.cell 0 _ rfl)) fun _ hA42 => sqv hA42 rfl (r_lss (hA42.get rfl) rfl) fun _ a5 => sqv a5 rfl (r_move (a5.get rfl)) fun _ a6 => ?_
 refine sq (opk_gval a6 rfl rfl (g := true) (e := (decide (b < 1))) rfl (fun hg => r_fieldAddr (a6.get rfl) Tryz.underlying59 rfl ti_3 (by decide)) fun dd a7 _ => ?_)
 refine sq (opk_gval a7 rfl rfl (g := true) (e := (decide (b < 1))) rfl (fun hg => r_load1 tU3 rfl (cv_get (a7.get rfl) hg) (af.cell 0 _ rfl)) fun df a8 _ => ?_)
 refine sq (opk_gval a8 rfl rfl (g := true) (e := (decide (b < 1))) rfl (fun hg => r_gtr (cv_get (a8.get rfl) hg) rfl) fun dg aA _ => ?_)
 refine sqv aA rfl (r_pick_or (g := (true && ((decide (b < 1)) == false))) (aA.get rfl) (aA.get rfl) (fun he => g_mkf rfl he)) fun _ a9 => sqv a9 rfl (r_move (a9.get rfl)) fun _ ba => ?_
 refine sq (opk_gval ba rfl rfl (g := true) (e := ((decide (b < 1)) || (decide (6 < b)))) rfl (fun hg => r_fieldAddr (ba.get rfl) Tryz.underlying59 rfl ti_3 (by decide)) fun dh bb _ => ?_)
 refine sq (opk_gval bb rfl rfl (g := true) (e := ((decide (b < 1)) || (decide (6 < b)))) rfl (fun hg => r_load1 tU3 rfl (cv_get (bb.get rfl) hg) (af.cell 1 _ rfl)) fun di bd _ => ?_)
 refine sq (opk_gval bd rfl rfl (g := true) (e := ((decide (b < 1)) || (decide (6 < b)))) rfl (fun hg => r_lss (cv_get (bd.get rfl) hg) rfl) fun dj aB _ => ?_)
 refine sqv aB rfl (r_pick_or (g := (true && (((decide (b < 1)) || (decide (6 < b))) == false))) (aB.get rfl) (aB.get rfl) (fun he => g_mkf rfl he)) fun _ bf => sqv bf rfl (r_move (bf.get rfl)) fun _ bg => ?_
 refine sq (opk_gval bg rfl rfl (g := true) (e := (((decide (b < 1)) || (decide (6 < b))) || (decide (o < 0)))) rfl (fun hg => r_fieldAddr (bg.get rfl) Tryz.underlying59 rfl ti_3 (by decide)) fun dk bh _ => ?_)
 refine sq (opk_gval bh rfl rfl (g := true) (e := (((decide (b < 1)) || (decide (6 < b))) || (decide (o < 0)))) rfl (fun hg => r_load1 tU3 rfl (cv_get (bh.get rfl) hg) (af.cell 1 _ rfl)) fun dl bi _ => ?_)
 refine sq (opk_gval bi rfl rfl (g := true) (e := (((decide (b < 1)) || (decide (6 < b))) || (decide (o < 0)))) rfl (fun hg => r_gtr (cv_get (bi.get rfl) hg) rfl) fun dm aC _ => ?_)
 refine sqv aC rfl (r_pick_or (g := (true && ((((decide (b < 1)) || (decide (6 < b))) || (decide (o < 0))) == false))) (aC.get rfl) (aC.get rfl) (fun he => g_mkf rfl he)) fun _ cj => sq_end ?_
 have am := cj.kp [(1, .pointer (some (⟨u, 0, none⟩ : Addr))), (3, .pointer (some (⟨n, 0, none⟩ : Addr))), (23, .bool ((((decide (b < 1)) || (decide (6 < b))) || (decide (o < 0))) || (decide (1048576 < o))))] rfl
 refine then_normal ?_
 refine wp_cond_split (am.get rfl) (fun hc => ?_) (fun hc => ?_)
 ·have ck := aU.1 ((b_or_t hc).imp (fun h => ((b_or_t h).imp (fun h => ((b_or_t h).imp (fun h => (of_decide_eq_true h)) (fun h => (of_decide_eq_true h)))) (fun h => (of_decide_eq_true h)))) (fun h => (of_decide_eq_true h)))
  clear hc
  refine wp_seq (wp_region_lit ?_)
  refine sqv am rfl (r_assign rfl) fun _ cl => sq_end ?_
  have bj := cl.kp [(2, .bool false)] rfl
  refine then_normal ?_
  refine wp_ret ?_
  refine then_ret ?_
  have cm := ck z n az  ay
  exact res_all (vs := [.bool false]) rfl bj ⟨res_of_tmp bj rfl, trivial⟩ cm
 ·have bk := aU.2 ⟨⟨⟨(of_decide_eq_false (b_or_f (b_or_f (b_or_f hc).1).1).1), (of_decide_eq_false (b_or_f (b_or_f (b_or_f hc).1).1).2)⟩, (of_decide_eq_false (b_or_f (b_or_f hc).1).2)⟩, (of_decide_eq_false (b_or_f hc).2)⟩
  clear hc
  refine wp_skip ?_
  refine then_normal (wp_seq (wp_seq (wp_region_lit ?_)))
  refine sqv am rfl (r_fieldAddr (am.get rfl) Tryz.underlying59 rfl ti_3 (by decide)) fun _ bl => sqv bl rfl (r_load1 tU3 rfl (bl.get rfl) (af.cell 0 _ rfl)) fun _ bm => sqv bm rfl (r_eql (bm.get rfl) rfl) fun _ cn => sq_end ?_
  have y := cn.kp [(1, .pointer (some (⟨u, 0, none⟩ : Addr))), (3, .pointer (some (⟨n, 0, none⟩ : Addr))), (26, .bool (decide (b = 1)))] rfl
  refine then_normal ?_
  refine wp_cond_split (y.get rfl) (fun hc => ?_) (fun hc => ?_)
  ·have co := bk.1 (of_decide_eq_true hc)
   clear hc
   refine wp_seq (wp_region_lit ?_)
   refine sqv y rfl (r_fieldAddr (y.get rfl) Tryz.underlying59 rfl ti_3 (by decide)) fun _ bn => sqv bn rfl (r_load1 tU3 rfl (bn.get rfl) (af.cell 4 _ rfl)) fun _ bo => sqv bo rfl (r_geq (bo.get rfl) rfl) fun _ bp => sqv bp rfl (r_move (bp.get rfl)) fun _ bq => ?_
   refine sq (opk_gval bq rfl rfl (g := true) (e := (decide (1 ≤ j))) rfl (fun hg => r_fieldAddr (bq.get rfl) Tryz.underlying59 rfl ti_3 (by decide)) fun dn br _ => ?_)
   refine sq (opk_gval br rfl rfl (g := true) (e := (decide (1 ≤ j))) rfl (fun hg => r_load1 tU3 rfl (cv_get (br.get rfl) hg) (af.cell 4 _ rfl)) fun dp bs _ => ?_)
   refine sq (opk_gval bs rfl rfl (g := true) (e := (decide (1 ≤ j))) rfl (fun hg => r_leq (cv_get (bs.get rfl) hg) rfl) fun dq aD _ => ?_)
   refine sqv aD rfl (r_pick_and (g := (true && ((decide (1 ≤ j)) == true))) (aD.get rfl) (aD.get rfl) (fun he => g_mkt rfl he)) fun _ bt => sqv bt rfl (r_assign (bt.get rfl)) fun _ cp => sq_end ?_
   have bu := cp.kp [(2, .bool ((decide (1 ≤ j)) && (decide (j ≤ 5))))] rfl
   refine then_normal ?_
   refine wp_ret ?_
   refine then_ret ?_
   have cq := co z n az  ay
   exact res_all (vs := [.bool ((decide (1 ≤ j)) && (decide (j ≤ 5)))]) rfl bu ⟨res_of_tmp bu rfl, trivial⟩ cq
  ·have cr := bk.2 (of_decide_eq_false hc)
   clear hc
   refine wp_skip ?_
   refine then_normal (wp_seq ?_)
   refine draw' (by kernel_rfl) fun ab an => ?_
   have ao := af.ext an
   have aF := ci.ext an
   have ct := ay.more an
   have cu := az.up an.size
   have cv := cr ab n cu  ct
   obtain ⟨bv, cx⟩ := cv
   obtain ⟨al, ar, au, cy, cz, cA⟩ := cx
   obtain ⟨ai, cB, cC, cD⟩ := cA
   refine par (D := [[], [0], [0, 1], [0, 1, 2], [0, 1, 2, 3], [], [0, 1, 2, 3, 4, 5], [], [0, 1, 2, 3, 4, 5, 6, 7]]) (S := [0, 1, 2, 3, 4, 5, 6, 7]) (F := []) (V := VL [(0, fun v _ => v = .pointer (some (⟨u, 0, none⟩ : Addr))), (1, fun v _ => v = .int .i64 b), (2, fun v _ => v = .pointer (some ((⟨n, 0, none⟩ : Addr).add (b.toNat * 2)))), (3, fun v _ => v = .pointer (some (((⟨n, 0, none⟩ : Addr).add (b.toNat * 2)).add 1))), (4, fun v _ => v = (([.nilFunc, .nilFunc, .func (.func 93) #[] #[], .func (.func 95) #[] #[], .func (.func 96) #[] #[], .func (.func 98) #[] #[], .func (.func 99) #[] #[], .func (.func 101) #[] #[], .func (.func 102) #[] #[], .func (.func 104) #[] #[], .func (.func 105) #[] #[], .func (.func 107) #[] #[], .func (.func 108) #[] #[], .func (.func 110) #[] #[]] : List Value).getD (b.toNat * 2 + 1) .nilFunc)), (5, fun v _ => v = .agg #[.int .i64 b, .int .i64 o, .int .i64 f, .int .i64 k, .int .i64 j, .string (Bs p), .string (Bs x)]), (6, fun v w' => ∃ q : Int, ∃ r : Int, ∃ c : Int, ∃ d : Int, ∃ s : Int, ∃ l : Str, ∃ m : Str, ai q r c d s l m w' ∧ v = .agg #[.int .i64 q, .int .i64 r, .int .i64 c, .int .i64 d, .int .i64 s, .string (Bs l), .string (Bs m)]), (7, fun v w' => ∃ t : Nat, ab.heap.size ≤ t ∧ Box w' t 59 [.int .i64 0, .int .i64 0, .int .i64 0, .int .i64 0, .int .i64 0, .string (Bs []), .string (Bs [])] ∧ v = .pointer (some (⟨t, 0, none⟩ : Addr)))]) y (by kernel_rfl) ⟨fun _ _ _ _ h => h, fun _ _ _ _ h => h, fun _ _ _ _ h => h, fun _ _ _ _ h => h, fun _ _ _ _ h => h, fun _ _ _ _ h => h, fun _ _ _ hE ⟨q, r, c, d, s, l, m, h0_, e⟩ => ⟨q, r, c, d, s, l, m, (cB q r c d s l m _ _ hE h0_), e⟩, fun _ _ _ hE ⟨t, h0_, h1_, e⟩ => ⟨t, h0_, (h1_.ext hE), e⟩, trivial⟩ ⟨?_, ?_, ?_, ?_, ?_, ?_, ?_, ?_, trivial⟩ ?_
   ·intro a w hT
    have hAp := hT.ag y [(1, .pointer (some (⟨u, 0, none⟩ : Addr)))] ⟨rfl, trivial⟩ (by kernel_rfl)
    exact ovr hAp rfl (r_fieldAddr (hAp.get rfl) Tryz.underlying59 rfl ti_3 (by decide)) fun _ => Eq.refl _
   ·intro a w hT
    have hAp := hT.ag y [] trivial (by kernel_rfl)
    have cF : a.tmps.getD 35 undef = .pointer (some (⟨u, 0, none⟩ : Addr)) := hT.vals 0 rfl 35 rfl
    have hAp := hAp.add cF
    exact ovr hAp rfl (r_load1 tU3 rfl (hAp.get rfl) ((ao.ext hT.chg).cell 0 _ rfl)) fun _ => Eq.refl _
   ·intro a w hT
    have hAp := hT.ag y [(3, .pointer (some (⟨n, 0, none⟩ : Addr)))] ⟨rfl, trivial⟩ (by kernel_rfl)
    have cG : a.tmps.getD 36 undef = .int .i64 b := hT.vals 1 rfl 36 rfl
    have hAp := hAp.add cG
    exact ovr hAp rfl (r_indexAddrA (hAp.get rfl) (hAp.get rfl) Tryz.underlying97 ti_96 bv) fun _ => Eq.refl _
   ·intro a w hT
    have hAp := hT.ag y [] trivial (by kernel_rfl)
    have cH : a.tmps.getD 37 undef = .pointer (some ((⟨n, 0, none⟩ : Addr).add (b.toNat * 2))) := hT.vals 2 rfl 37 rfl
    have hAp := hAp.add cH
    exact ovr hAp rfl (r_fieldAddr (hAp.get rfl) Tryz.underlying96 rfl ti_94 (by decide)) fun _ => Eq.refl _
   ·intro a w hT
    have hAp := hT.ag y [] trivial (by kernel_rfl)
    have cI : a.tmps.getD 38 undef = .pointer (some (((⟨n, 0, none⟩ : Addr).add (b.toNat * 2)).add 1)) := hT.vals 3 rfl 38 rfl
    have hAp := hAp.add cI
    exact ovr hAp rfl (r_load1 Tryz.underlying94 rfl (hAp.get rfl) (Box.cellAt (aF.ext hT.chg) rfl bv (by decide))) fun _ => Eq.refl _
   ·intro a w hT
    have hAp := hT.ag y [(1, .pointer (some (⟨u, 0, none⟩ : Addr)))] ⟨rfl, trivial⟩ (by kernel_rfl)
    exact ovr hAp rfl (r_loadN (cs := [.int .i64 b, .int .i64 o, .int .i64 f, .int .i64 k, .int .i64 j, .string (Bs p), .string (Bs x)]) Tryz.underlying59 rfl ti_59 (hAp.get rfl) ((ao.ext hT.chg).part 0 _ rfl)) fun _ => Eq.refl _
   ·intro a w hT
    have hAp := hT.ag y [] trivial (by kernel_rfl)
    have cJ : a.tmps.getD 39 undef = (([.nilFunc, .nilFunc, .func (.func 93) #[] #[], .func (.func 95) #[] #[], .func (.func 96) #[] #[], .func (.func 98) #[] #[], .func (.func 99) #[] #[], .func (.func 101) #[] #[], .func (.func 102) #[] #[], .func (.func 104) #[] #[], .func (.func 105) #[] #[], .func (.func 107) #[] #[], .func (.func 108) #[] #[], .func (.func 110) #[] #[]] : List Value).getD (b.toNat * 2 + 1) .nilFunc) := hT.vals 4 rfl 39 rfl
    have hAp := hAp.add cJ
    have cK : a.tmps.getD 40 undef = .agg #[.int .i64 b, .int .i64 o, .int .i64 f, .int .i64 k, .int .i64 j, .string (Bs p), .string (Bs x)] := hT.vals 5 rfl 40 rfl
    have hAp := hAp.add cK
    exact opk_callX hAp rfl (r_callO (args := #[.agg #[.int .i64 b, .int .i64 o, .int .i64 f, .int .i64 k, .int .i64 j, .string (Bs p), .string (Bs x)]]) cz (map_arr (ml_cons (hAp.get rfl) ml_nil)) (((hAp.get rfl)).trans cy)) (cC w hT.chg) fun _ _ _ _ e ⟨hE, q, r, c, d, s, l, m, he, hV⟩ => ⟨_, e, hE, fun _ => ⟨q, r, c, d, s, l, m, hV, he⟩⟩
   ·intro a w hT
    have hAp := hT.ag y [] trivial (by kernel_rfl)
    exact opk_new (fun B => .pointer (some ⟨B, 0, none⟩)) hAp rfl (r_alloc (cs := [.int .i64 0, .int .i64 0, .int .i64 0, .int .i64 0, .int .i64 0, .string (Bs []), .string (Bs [])]) ti_59 rfl) fun _ dr t cL cM cN _ e => ⟨_, e, cL, fun _ => ⟨t, Nat.le_trans hT.chg.size cM.ge, cN, rfl⟩⟩
   ·intro ds ad ap cO bx
    have cP := cO [(1, .pointer (some (⟨u, 0, none⟩ : Addr)))] ⟨rfl, trivial⟩ (by kernel_rfl)
    obtain ⟨q, r, c, d, s, l, m, cQ, cR⟩ := bx 6 rfl 41 rfl
    have cS := cP.add cR
    obtain ⟨t, aG, aH, cT⟩ := bx 7 rfl 4 rfl
    have aI := cS.add cT
    have cU := ao.ext ap
    have cX := aF.ext ap
    have dt : Chg [] ab ad := ap
    have cY := cD ad q r c d s l m t ap cQ aG aH
    have cZ : u ≠ t := Nat.ne_of_lt (Nat.lt_of_lt_of_le ao.lt aG)
    have c0 : n ≠ t := Nat.ne_of_lt (Nat.lt_of_lt_of_le aF.lt aG)
    refine one (D := [[], [0], [0, 1], [0, 1, 2], [0, 1, 2, 3], [], [0, 1, 2, 3, 4, 5], [], [0, 1, 2, 3, 4, 5, 6, 7]]) (i := 8) rfl (by kernel_rfl) (opk_store aI aH (r_store (vs := [.int .i64 q, .int .i64 r, .int .i64 c, .int .i64 d, .int .i64 s, .string (Bs l), .string (Bs m)]) (aI.get rfl) (aI.get rfl) rfl ti_59 aH rfl (ones_all _ rfl)) fun du aj aJ c1 c2 => ?_)
    have aq : Box aj t 59 [.int .i64 q, .int .i64 r, .int .i64 c, .int .i64 d, .int .i64 s, .string (Bs l), .string (Bs m)] := c1
    have ak := cU.keep aJ (by simpa using cZ)
    have dv := cX.keep aJ (by simpa using c0)
    have c3 : Chg [t] ad aj := aJ
    refine PR_end (by kernel_rfl) ?_
    have bz := c2.kp [(1, .pointer (some (⟨u, 0, none⟩ : Addr))), (4, .pointer (some (⟨t, 0, none⟩ : Addr)))] rfl
    refine then_normal (wp_seq (wp_region_lit ?_))
    refine sqv bz rfl (r_fieldAddr (bz.get rfl) Tryz.underlying59 rfl ti_3 (by decide)) fun _ bA => sqv bA rfl (r_load1 tU3 rfl (bA.get rfl) (ak.cell 2 _ rfl)) fun _ bB => sqv bB rfl (r_fieldAddr (bB.get rfl) Tryz.underlying59 rfl ti_3 (by decide)) fun _ bC => sqv bC rfl (r_load1 tU3 rfl (bC.get rfl) (aq.cell 2 _ rfl)) fun _ aK => sqv aK rfl (r_eql (aK.get rfl) (aK.get rfl)) fun _ bD => sqv bD rfl (r_move (bD.get rfl)) fun _ bF => ?_
    refine sq (opk_gval bF rfl rfl (g := true) (e := (decide (f = c))) rfl (fun hg => r_fieldAddr (bF.get rfl) Tryz.underlying59 rfl ti_3 (by decide)) fun dx bG _ => ?_)
    refine sq (opk_gval bG rfl rfl (g := true) (e := (decide (f = c))) rfl (fun hg => r_load1 tU3 rfl (cv_get (bG.get rfl) hg) (ak.cell 3 _ rfl)) fun dy bH _ => ?_)
    refine sq (opk_gval bH rfl rfl (g := true) (e := (decide (f = c))) rfl (fun hg => r_fieldAddr (bH.get rfl) Tryz.underlying59 rfl ti_3 (by decide)) fun dz bI _ => ?_)
    refine sq (opk_gval bI rfl rfl (g := true) (e := (decide (f = c))) rfl (fun hg => r_load1 tU3 rfl (cv_get (bI.get rfl) hg) (aq.cell 3 _ rfl)) fun dA aL _ => ?_)
    refine sq (opk_gval aL rfl rfl (g := true) (e := (decide (f = c))) rfl (fun hg => r_eql (cv_get (aL.get rfl) hg) (cv_get (aL.get rfl) hg)) fun dB aM _ => ?_)
    refine sqv aM rfl (r_pick_and (g := (true && ((decide (f = c)) == true))) (aM.get rfl) (aM.get rfl) (fun he => g_mkt rfl he)) fun _ bJ => sqv bJ rfl (r_move (bJ.get rfl)) fun _ bK => ?_
    refine sq (opk_gval bK rfl rfl (g := true) (e := ((decide (f = c)) && (decide (k = d)))) rfl (fun hg => r_fieldAddr (bK.get rfl) Tryz.underlying59 rfl ti_3 (by decide)) fun dC bL _ => ?_)
    refine sq (opk_gval bL rfl rfl (g := true) (e := ((decide (f = c)) && (decide (k = d)))) rfl (fun hg => r_load1 tU3 rfl (cv_get (bL.get rfl) hg) (ak.cell 4 _ rfl)) fun dD bM _ => ?_)
    refine sq (opk_gval bM rfl rfl (g := true) (e := ((decide (f = c)) && (decide (k = d)))) rfl (fun hg => r_eql (cv_get (bM.get rfl) hg) rfl) fun dF aN _ => ?_)
    refine sqv aN rfl (r_pick_and (g := (true && (((decide (f = c)) && (decide (k = d))) == true))) (aN.get rfl) (aN.get rfl) (fun he => g_mkt rfl he)) fun _ bN => sqv bN rfl (r_move (bN.get rfl)) fun _ bO => ?_
    refine sq (opk_gval bO rfl rfl (g := true) (e := (((decide (f = c)) && (decide (k = d))) && (decide (j = 0)))) rfl (fun hg => r_fieldAddr (bO.get rfl) Tryz.underlying59 rfl ti_9 (by decide)) fun dG bP _ => ?_)
    refine sq (opk_gval bP rfl rfl (g := true) (e := (((decide (f = c)) && (decide (k = d))) && (decide (j = 0)))) rfl (fun hg => r_load1 tU9 rfl (cv_get (bP.get rfl) hg) (ak.cell 5 _ rfl)) fun dH bQ _ => ?_)
    refine sq (opk_gval bQ rfl rfl (g := true) (e := (((decide (f = c)) && (decide (k = d))) && (decide (j = 0)))) rfl (fun hg => r_fieldAddr (bQ.get rfl) Tryz.underlying59 rfl ti_9 (by decide)) fun dI bR _ => ?_)
    refine sq (opk_gval bR rfl rfl (g := true) (e := (((decide (f = c)) && (decide (k = d))) && (decide (j = 0)))) rfl (fun hg => r_load1 tU9 rfl (cv_get (bR.get rfl) hg) (aq.cell 5 _ rfl)) fun dJ aO _ => ?_)
    refine sq (opk_gval aO rfl rfl (g := true) (e := (((decide (f = c)) && (decide (k = d))) && (decide (j = 0)))) rfl (fun hg => r_seql (cv_get (aO.get rfl) hg) (cv_get (aO.get rfl) hg)) fun dK aP _ => ?_)
    refine sqv aP rfl (r_pick_and (g := (true && ((((decide (f = c)) && (decide (k = d))) && (decide (j = 0))) == true))) (aP.get rfl) (aP.get rfl) (fun he => g_mkt rfl he)) fun _ bS => sqv bS rfl (r_move (bS.get rfl)) fun _ bT => ?_
    refine sq (opk_gval bT rfl rfl (g := true) (e := ((((decide (f = c)) && (decide (k = d))) && (decide (j = 0))) && (decide (p = l)))) rfl (fun hg => r_fieldAddr (bT.get rfl) Tryz.underlying59 rfl ti_9 (by decide)) fun dL bU _ => ?_)
    refine sq (opk_gval bU rfl rfl (g := true) (e := ((((decide (f = c)) && (decide (k = d))) && (decide (j = 0))) && (decide (p = l)))) rfl (fun hg => r_load1 tU9 rfl (cv_get (bU.get rfl) hg) (ak.cell 6 _ rfl)) fun dM bV _ => ?_)
    refine sq (opk_gval bV rfl rfl (g := true) (e := ((((decide (f = c)) && (decide (k = d))) && (decide (j = 0))) && (decide (p = l)))) rfl (fun hg => r_fieldAddr (bV.get rfl) Tryz.underlying59 rfl ti_9 (by decide)) fun dN bX _ => ?_)
    refine sq (opk_gval bX rfl rfl (g := true) (e := ((((decide (f = c)) && (decide (k = d))) && (decide (j = 0))) && (decide (p = l)))) rfl (fun hg => r_load1 tU9 rfl (cv_get (bX.get rfl) hg) (aq.cell 6 _ rfl)) fun dO aQ _ => ?_)
    refine sq (opk_gval aQ rfl rfl (g := true) (e := ((((decide (f = c)) && (decide (k = d))) && (decide (j = 0))) && (decide (p = l)))) rfl (fun hg => r_seql (cv_get (aQ.get rfl) hg) (cv_get (aQ.get rfl) hg)) fun dP aR _ => ?_)
    refine sqv aR rfl (r_pick_and (g := (true && (((((decide (f = c)) && (decide (k = d))) && (decide (j = 0))) && (decide (p = l))) == true))) (aR.get rfl) (aR.get rfl) (fun he => g_mkt rfl he)) fun _ bY => sqv bY rfl (r_assign (bY.get rfl)) fun _ c4 => sq_end ?_
    have bZ := c4.kp [(2, .bool (((((decide (f = c)) && (decide (k = d))) && (decide (j = 0))) && (decide (p = l))) && (decide (x = m))))] rfl
    refine then_normal ?_
    refine wp_ret ?_
    have c5 := cY aj    c3
    exact res_all (vs := [.bool (((((decide (f = c)) && (decide (k = d))) && (decide (j = 0))) && (decide (p = l))) && (decide (x = m)))]) rfl bZ ⟨res_of_tmp bZ rfl, trivial⟩ c5
def apply_Apply.vc (d : Int) (f : Str) (g : Str) (h : Sl) (i : Sl) (k : Sl) (R : Value → World → Prop) (w : World) : Prop :=
∀ (l : World) (j : Nat) (a : Nat), New w j l → New w a l → j ≠ a → Chg [] w l →
CallK Tryz.prog 64 #[.agg #[.int .i64 d, .string (Bs f), .string (Bs g), Sl.v h, Sl.v i], Sl.v k, .func (.func 65) #[] #[]] l [j, a] (fun v u => ∃ (m : Option Addr) (b : Int) (c : Int), v = .tuple #[.pointer m, .int .i64 b, .int .i64 c] ∧
((c ≠ 0) →
∀ (n : World), Chg [a] u n →
R (.tuple #[.agg #[.int .i64 0, .string (Bs []), .string (Bs []), Sl.v Sl.nil, Sl.v Sl.nil], .int .i64 b, .int .i64 c]) n) ∧
((¬ (c ≠ 0)) →
CallK Tryz.prog 66 #[.pointer m] u [a] (fun v aa => ∃ (o : Int) (p : Str) (q : Str) (r : Sl) (s : Sl), v = .agg #[.int .i64 o, .string (Bs p), .string (Bs q), Sl.v r, Sl.v s] ∧
∀ (t : World), Chg [a] aa t →
R (.tuple #[.agg #[.int .i64 o, .string (Bs p), .string (Bs q), Sl.v r, Sl.v s], .int .i64 b, .int .i64 0]) t)))
theorem apply_Apply.ok (d : Int) (f : Str) (g : Str) (h : Sl) (i : Sl) (k : Sl) {R : Value → World → Prop} {w : World} (ai : apply_Apply.vc d f g h i k R w) : Calls Tryz.prog 37 #[.agg #[.int .i64 d, .string (Bs f), .string (Bs g), Sl.v h, Sl.v i], Sl.v k] w (Ret R) := by
 refine enter [.agg #[.int .i64 d, .string (Bs f), .string (Bs g), Sl.v h, Sl.v i], Sl.v k] Tryz.func37 rfl Tryz.ntmps37 rfl ?_
 intro a0 aj
 unfold apply_Apply.vc at ai
 refine wp_seq (wp_region_lit ?_)
 refine sq (opk_new (fun B => .pointer (some ⟨B, 0, none⟩)) aj rfl (r_box (cs := [.int .i64 d, .string (Bs f), .string (Bs g), Sl.v h, Sl.v i]) (aj.get rfl) rfl) fun a5 w4 j aO aP al aQ _ => ?_)
 have aR : New w j w4 := aP
 have am : Chg [] w w4 := aO
 refine sq (opk_new (fun B => .pointer (some ⟨B, 0, none⟩)) aQ rfl (r_alloc (cs := [.int .i64 0, .string (Bs []), .string (Bs []), Sl.v Sl.nil, Sl.v Sl.nil]) ti_39 rfl) fun br l a ab an aS aT _ => ?_)
 have aU : j ≠ a := Nat.ne_of_lt (Nat.lt_of_lt_of_le al.lt an.ge)
 have aV := New.of am an
 have ao := al.ext ab
 have aX := am.more ab
 have aY := aR.up ab.size
 refine sqv aT rfl (r_assign rfl) fun _ aZ => sqv aZ rfl (r_assign rfl) fun _ hA23 => sq_end ?_
 have ap := hA23.kp [(1, Sl.v k), (2, .pointer (some (⟨j, 0, none⟩ : Addr))), (4, .pointer (some (⟨a, 0, none⟩ : Addr)))] rfl
 refine then_normal (wp_seq (wp_region_lit ?_))
 refine sqv ap rfl (r_loadN (cs := [.int .i64 d, .string (Bs f), .string (Bs g), Sl.v h, Sl.v i]) Tryz.underlying39 rfl ti_39 (ap.get rfl) (ao.part 0 _ rfl)) fun _ aq => sqv aq rfl (r_move (aq.get rfl)) fun _ ad => ?_
 have a1 := ai l j a aY aV aU aX
 refine sq (opk_call ad rfl (r_call (args := #[.agg #[.int .i64 d, .string (Bs f), .string (Bs g), Sl.v h, Sl.v i], Sl.v k, .func (.func 65) #[] #[]]) Tryz.func64 (by decide) rfl (map_arr (ml_cons (ad.get rfl) (ml_cons (ad.get rfl) (ml_cons rfl ml_nil)))) rfl) a1 fun bs bt u ar _ au bu a2 => ?_)
 obtain ⟨m, b, c, rfl, av⟩ := a2
 have bv := ao.kept au (.head _)
 have af := aS.kept au (.tail _ (.head _))
 refine sqv ar rfl (r_move (ar.get rfl)) fun _ ax => sqv ax rfl (r_extract (ax.get rfl) rfl) fun _ ay => sqv ay rfl (r_extract (ay.get rfl) rfl) fun _ az => sqv az rfl (r_extract (az.get rfl) rfl) fun _ aA => sqv aA rfl (r_assign (aA.get rfl)) fun _ aB => sqv aB rfl (r_assign (aB.get rfl)) fun _ aC => sqv aC rfl (r_assign (aC.get rfl)) fun _ a3 => sq_end ?_
 have aD := a3.kp [(4, .pointer (some (⟨a, 0, none⟩ : Addr))), (7, .pointer m), (8, .int .i64 b), (9, .int .i64 c)] rfl
 refine then_normal (wp_seq (wp_seq (wp_region_lit ?_)))
 refine sqv aD rfl (r_move (aD.get rfl)) fun _ aF => sqv aF rfl (r_neq (aF.get rfl) rfl) fun _ a4 => sq_end ?_
 have x := a4.kp [(4, .pointer (some (⟨a, 0, none⟩ : Addr))), (7, .pointer m), (8, .int .i64 b), (9, .int .i64 c), (18, .bool (decide (c ≠ 0)))] rfl
 refine then_normal ?_
 refine wp_cond_split (x.get rfl) (fun hc => ?_) (fun hc => ?_)
 ·have ht51 := av.1 (of_decide_eq_true hc)
  clear hc
  refine wp_seq (wp_region_lit ?_)
  refine sqv x rfl (r_build (vs := #[]) (cells := #[.int .i64 0, .string (Bs []), .string (Bs []), Sl.v Sl.nil, Sl.v Sl.nil]) (map_arr2 ml2_nil) ti_39 Tryz.underlying39 pl_39 (by kernel_rfl)) fun _ aG => sqv aG rfl (r_move (aG.get rfl)) fun _ aH => sqv aH rfl (r_move (aH.get rfl)) fun _ ag => ?_
  refine sq (opk_store ag af (r_store (vs := [.int .i64 0, .string (Bs []), .string (Bs []), Sl.v Sl.nil, Sl.v Sl.nil]) (ag.get rfl) (ag.get rfl) rfl ti_39 af rfl (ones_all _ rfl)) fun bx n a6 a7 aI => ?_)
  have a8 : Box n a 39 [.int .i64 0, .string (Bs []), .string (Bs []), Sl.v Sl.nil, Sl.v Sl.nil] := a7
  have a9 : Chg [a] u n := a6
  refine sqv aI rfl (r_assign (aI.get rfl)) fun _ aJ => sqv aJ rfl (r_assign (aJ.get rfl)) fun _ ba => sq_end ?_
  have y := ba.kp [(4, .pointer (some (⟨a, 0, none⟩ : Addr))), (5, .int .i64 b), (6, .int .i64 c)] rfl
  refine then_normal ?_
  refine wp_ret ?_
  refine then_ret ?_
  have bb := ht51 n    a9
  exact res_all (vs := [.agg #[.int .i64 0, .string (Bs []), .string (Bs []), Sl.v Sl.nil, Sl.v Sl.nil], .int .i64 b, .int .i64 c]) rfl y ⟨res_of_cell y rfl a8 Tryz.underlying39 rfl ti_39, res_of_tmp y rfl, res_of_tmp y rfl, trivial⟩ bb
 ·have bd := av.2 (of_decide_eq_false hc)
  clear hc
  refine wp_skip ?_
  refine then_normal (wp_seq (wp_region_lit ?_))
  refine sqv x rfl (r_move (x.get rfl)) fun _ aK => ?_
  refine sq (opk_call aK rfl (r_call (args := #[.pointer m]) Tryz.func66 (by decide) rfl (map_arr (ml_cons (aK.get rfl) ml_nil)) rfl) bd fun bz bA aa aL _ bf bB bg => ?_)
  obtain ⟨o, p, q, r, s, rfl, bh⟩ := bg
  have aM := af.kept bf (.head _)
  refine sqv aL rfl (r_move (aL.get rfl)) fun _ ah => ?_
  refine sq (opk_store ah aM (r_store (vs := [.int .i64 o, .string (Bs p), .string (Bs q), Sl.v r, Sl.v s]) (ah.get rfl) (ah.get rfl) rfl ti_39 aM rfl (ones_all _ rfl)) fun bC t bi bj aN => ?_)
  have bk : Box t a 39 [.int .i64 o, .string (Bs p), .string (Bs q), Sl.v r, Sl.v s] := bj
  have bl : Chg [a] aa t := bi
  refine sqv aN rfl (r_assign (aN.get rfl)) fun _ bm => sqv bm rfl (r_assign rfl) fun _ bn => sq_end ?_
  have z := bn.kp [(4, .pointer (some (⟨a, 0, none⟩ : Addr))), (5, .int .i64 b), (6, .int .i64 0)] rfl
  refine then_normal ?_
  refine wp_ret ?_
  have bo := bh t    bl
  exact res_all (vs := [.agg #[.int .i64 o, .string (Bs p), .string (Bs q), Sl.v r, Sl.v s], .int .i64 b, .int .i64 0]) rfl z ⟨res_of_cell z rfl bk Tryz.underlying39 rfl ti_39, res_of_tmp z rfl, res_of_tmp z rfl, trivial⟩ bo
def apply_calls.vc  (R : Value → World → Prop) (w : World) : Prop :=
∀ (c : World) (a : Nat), New w a c → Chg [] w c →
R (.agg #[.nilFunc, .nilFunc, .func (.func 93) #[] #[], .func (.func 95) #[] #[], .func (.func 96) #[] #[], .func (.func 98) #[] #[], .func (.func 99) #[] #[], .func (.func 101) #[] #[], .func (.func 102) #[] #[], .func (.func 104) #[] #[], .func (.func 105) #[] #[], .func (.func 107) #[] #[], .func (.func 108) #[] #[], .func (.func 110) #[] #[]]) c
theorem apply_calls.ok  {R : Value → World → Prop} {w : World} (f : apply_calls.vc  R w) : Calls Tryz.prog 52 #[] w (Ret R) := by
 refine enter [] Tryz.func52 rfl Tryz.ntmps52 rfl ?_
 intro a0 l
 unfold apply_calls.vc at f
 refine wp_seq (wp_region_lit ?_)
 refine sq (opk_new (fun B => .pointer (some ⟨B, 0, none⟩)) l rfl (r_alloc (cs := [.nilFunc, .nilFunc, .nilFunc, .nilFunc, .nilFunc, .nilFunc, .nilFunc, .nilFunc, .nilFunc, .nilFunc, .nilFunc, .nilFunc, .nilFunc, .nilFunc]) ti_97 rfl) fun a3 g a m n h o _ => ?_)
 have i : New w a g := n
 have p : Chg [] w g := m
 refine sq_end ?_
 have q := o.kp [(0, .pointer (some (⟨a, 0, none⟩ : Addr)))] rfl
 refine then_normal (wp_seq (wp_region_lit ?_))
 refine sqv q rfl (r_build (vs := #[(0, .func (.func 93) #[] #[]), (1, .func (.func 95) #[] #[])]) (cells := #[.func (.func 93) #[] #[], .func (.func 95) #[] #[]]) (map_arr2 (ml2_cons rfl (ml2_cons rfl (ml2_nil)))) ti_96 Tryz.underlying96 pl_96 (by kernel_rfl)) fun _ r => sqv r rfl (r_build (vs := #[(0, .func (.func 96) #[] #[]), (1, .func (.func 98) #[] #[])]) (cells := #[.func (.func 96) #[] #[], .func (.func 98) #[] #[]]) (map_arr2 (ml2_cons rfl (ml2_cons rfl (ml2_nil)))) ti_96 Tryz.underlying96 pl_96 (by kernel_rfl)) fun _ s => sqv s rfl (r_build (vs := #[(0, .func (.func 99) #[] #[]), (1, .func (.func 101) #[] #[])]) (cells := #[.func (.func 99) #[] #[], .func (.func 101) #[] #[]]) (map_arr2 (ml2_cons rfl (ml2_cons rfl (ml2_nil)))) ti_96 Tryz.underlying96 pl_96 (by kernel_rfl)) fun _ t => sqv t rfl (r_build (vs := #[(0, .func (.func 102) #[] #[]), (1, .func (.func 104) #[] #[])]) (cells := #[.func (.func 102) #[] #[], .func (.func 104) #[] #[]]) (map_arr2 (ml2_cons rfl (ml2_cons rfl (ml2_nil)))) ti_96 Tryz.underlying96 pl_96 (by kernel_rfl)) fun _ u => sqv u rfl (r_build (vs := #[(0, .func (.func 105) #[] #[]), (1, .func (.func 107) #[] #[])]) (cells := #[.func (.func 105) #[] #[], .func (.func 107) #[] #[]]) (map_arr2 (ml2_cons rfl (ml2_cons rfl (ml2_nil)))) ti_96 Tryz.underlying96 pl_96 (by kernel_rfl)) fun _ v => sqv v rfl (r_build (vs := #[(0, .func (.func 108) #[] #[]), (1, .func (.func 110) #[] #[])]) (cells := #[.func (.func 108) #[] #[], .func (.func 110) #[] #[]]) (map_arr2 (ml2_cons rfl (ml2_cons rfl (ml2_nil)))) ti_96 Tryz.underlying96 pl_96 (by kernel_rfl)) fun _ b => sqv b rfl (r_buildA (vs := #[(1, .agg #[.func (.func 93) #[] #[], .func (.func 95) #[] #[]]), (2, .agg #[.func (.func 96) #[] #[], .func (.func 98) #[] #[]]), (3, .agg #[.func (.func 99) #[] #[], .func (.func 101) #[] #[]]), (4, .agg #[.func (.func 102) #[] #[], .func (.func 104) #[] #[]]), (5, .agg #[.func (.func 105) #[] #[], .func (.func 107) #[] #[]]), (6, .agg #[.func (.func 108) #[] #[], .func (.func 110) #[] #[]])]) (cells := #[.nilFunc, .nilFunc, .func (.func 93) #[] #[], .func (.func 95) #[] #[], .func (.func 96) #[] #[], .func (.func 98) #[] #[], .func (.func 99) #[] #[], .func (.func 101) #[] #[], .func (.func 102) #[] #[], .func (.func 104) #[] #[], .func (.func 105) #[] #[], .func (.func 107) #[] #[], .func (.func 108) #[] #[], .func (.func 110) #[] #[]]) (map_arr2 (ml2_cons (b.get rfl) (ml2_cons (b.get rfl) (ml2_cons (b.get rfl) (ml2_cons (b.get rfl) (ml2_cons (b.get rfl) (ml2_cons (b.get rfl) (ml2_nil)))))))) ti_97 Tryz.underlying97 ti_96 (by kernel_rfl)) fun _ d => ?_
 refine sq (opk_store d h (r_store (vs := [.nilFunc, .nilFunc, .func (.func 93) #[] #[], .func (.func 95) #[] #[], .func (.func 96) #[] #[], .func (.func 98) #[] #[], .func (.func 99) #[] #[], .func (.func 101) #[] #[], .func (.func 102) #[] #[], .func (.func 104) #[] #[], .func (.func 105) #[] #[], .func (.func 107) #[] #[], .func (.func 108) #[] #[], .func (.func 110) #[] #[]]) (d.get rfl) (d.get rfl) rfl ti_97 h rfl (ones_all _ rfl)) fun ah c j x y => ?_)
 have z : Box c a 97 [.nilFunc, .nilFunc, .func (.func 93) #[] #[], .func (.func 95) #[] #[], .func (.func 96) #[] #[], .func (.func 98) #[] #[], .func (.func 99) #[] #[], .func (.func 101) #[] #[], .func (.func 102) #[] #[], .func (.func 104) #[] #[], .func (.func 105) #[] #[], .func (.func 107) #[] #[], .func (.func 108) #[] #[], .func (.func 110) #[] #[]] := x
 have aa := p.storeNew i j
 have ab := i.up j.size
 refine sq_end ?_
 have k := y.kp [(0, .pointer (some (⟨a, 0, none⟩ : Addr)))] rfl
 refine then_normal ?_
 refine wp_ret ?_
 have ad := f c a ab  aa
 exact res_all (vs := [.agg #[.nilFunc, .nilFunc, .func (.func 93) #[] #[], .func (.func 95) #[] #[], .func (.func 96) #[] #[], .func (.func 98) #[] #[], .func (.func 99) #[] #[], .func (.func 101) #[] #[], .func (.func 102) #[] #[], .func (.func 104) #[] #[], .func (.func 105) #[] #[], .func (.func 107) #[] #[], .func (.func 108) #[] #[], .func (.func 110) #[] #[]]]) rfl k ⟨res_of_cell k rfl z Tryz.underlying97 rfl ti_97, trivial⟩ ad
def apply_run.vc (z : Int) (aa : Str) (ab : Str) (ad : Sl) (af : Sl) (b : Sl) (j : Value) (R : Value → World → Prop) (w : World) : Prop :=
∀ (w5 : World) (aj : Nat), New w aj w5 → Chg [] w w5 →
CallK Tryz.prog 115 #[.agg #[.int .i64 z, .string (Bs aa), .string (Bs ab), Sl.v ad, Sl.v af]] w5 [aj] (fun v au => ∃ (d : Option Addr) (u : Int), v = .tuple #[.pointer d, .int .i64 u] ∧
((u ≠ 0) →
R (.tuple #[.pointer none, .int .i64 0, .int .i64 u]) au) ∧
((¬ (u ≠ 0)) →
((1500 < (b.n : Int)) →
R (.tuple #[.pointer none, .int .i64 0, .int .i64 2]) au) ∧
((¬ (1500 < (b.n : Int))) →
CallK Tryz.prog 52 #[] au [] (fun v am => v = .agg #[.nilFunc, .nilFunc, .func (.func 93) #[] #[], .func (.func 95) #[] #[], .func (.func 96) #[] #[], .func (.func 98) #[] #[], .func (.func 99) #[] #[], .func (.func 101) #[] #[], .func (.func 102) #[] #[], .func (.func 104) #[] #[], .func (.func 105) #[] #[], .func (.func 107) #[] #[], .func (.func 108) #[] #[], .func (.func 110) #[] #[]] ∧
∀ (ai : World) (f : Nat), New am f ai → Chg [] am ai →
∃ (an : Int → World → Prop) (av : Int → World → Nat),
an 0 ai ∧
(∀ (c : Int) (x : World), an c x →
((c < (b.n : Int)) →
((0 : Int) ≤ c ∧ c < (b.n : Int)) ∧ ∃ aJ : Addr, b.a = some aJ ∧
∃ (g : Int) (l : Int) (m : Int) (o : Int) (p : Int) (q : Str) (r : Str), (Cells x (aJ.add (c.toNat * 7)) [.int .i64 g, .int .i64 l, .int .i64 m, .int .i64 o, .int .i64 p, .string (Bs q), .string (Bs r)]) ∧
∀ (ak : World) (k : Nat), New x k ak → Chg [] x ak →
CallK Tryz.prog 24 #[.agg #[.int .i64 g, .int .i64 l, .int .i64 m, .int .i64 o, .int .i64 p, .string (Bs q), .string (Bs r)]] ak [f, k] (fun v ax => ∃ (ao : Bool), v = .bool ao ∧
((ao = false) →
R (.tuple #[.pointer none, .int .i64 c, .int .i64 15]) ax) ∧
((ao = true) →
∀ (al : World), Chg [] ax al →
((0 : Int) ≤ g ∧ g < 7) ∧
∃ (ay : FuncId) (aK aL : Array Value), ((([.nilFunc, .nilFunc, .func (.func 93) #[] #[], .func (.func 95) #[] #[], .func (.func 96) #[] #[], .func (.func 98) #[] #[], .func (.func 99) #[] #[], .func (.func 101) #[] #[], .func (.func 102) #[] #[], .func (.func 104) #[] #[], .func (.func 105) #[] #[], .func (.func 107) #[] #[], .func (.func 108) #[] #[], .func (.func 110) #[] #[]] : List Value).getD (g.toNat * 2 + 0) .nilFunc) = .func (.func ay) aK aL) ∧
∀ (ap : World), Chg [] al ap →
Body Tryz.prog ay ∧
CallK Tryz.prog ay (aK ++ #[.pointer d, .agg #[.int .i64 g, .int .i64 l, .int .i64 m, .int .i64 o, .int .i64 p, .string (Bs q), .string (Bs r)]] ++ aL) ap [f, k] (fun v aM => ∃ (y : Int), v = .int .i64 y ∧
((y ≠ 0) →
R (.tuple #[.pointer none, .int .i64 c, .int .i64 y]) aM) ∧
((¬ (y ≠ 0)) →
∃ (az : FuncId) (aN aO : Array Value), (j = .func (.func az) aN aO) ∧
Body Tryz.prog az ∧
CallK Tryz.prog az (aN ++ #[.pointer d] ++ aO) aM [f] (fun v aA => v = .tuple #[] ∧
(I64 (c + 1)) ∧
an (c + 1) aA ∧ av (c + 1) aA < av c x)))))) ∧
((¬ (c < (b.n : Int))) →
R (.tuple #[.pointer d, .int .i64 (b.n : Int), .int .i64 0]) x))))))
theorem apply_run.ok (z : Int) (aa : Str) (ab : Str) (ad : Sl) (af : Sl) (b : Sl) (j : Value) {R : Value → World → Prop} {w : World} (a2 : apply_run.vc z aa ab ad af b j R w) : Calls Tryz.prog 64 #[.agg #[.int .i64 z, .string (Bs aa), .string (Bs ab), Sl.v ad, Sl.v af], Sl.v b, j] w (Ret R) := by
 refine enter [.agg #[.int .i64 z, .string (Bs aa), .string (Bs ab), Sl.v ad, Sl.v af], Sl.v b, j] Tryz.func64 rfl Tryz.ntmps64 rfl ?_
 intro a0 a3
 unfold apply_run.vc at a2
 refine wp_seq (wp_region_lit ?_)
 refine sq (opk_new (fun B => .pointer (some ⟨B, 0, none⟩)) a3 rfl (r_box (cs := [.int .i64 z, .string (Bs aa), .string (Bs ab), Sl.v ad, Sl.v af]) (a3.get rfl) rfl) fun a6 w5 aj b6 b7 a4 b8 _ => ?_)
 have b9 : New w aj w5 := b7
 have ca : Chg [] w w5 := b6
 refine sqv b8 rfl (r_assign rfl) fun _ cb => sqv cb rfl (r_assign rfl) fun _ cc => sqv cc rfl (r_assign rfl) fun _ cd => sq_end ?_
 have a5 := cd.kp [(1, Sl.v b), (2, j), (3, .pointer (some (⟨aj, 0, none⟩ : Addr)))] rfl
 refine then_normal (wp_seq (wp_region_lit ?_))
 refine sqv a5 rfl (r_loadN (cs := [.int .i64 z, .string (Bs aa), .string (Bs ab), Sl.v ad, Sl.v af]) Tryz.underlying39 rfl ti_39 (a5.get rfl) (a4.part 0 _ rfl)) fun _ hA16 => ?_
 have cf := a2 w5 aj b9  ca
 refine sq (opk_call hA16 rfl (r_call (args := #[.agg #[.int .i64 z, .string (Bs aa), .string (Bs ab), Sl.v ad, Sl.v af]]) Tryz.func115 (by decide) rfl (map_arr (ml_cons (hA16.get rfl) ml_nil)) rfl) cf fun d8 d9 au a7 _ cg fa ch => ?_)
 obtain ⟨d, u, rfl, a8⟩ := ch
 have fb := a4.kept cg (.head _)
 refine sqv a7 rfl (r_move (a7.get rfl)) fun _ a9 => sqv a9 rfl (r_extract (a9.get rfl) rfl) fun _ ba => sqv ba rfl (r_extract (ba.get rfl) rfl) fun _ bb => sqv bb rfl (r_assign (bb.get rfl)) fun _ bd => sqv bd rfl (r_assign (bd.get rfl)) fun _ ci => sq_end ?_
 have bf := ci.kp [(1, Sl.v b), (2, j), (9, .pointer d), (10, .int .i64 u)] rfl
 refine then_normal (wp_seq (wp_block (wp_seq (wp_region_lit ?_))))
 refine sqv bf rfl (r_move (bf.get rfl)) fun _ bg => sqv bg rfl (r_neq (bg.get rfl) rfl) fun _ bh => sqv bh rfl (r_assign (bh.get rfl)) fun _ cj => sq_end ?_
 have aq := cj.kp [(1, Sl.v b), (2, j), (9, .pointer d), (10, .int .i64 u), (20, .bool (decide (u ≠ 0)))] rfl
 refine then_normal ?_
 refine wp_cond_split (aq.get rfl) (fun hc => ?_) (fun hc => ?_)
 ·have ck := a8.1 (of_decide_eq_true hc)
  clear hc
  refine wp_seq (wp_region_lit ?_)
  refine sqv aq rfl (r_move (aq.get rfl)) fun _ cl => sqv cl rfl (r_assign rfl) fun _ cm => sqv cm rfl (r_assign rfl) fun _ bi => sqv bi rfl (r_assign (bi.get rfl)) fun _ cn => sq_end ?_
  have aB := cn.kp [(6, .pointer none), (7, .int .i64 0), (8, .int .i64 u)] rfl
  refine then_normal ?_
  refine wp_ret ?_
  refine block_ret ?_
  refine then_ret ?_
  exact res_all (vs := [.pointer none, .int .i64 0, .int .i64 u]) rfl aB ⟨res_of_tmp aB rfl, res_of_tmp aB rfl, res_of_tmp aB rfl, trivial⟩ ck
 ·have bj := a8.2 (of_decide_eq_false hc)
  clear hc
  refine wp_seq (wp_region_lit ?_)
  refine sqv aq rfl (r_move (aq.get rfl)) fun _ bk => sqv bk rfl (r_len (bk.get rfl) tU23) fun _ bl => sqv bl rfl (r_gtr (bl.get rfl) rfl) fun _ bm => sqv bm rfl (r_assign (bm.get rfl)) fun _ co => sq_end ?_
  have aP := co.kp [(1, Sl.v b), (2, j), (9, .pointer d), (24, .bool (decide (1500 < (b.n : Int))))] rfl
  refine then_normal ?_
  refine wp_cond_split (aP.get rfl) (fun hc => ?_) (fun hc => ?_)
  ·have cp := bj.1 (of_decide_eq_true hc)
   clear hc
   refine wp_seq (wp_region_lit ?_)
   refine sqv aP rfl (r_assign rfl) fun _ cq => sqv cq rfl (r_assign rfl) fun _ cr => sqv cr rfl (r_assign rfl) fun _ ct => sq_end ?_
   have aC := ct.kp [(6, .pointer none), (7, .int .i64 0), (8, .int .i64 2)] rfl
   refine then_normal ?_
   refine wp_ret ?_
   refine block_ret ?_
   refine then_ret ?_
   exact res_all (vs := [.pointer none, .int .i64 0, .int .i64 2]) rfl aC ⟨res_of_tmp aC rfl, res_of_tmp aC rfl, res_of_tmp aC rfl, trivial⟩ cp
  ·have cu := bj.2 (of_decide_eq_false hc)
   clear hc
   refine wp_skip ?_
   refine block_normal ?_
   refine then_normal (wp_seq (wp_region_lit ?_))
   refine sq (opk_call aP rfl (r_call (args := #[]) Tryz.func52 (by decide) rfl (map_arr ml_nil) rfl) cu fun fc fd am cv _ ff fg cx => ?_)
   obtain ⟨rfl, cy⟩ := cx
   refine sq (opk_new (fun B => .pointer (some ⟨B, 0, none⟩)) cv rfl (r_alloc (cs := [.nilFunc, .nilFunc, .nilFunc, .nilFunc, .nilFunc, .nilFunc, .nilFunc, .nilFunc, .nilFunc, .nilFunc, .nilFunc, .nilFunc, .nilFunc, .nilFunc]) ti_97 rfl) fun fh bn f cz cA bo aQ _ => ?_)
   have bp : New am f bn := cA
   have cB : Chg [] am bn := cz
   refine sq (opk_store aQ bo (r_store (vs := [.nilFunc, .nilFunc, .func (.func 93) #[] #[], .func (.func 95) #[] #[], .func (.func 96) #[] #[], .func (.func 98) #[] #[], .func (.func 99) #[] #[], .func (.func 101) #[] #[], .func (.func 102) #[] #[], .func (.func 104) #[] #[], .func (.func 105) #[] #[], .func (.func 107) #[] #[], .func (.func 108) #[] #[], .func (.func 110) #[] #[]]) (aQ.get rfl) (aQ.get rfl) rfl ti_97 bo rfl (ones_all _ rfl)) fun fi ai bq cC cD => ?_)
   have cF : Box ai f 97 [.nilFunc, .nilFunc, .func (.func 93) #[] #[], .func (.func 95) #[] #[], .func (.func 96) #[] #[], .func (.func 98) #[] #[], .func (.func 99) #[] #[], .func (.func 101) #[] #[], .func (.func 102) #[] #[], .func (.func 104) #[] #[], .func (.func 105) #[] #[], .func (.func 107) #[] #[], .func (.func 108) #[] #[], .func (.func 110) #[] #[]] := cC
   have cG := cB.storeNew bp bq
   have cH := bp.up bq.size
   refine sq_end ?_
   have br := cD.kp [(1, Sl.v b), (2, j), (9, .pointer d), (11, .pointer (some (⟨f, 0, none⟩ : Addr)))] rfl
   refine then_normal (wp_seq (wp_seq (wp_region_lit ?_)))
   refine sqv br rfl (r_move (br.get rfl)) fun _ bs => sqv bs rfl (r_len (bs.get rfl) tU23) fun _ cI => sqv cI rfl (r_move rfl) fun _ cJ => sq_end ?_
   have cK := cJ.kp [(1, Sl.v b), (2, j), (9, .pointer d), (11, .pointer (some (⟨f, 0, none⟩ : Addr))), (29, Sl.v b), (30, .int .i64 (b.n : Int)), (31, .int .i64 0)] rfl
   refine then_normal (wp_block ?_)
   have cL := cy ai f cH  cG
   obtain ⟨an, av, cM, cN⟩ := cL
   refine wp_loop_st (σ := Int × World) (fun s a w => Ag 59 a [(1, Sl.v b), (2, j), (9, .pointer d), (11, .pointer (some (⟨f, 0, none⟩ : Addr))), (29, Sl.v b), (30, .int .i64 (b.n : Int)), (31, .int .i64 s.1)] ∧ Box w f 97 [.nilFunc, .nilFunc, .func (.func 93) #[] #[], .func (.func 95) #[] #[], .func (.func 96) #[] #[], .func (.func 98) #[] #[], .func (.func 99) #[] #[], .func (.func 101) #[] #[], .func (.func 102) #[] #[], .func (.func 104) #[] #[], .func (.func 105) #[] #[], .func (.func 107) #[] #[], .func (.func 108) #[] #[], .func (.func 110) #[] #[]] ∧ w = s.2 ∧ an s.1 s.2) (fun s => av s.1 s.2) (0, ai) ⟨cK.kp [(1, Sl.v b), (2, j), (9, .pointer d), (11, .pointer (some (⟨f, 0, none⟩ : Addr))), (29, Sl.v b), (30, .int .i64 (b.n : Int)), (31, .int .i64 0)] rfl, cF, rfl, cM⟩ ?_
   rintro ⟨c, x⟩ fj w_ ⟨aR, bt, hw_, cO⟩
   have hw_ : x = w_ := hw_.symm
   subst hw_
   have bu := cN c _ cO
   refine wp_seq (wp_region_lit ?_)
   refine sqv aR rfl (r_lss (aR.get rfl) (aR.get rfl)) fun _ cP => sq_end ?_
   have aD := cP.kp [(1, Sl.v b), (2, j), (9, .pointer d), (11, .pointer (some (⟨f, 0, none⟩ : Addr))), (29, Sl.v b), (30, .int .i64 (b.n : Int)), (31, .int .i64 c), (32, .bool (decide (c < (b.n : Int))))] rfl
   refine then_normal (wp_seq ?_)
   refine wp_cond_split (aD.get rfl) (fun hc => ?_) (fun hc => ?_)
   ·have cQ := bu.1 (of_decide_eq_true hc)
    clear hc
    refine wp_skip ?_
    refine then_normal (wp_seq (wp_block (wp_seq (wp_region_lit ?_))))
    refine sqv aD rfl (r_move (aD.get rfl)) fun _ aS => ?_
    obtain ⟨cR, aJ, cS, cT⟩ := cQ
    refine sqv aS rfl (r_indexAddr (aS.get rfl) (aS.get rfl) tU23 ti_59 cR cS) fun _ bv => ?_
    obtain ⟨g, l, m, o, p, q, r, cU, cX⟩ := cT
    refine sqv bv rfl (r_loadN Tryz.underlying59 rfl ti_59 (bv.get rfl) cU) fun _ cY => ?_
    refine sq (opk_new (fun B => .pointer (some ⟨B, 0, none⟩)) cY rfl (r_alloc (cs := [.int .i64 0, .int .i64 0, .int .i64 0, .int .i64 0, .int .i64 0, .string (Bs []), .string (Bs [])]) ti_59 rfl) fun fk bx k bz bA bB bC _ => ?_)
    have cZ : f ≠ k := Nat.ne_of_lt (Nat.lt_of_lt_of_le bt.lt bA.ge)
    have bD : New x k bx := bA
    have c0 := bt.ext bz
    have c1 : Chg [] x bx := bz
    refine sqv bC rfl (r_assign (bC.get rfl)) fun _ aT => ?_
    refine sq (opk_store aT bB (r_store (vs := [.int .i64 g, .int .i64 l, .int .i64 m, .int .i64 o, .int .i64 p, .string (Bs q), .string (Bs r)]) (aT.get rfl) (aT.get rfl) rfl ti_59 bB rfl (ones_all _ rfl)) fun fl ak aU c2 c3 => ?_)
    have bF : Box ak k 59 [.int .i64 g, .int .i64 l, .int .i64 m, .int .i64 o, .int .i64 p, .string (Bs q), .string (Bs r)] := c2
    have c4 := c0.keep aU (by simpa using cZ)
    have c5 := c1.storeNew bD aU
    have c6 := bD.up aU.size
    refine sq_end ?_
    have bG := c3.kp [(1, Sl.v b), (2, j), (9, .pointer d), (11, .pointer (some (⟨f, 0, none⟩ : Addr))), (12, .int .i64 c), (13, .pointer (some (⟨k, 0, none⟩ : Addr))), (29, Sl.v b), (30, .int .i64 (b.n : Int)), (31, .int .i64 c)] rfl
    refine then_normal (wp_seq (wp_seq (wp_region_lit ?_)))
    refine sqv bG rfl (r_loadN (cs := [.int .i64 g, .int .i64 l, .int .i64 m, .int .i64 o, .int .i64 p, .string (Bs q), .string (Bs r)]) Tryz.underlying59 rfl ti_59 (bG.get rfl) (bF.part 0 _ rfl)) fun _ bH => ?_
    have c7 := cX ak k c6  c5
    refine sq (opk_call bH rfl (r_call (args := #[.agg #[.int .i64 g, .int .i64 l, .int .i64 m, .int .i64 o, .int .i64 p, .string (Bs q), .string (Bs r)]]) Tryz.func24 (by decide) rfl (map_arr (ml_cons (bH.get rfl) ml_nil)) rfl) c7 fun fm fn ax bI _ bJ fo c8 => ?_)
    obtain ⟨ao, rfl, bK⟩ := c8
    have c9 := c4.kept bJ (.head _)
    have da := bF.kept bJ (.tail _ (.head _))
    refine sqv bI rfl (r_not (bI.get rfl)) fun _ db => sq_end ?_
    have t := db.kp [(1, Sl.v b), (2, j), (9, .pointer d), (11, .pointer (some (⟨f, 0, none⟩ : Addr))), (12, .int .i64 c), (13, .pointer (some (⟨k, 0, none⟩ : Addr))), (29, Sl.v b), (30, .int .i64 (b.n : Int)), (31, .int .i64 c), (38, .bool (!ao))] rfl
    refine then_normal ?_
    refine wp_cond_split (t.get rfl) (fun hc => ?_) (fun hc => ?_)
    ·have dc := bK.1 (b_not_t hc)
     clear hc
     refine wp_seq (wp_region_lit ?_)
     refine sqv t rfl (r_move (t.get rfl)) fun _ dd => sqv dd rfl (r_assign rfl) fun _ bL => sqv bL rfl (r_assign (bL.get rfl)) fun _ df => sqv df rfl (r_assign rfl) fun _ dg => sq_end ?_
     have aF := dg.kp [(6, .pointer none), (7, .int .i64 c), (8, .int .i64 15)] rfl
     refine then_normal ?_
     refine wp_ret ?_
     refine then_ret ?_
     refine block_ret ?_
     refine then_ret ?_
     refine then_ret ?_
     refine block_ret ?_
     refine then_ret ?_
     exact res_all (vs := [.pointer none, .int .i64 c, .int .i64 15]) rfl aF ⟨res_of_tmp aF rfl, res_of_tmp aF rfl, res_of_tmp aF rfl, trivial⟩ dc
    ·have dh := bK.2 (b_not_f hc)
     clear hc
     refine wp_skip ?_
     refine then_normal (wp_seq (wp_seq ?_))
     refine draw' (by kernel_rfl) fun al aV => ?_
     have bM := c9.ext aV
     have aX := da.ext aV
     have di : Chg [] ax al := aV
     have dj := dh al    di
     obtain ⟨bN, dk⟩ := dj
     refine par (D := [[], [0], [0, 1], [0, 1, 2], [0, 1, 2, 3], [], [], [0, 1, 2, 3, 4, 5, 6], [0, 1, 2, 3, 4, 5, 6, 7]]) (S := [0, 1, 2, 3, 4, 5, 6]) (F := []) (V := VL [(0, fun v _ => v = .pointer (some (⟨k, 0, none⟩ : Addr))), (1, fun v _ => v = .int .i64 g), (2, fun v _ => v = .pointer (some ((⟨f, 0, none⟩ : Addr).add (g.toNat * 2)))), (3, fun v _ => v = .pointer (some (((⟨f, 0, none⟩ : Addr).add (g.toNat * 2)).add 0))), (4, fun v _ => v = (([.nilFunc, .nilFunc, .func (.func 93) #[] #[], .func (.func 95) #[] #[], .func (.func 96) #[] #[], .func (.func 98) #[] #[], .func (.func 99) #[] #[], .func (.func 101) #[] #[], .func (.func 102) #[] #[], .func (.func 104) #[] #[], .func (.func 105) #[] #[], .func (.func 107) #[] #[], .func (.func 108) #[] #[], .func (.func 110) #[] #[]] : List Value).getD (g.toNat * 2 + 0) .nilFunc)), (5, fun v _ => v = .pointer d), (6, fun v _ => v = .agg #[.int .i64 g, .int .i64 l, .int .i64 m, .int .i64 o, .int .i64 p, .string (Bs q), .string (Bs r)])]) t (by kernel_rfl) ⟨fun _ _ _ _ h => h, fun _ _ _ _ h => h, fun _ _ _ _ h => h, fun _ _ _ _ h => h, fun _ _ _ _ h => h, fun _ _ _ _ h => h, fun _ _ _ _ h => h, trivial⟩ ⟨?_, ?_, ?_, ?_, ?_, ?_, ?_, trivial⟩ ?_
     ·intro a w hT
      have hAp := hT.ag t [(13, .pointer (some (⟨k, 0, none⟩ : Addr)))] ⟨rfl, trivial⟩ (by kernel_rfl)
      exact ovr hAp rfl (r_fieldAddr (hAp.get rfl) Tryz.underlying59 rfl ti_3 (by decide)) fun _ => Eq.refl _
     ·intro a w hT
      have hAp := hT.ag t [] trivial (by kernel_rfl)
      have dl : a.tmps.getD 40 undef = .pointer (some (⟨k, 0, none⟩ : Addr)) := hT.vals 0 rfl 40 rfl
      have hAp := hAp.add dl
      exact ovr hAp rfl (r_load1 tU3 rfl (hAp.get rfl) ((aX.ext hT.chg).cell 0 _ rfl)) fun _ => Eq.refl _
     ·intro a w hT
      have hAp := hT.ag t [(11, .pointer (some (⟨f, 0, none⟩ : Addr)))] ⟨rfl, trivial⟩ (by kernel_rfl)
      have dm : a.tmps.getD 41 undef = .int .i64 g := hT.vals 1 rfl 41 rfl
      have hAp := hAp.add dm
      exact ovr hAp rfl (r_indexAddrA (hAp.get rfl) (hAp.get rfl) Tryz.underlying97 ti_96 bN) fun _ => Eq.refl _
     ·intro a w hT
      have hAp := hT.ag t [] trivial (by kernel_rfl)
      have dn : a.tmps.getD 42 undef = .pointer (some ((⟨f, 0, none⟩ : Addr).add (g.toNat * 2))) := hT.vals 2 rfl 42 rfl
      have hAp := hAp.add dn
      exact ovr hAp rfl (r_fieldAddr (hAp.get rfl) Tryz.underlying96 rfl ti_93 (by decide)) fun _ => Eq.refl _
     ·intro a w hT
      have hAp := hT.ag t [] trivial (by kernel_rfl)
      have dp : a.tmps.getD 43 undef = .pointer (some (((⟨f, 0, none⟩ : Addr).add (g.toNat * 2)).add 0)) := hT.vals 3 rfl 43 rfl
      have hAp := hAp.add dp
      exact ovr hAp rfl (r_load1 Tryz.underlying93 rfl (hAp.get rfl) (Box.cellAt (bM.ext hT.chg) rfl bN (by decide))) fun _ => Eq.refl _
     ·intro a w hT
      have hAp := hT.ag t [(9, .pointer d)] ⟨rfl, trivial⟩ (by kernel_rfl)
      exact ovr hAp rfl (r_move (hAp.get rfl)) fun _ => Eq.refl _
     ·intro a w hT
      have hAp := hT.ag t [(13, .pointer (some (⟨k, 0, none⟩ : Addr)))] ⟨rfl, trivial⟩ (by kernel_rfl)
      exact ovr hAp rfl (r_loadN (cs := [.int .i64 g, .int .i64 l, .int .i64 m, .int .i64 o, .int .i64 p, .string (Bs q), .string (Bs r)]) Tryz.underlying59 rfl ti_59 (hAp.get rfl) ((aX.ext hT.chg).part 0 _ rfl)) fun _ => Eq.refl _
     ·intro aY ap aZ dq hv304
      have dr := dq [(1, Sl.v b), (2, j), (9, .pointer d), (11, .pointer (some (⟨f, 0, none⟩ : Addr))), (12, .int .i64 c), (29, Sl.v b), (30, .int .i64 (b.n : Int)), (31, .int .i64 c)] ⟨rfl, rfl, rfl, rfl, rfl, rfl, rfl, rfl, trivial⟩ (by kernel_rfl)
      have ds : aY.tmps.getD 44 undef = (([.nilFunc, .nilFunc, .func (.func 93) #[] #[], .func (.func 95) #[] #[], .func (.func 96) #[] #[], .func (.func 98) #[] #[], .func (.func 99) #[] #[], .func (.func 101) #[] #[], .func (.func 102) #[] #[], .func (.func 104) #[] #[], .func (.func 105) #[] #[], .func (.func 107) #[] #[], .func (.func 108) #[] #[], .func (.func 110) #[] #[]] : List Value).getD (g.toNat * 2 + 0) .nilFunc) := hv304 4 rfl 44 rfl
      have dt := dr.add ds
      have du : aY.tmps.getD 45 undef = .pointer d := hv304 5 rfl 45 rfl
      have dv := dt.add du
      have dx : aY.tmps.getD 46 undef = .agg #[.int .i64 g, .int .i64 l, .int .i64 m, .int .i64 o, .int .i64 p, .string (Bs q), .string (Bs r)] := hv304 6 rfl 46 rfl
      have aG := dv.add dx
      have dy := bM.ext aZ
      have dz := aX.ext aZ
      have dA : Chg [] al ap := aZ
      obtain ⟨ay, aK, aL, dB, dC⟩ := dk
      have dD := dC ap    dA
      obtain ⟨dF, dG⟩ := dD
      refine one (D := [[], [0], [0, 1], [0, 1, 2], [0, 1, 2, 3], [], [], [0, 1, 2, 3, 4, 5, 6], [0, 1, 2, 3, 4, 5, 6, 7]]) (i := 7) rfl (by kernel_rfl) (opk_call aG rfl (r_callO (args := #[.pointer d, .agg #[.int .i64 g, .int .i64 l, .int .i64 m, .int .i64 o, .int .i64 p, .string (Bs q), .string (Bs r)]]) dF (map_arr (ml_cons (aG.get rfl) (ml_cons (aG.get rfl) ml_nil))) (((aG.get rfl)).trans dB)) dG fun fp fq aM bO _ bP fr dH => ?_)
      obtain ⟨y, rfl, bQ⟩ := dH
      have dI := dy.kept bP (.head _)
      have fs := dz.kept bP (.tail _ (.head _))
      refine one (D := [[], [0], [0, 1], [0, 1, 2], [0, 1, 2, 3], [], [], [0, 1, 2, 3, 4, 5, 6], [0, 1, 2, 3, 4, 5, 6, 7]]) (i := 8) rfl (by kernel_rfl) (opk_val bO rfl (r_assign (bO.get rfl)) fun ft dJ _ => ?_)
      refine PR_end (by kernel_rfl) ?_
      have bR := dJ.kp [(1, Sl.v b), (2, j), (9, .pointer d), (11, .pointer (some (⟨f, 0, none⟩ : Addr))), (12, .int .i64 c), (14, .int .i64 y), (29, Sl.v b), (30, .int .i64 (b.n : Int)), (31, .int .i64 c)] rfl
      refine then_normal (wp_seq (wp_region_lit ?_))
      refine sqv bR rfl (r_move (bR.get rfl)) fun _ bS => sqv bS rfl (r_neq (bS.get rfl) rfl) fun _ dK => sq_end ?_
      have ar := dK.kp [(1, Sl.v b), (2, j), (9, .pointer d), (11, .pointer (some (⟨f, 0, none⟩ : Addr))), (12, .int .i64 c), (14, .int .i64 y), (29, Sl.v b), (30, .int .i64 (b.n : Int)), (31, .int .i64 c), (49, .bool (decide (y ≠ 0)))] rfl
      refine then_normal ?_
      refine wp_cond_split (ar.get rfl) (fun hc => ?_) (fun hc => ?_)
      ·have dL := bQ.1 (of_decide_eq_true hc)
       clear hc
       refine wp_seq (wp_region_lit ?_)
       refine sqv ar rfl (r_move (ar.get rfl)) fun _ bT => sqv bT rfl (r_move (bT.get rfl)) fun _ dM => sqv dM rfl (r_assign rfl) fun _ bU => sqv bU rfl (r_assign (bU.get rfl)) fun _ bV => sqv bV rfl (r_assign (bV.get rfl)) fun _ dN => sq_end ?_
       have aH := dN.kp [(6, .pointer none), (7, .int .i64 c), (8, .int .i64 y)] rfl
       refine then_normal ?_
       refine wp_ret ?_
       refine then_ret ?_
       refine block_ret ?_
       refine then_ret ?_
       refine then_ret ?_
       refine block_ret ?_
       refine then_ret ?_
       exact res_all (vs := [.pointer none, .int .i64 c, .int .i64 y]) rfl aH ⟨res_of_tmp aH rfl, res_of_tmp aH rfl, res_of_tmp aH rfl, trivial⟩ dL
      ·have dO := bQ.2 (of_decide_eq_false hc)
       clear hc
       refine wp_skip ?_
       refine then_normal (wp_region_lit ?_)
       refine sqv ar rfl (r_move (ar.get rfl)) fun _ bX => sqv bX rfl (r_move (bX.get rfl)) fun _ a1 => ?_
       obtain ⟨az, aN, aO, dP, dQ⟩ := dO
       obtain ⟨dR, dS⟩ := dQ
       refine sq (opk_call a1 rfl (r_callO (args := #[.pointer d]) dR (map_arr (ml_cons (a1.get rfl) ml_nil)) (((a1.get rfl)).trans dP)) dS fun fu fv aA dT _ dU fx dV => ?_)
       obtain ⟨rfl, dX⟩ := dV
       have dY := dI.kept dU (.head _)
       refine sq_end ?_
       have bY := dT.kp [(1, Sl.v b), (2, j), (9, .pointer d), (11, .pointer (some (⟨f, 0, none⟩ : Addr))), (29, Sl.v b), (30, .int .i64 (b.n : Int)), (31, .int .i64 c)] rfl
       refine block_normal ?_
       refine then_normal (wp_region_lit ?_)
       obtain ⟨dZ, bZ⟩ := dX
       refine sqv bY rfl (r_addI (bY.get rfl) rfl dZ) fun _ b0 => sqv b0 rfl (r_move (b0.get rfl)) fun _ d0 => sq_end ?_
       have d1 := d0.kp [(1, Sl.v b), (2, j), (9, .pointer d), (11, .pointer (some (⟨f, 0, none⟩ : Addr))), (29, Sl.v b), (30, .int .i64 (b.n : Int)), (31, .int .i64 (c + 1))] rfl
       have d2 := d1.kp [(1, Sl.v b), (2, j), (9, .pointer d), (11, .pointer (some (⟨f, 0, none⟩ : Addr))), (29, Sl.v b), (30, .int .i64 (b.n : Int)), (31, .int .i64 (c + 1))] rfl
       exact then_normal ⟨(c + 1, aA), ⟨d2, dY, rfl, bZ.1⟩, bZ.2⟩
   ·have d3 := bu.2 (of_decide_eq_false hc)
    clear hc
    refine wp_exit ?_
    refine then_exit ?_
    refine then_exit ?_
    refine block_hit ?_
    have b1 := aD.kp [(1, Sl.v b), (9, .pointer d)] rfl
    refine then_normal (wp_seq (wp_region_lit ?_))
    refine sqv b1 rfl (r_move (b1.get rfl)) fun _ b2 => sqv b2 rfl (r_move (b2.get rfl)) fun _ b3 => sqv b3 rfl (r_len (b3.get rfl) tU23) fun _ b4 => sqv b4 rfl (r_assign (b4.get rfl)) fun _ b5 => sqv b5 rfl (r_assign (b5.get rfl)) fun _ d4 => sqv d4 rfl (r_assign rfl) fun _ d5 => sq_end ?_
    have aI := d5.kp [(6, .pointer d), (7, .int .i64 (b.n : Int)), (8, .int .i64 0)] rfl
    refine then_normal ?_
    refine wp_ret ?_
    exact res_all (vs := [.pointer d, .int .i64 (b.n : Int), .int .i64 0]) rfl aI ⟨res_of_tmp aI rfl, res_of_tmp aI rfl, res_of_tmp aI rfl, trivial⟩ d3
def apply_calls_4.vc (d : Int) (f : Int) (g : Int) (h : Int) (i : Int) (j : Str) (k : Str) (R : Value → World → Prop) (w : World) : Prop :=
∀ (b : World) (c : Nat) (a : Nat), New w c b → New w a b → c ≠ a → Chg [] w b →
R (.agg #[.int .i64 0, .int .i64 0, .int .i64 0, .int .i64 0, .int .i64 0, .string (Bs []), .string (Bs [])]) b
theorem apply_calls_4.ok (d : Int) (f : Int) (g : Int) (h : Int) (i : Int) (j : Str) (k : Str) {R : Value → World → Prop} {w : World} (o : apply_calls_4.vc d f g h i j k R w) : Calls Tryz.prog 98 #[.agg #[.int .i64 d, .int .i64 f, .int .i64 g, .int .i64 h, .int .i64 i, .string (Bs j), .string (Bs k)]] w (Ret R) := by
 refine enter [.agg #[.int .i64 d, .int .i64 f, .int .i64 g, .int .i64 h, .int .i64 i, .string (Bs j), .string (Bs k)]] Tryz.func98 rfl Tryz.ntmps98 rfl ?_
 intro a0 p
 unfold apply_calls_4.vc at o
 refine wp_seq (wp_region_lit ?_)
 refine sq (opk_new (fun B => .pointer (some ⟨B, 0, none⟩)) p rfl (r_box (cs := [.int .i64 d, .int .i64 f, .int .i64 g, .int .i64 h, .int .i64 i, .string (Bs j), .string (Bs k)]) (p.get rfl) rfl) fun a4 q c y z r aa _ => ?_)
 have ab : New w c q := z
 have s : Chg [] w q := y
 refine sq (opk_new (fun B => .pointer (some ⟨B, 0, none⟩)) aa rfl (r_alloc (cs := [.int .i64 0, .int .i64 0, .int .i64 0, .int .i64 0, .int .i64 0, .string (Bs []), .string (Bs [])]) ti_59 rfl) fun au av a l t u ad _ => ?_)
 have af : c ≠ a := Nat.ne_of_lt (Nat.lt_of_lt_of_le r.lt t.ge)
 have v := New.of s t
 have ax := r.ext l
 have ag := s.more l
 have ah := ab.up l.size
 refine sq_end ?_
 have ai := ad.kp [(2, .pointer (some (⟨a, 0, none⟩ : Addr)))] rfl
 refine then_normal (wp_seq (wp_region_lit ?_))
 refine sqv ai rfl (r_build (vs := #[]) (cells := #[.int .i64 0, .int .i64 0, .int .i64 0, .int .i64 0, .int .i64 0, .string (Bs []), .string (Bs [])]) (map_arr2 ml2_nil) ti_59 Tryz.underlying59 pl_59 (by kernel_rfl)) fun _ m => ?_
 refine sq (opk_store m u (r_store (vs := [.int .i64 0, .int .i64 0, .int .i64 0, .int .i64 0, .int .i64 0, .string (Bs []), .string (Bs [])]) (m.get rfl) (m.get rfl) rfl ti_59 u rfl (ones_all _ rfl)) fun ay b n aj ak => ?_)
 have al : Box b a 59 [.int .i64 0, .int .i64 0, .int .i64 0, .int .i64 0, .int .i64 0, .string (Bs []), .string (Bs [])] := aj
 have am := ag.storeNew v n
 have an := ah.up n.size
 have ao := v.up n.size
 refine sq_end ?_
 have x := ak.kp [(2, .pointer (some (⟨a, 0, none⟩ : Addr)))] rfl
 refine then_normal ?_
 refine wp_ret ?_
 have ap := o b c a an ao af am
 exact res_all (vs := [.agg #[.int .i64 0, .int .i64 0, .int .i64 0, .int .i64 0, .int .i64 0, .string (Bs []), .string (Bs [])]]) rfl x ⟨res_of_cell x rfl al Tryz.underlying59 rfl ti_59, trivial⟩ ap
def apply_calls_6.vc (g : Int) (h : Int) (a : Int) (b : Int) (i : Int) (j : Str) (k : Str) (R : Value → World → Prop) (w : World) : Prop :=
∀ (d : World) (f : Nat) (c : Nat), New w f d → New w c d → f ≠ c → Chg [] w d →
R (.agg #[.int .i64 0, .int .i64 0, .int .i64 a, .int .i64 b, .int .i64 0, .string (Bs []), .string (Bs [])]) d
theorem apply_calls_6.ok (g : Int) (h : Int) (a : Int) (b : Int) (i : Int) (j : Str) (k : Str) {R : Value → World → Prop} {w : World} (q : apply_calls_6.vc g h a b i j k R w) : Calls Tryz.prog 101 #[.agg #[.int .i64 g, .int .i64 h, .int .i64 a, .int .i64 b, .int .i64 i, .string (Bs j), .string (Bs k)]] w (Ret R) := by
 refine enter [.agg #[.int .i64 g, .int .i64 h, .int .i64 a, .int .i64 b, .int .i64 i, .string (Bs j), .string (Bs k)]] Tryz.func101 rfl Tryz.ntmps101 rfl ?_
 intro a0 r
 unfold apply_calls_6.vc at q
 refine wp_seq (wp_region_lit ?_)
 refine sq (opk_new (fun B => .pointer (some ⟨B, 0, none⟩)) r rfl (r_box (cs := [.int .i64 g, .int .i64 h, .int .i64 a, .int .i64 b, .int .i64 i, .string (Bs j), .string (Bs k)]) (r.get rfl) rfl) fun a4 s f ah ai t aj _ => ?_)
 have ak : New w f s := ai
 have u : Chg [] w s := ah
 refine sq (opk_new (fun B => .pointer (some ⟨B, 0, none⟩)) aj rfl (r_alloc (cs := [.int .i64 0, .int .i64 0, .int .i64 0, .int .i64 0, .int .i64 0, .string (Bs []), .string (Bs [])]) ti_59 rfl) fun aA aB c m v x al _ => ?_)
 have y : f ≠ c := Nat.ne_of_lt (Nat.lt_of_lt_of_le t.lt v.ge)
 have z := New.of u v
 have n := t.ext m
 have am := u.more m
 have an := ak.up m.size
 refine sq_end ?_
 have aa := al.kp [(1, .pointer (some (⟨f, 0, none⟩ : Addr))), (2, .pointer (some (⟨c, 0, none⟩ : Addr)))] rfl
 refine then_normal (wp_seq (wp_region_lit ?_))
 refine sqv aa rfl (r_fieldAddr (aa.get rfl) Tryz.underlying59 rfl ti_3 (by decide)) fun _ ab => sqv ab rfl (r_load1 tU3 rfl (ab.get rfl) (n.cell 2 _ rfl)) fun _ ad => sqv ad rfl (r_fieldAddr (ad.get rfl) Tryz.underlying59 rfl ti_3 (by decide)) fun _ af => sqv af rfl (r_load1 tU3 rfl (af.get rfl) (n.cell 3 _ rfl)) fun _ o => sqv o rfl (r_build (vs := #[(2, .int .i64 a), (3, .int .i64 b)]) (cells := #[.int .i64 0, .int .i64 0, .int .i64 a, .int .i64 b, .int .i64 0, .string (Bs []), .string (Bs [])]) (map_arr2 (ml2_cons (o.get rfl) (ml2_cons (o.get rfl) (ml2_nil)))) ti_59 Tryz.underlying59 pl_59 (by kernel_rfl)) fun _ p => ?_
 refine sq (opk_store p x (r_store (vs := [.int .i64 0, .int .i64 0, .int .i64 a, .int .i64 b, .int .i64 0, .string (Bs []), .string (Bs [])]) (p.get rfl) (p.get rfl) rfl ti_59 x rfl (ones_all _ rfl)) fun aC d l ao ap => ?_)
 have aq : Box d c 59 [.int .i64 0, .int .i64 0, .int .i64 a, .int .i64 b, .int .i64 0, .string (Bs []), .string (Bs [])] := ao
 have aD := n.keep l (by simpa using y)
 have ar := am.storeNew z l
 have au := an.up l.size
 have av := z.up l.size
 refine sq_end ?_
 have ag := ap.kp [(2, .pointer (some (⟨c, 0, none⟩ : Addr)))] rfl
 refine then_normal ?_
 refine wp_ret ?_
 have ax := q d f c au av y ar
 exact res_all (vs := [.agg #[.int .i64 0, .int .i64 0, .int .i64 a, .int .i64 b, .int .i64 0, .string (Bs []), .string (Bs [])]]) rfl ag ⟨res_of_cell ag rfl aq Tryz.underlying59 rfl ti_59, trivial⟩ ax
def apply_calls_8.vc (g : Int) (h : Int) (i : Int) (j : Int) (k : Int) (a : Str) (b : Str) (R : Value → World → Prop) (w : World) : Prop :=
∀ (d : World) (f : Nat) (c : Nat), New w f d → New w c d → f ≠ c → Chg [] w d →
R (.agg #[.int .i64 0, .int .i64 0, .int .i64 0, .int .i64 0, .int .i64 0, .string (Bs a), .string (Bs b)]) d
theorem apply_calls_8.ok (g : Int) (h : Int) (i : Int) (j : Int) (k : Int) (a : Str) (b : Str) {R : Value → World → Prop} {w : World} (q : apply_calls_8.vc g h i j k a b R w) : Calls Tryz.prog 104 #[.agg #[.int .i64 g, .int .i64 h, .int .i64 i, .int .i64 j, .int .i64 k, .string (Bs a), .string (Bs b)]] w (Ret R) := by
 refine enter [.agg #[.int .i64 g, .int .i64 h, .int .i64 i, .int .i64 j, .int .i64 k, .string (Bs a), .string (Bs b)]] Tryz.func104 rfl Tryz.ntmps104 rfl ?_
 intro a0 r
 unfold apply_calls_8.vc at q
 refine wp_seq (wp_region_lit ?_)
 refine sq (opk_new (fun B => .pointer (some ⟨B, 0, none⟩)) r rfl (r_box (cs := [.int .i64 g, .int .i64 h, .int .i64 i, .int .i64 j, .int .i64 k, .string (Bs a), .string (Bs b)]) (r.get rfl) rfl) fun a4 s f ah ai t aj _ => ?_)
 have ak : New w f s := ai
 have u : Chg [] w s := ah
 refine sq (opk_new (fun B => .pointer (some ⟨B, 0, none⟩)) aj rfl (r_alloc (cs := [.int .i64 0, .int .i64 0, .int .i64 0, .int .i64 0, .int .i64 0, .string (Bs []), .string (Bs [])]) ti_59 rfl) fun aA aB c m v x al _ => ?_)
 have y : f ≠ c := Nat.ne_of_lt (Nat.lt_of_lt_of_le t.lt v.ge)
 have z := New.of u v
 have n := t.ext m
 have am := u.more m
 have an := ak.up m.size
 refine sq_end ?_
 have aa := al.kp [(1, .pointer (some (⟨f, 0, none⟩ : Addr))), (2, .pointer (some (⟨c, 0, none⟩ : Addr)))] rfl
 refine then_normal (wp_seq (wp_region_lit ?_))
 refine sqv aa rfl (r_fieldAddr (aa.get rfl) Tryz.underlying59 rfl ti_9 (by decide)) fun _ ab => sqv ab rfl (r_load1 tU9 rfl (ab.get rfl) (n.cell 5 _ rfl)) fun _ ad => sqv ad rfl (r_fieldAddr (ad.get rfl) Tryz.underlying59 rfl ti_9 (by decide)) fun _ af => sqv af rfl (r_load1 tU9 rfl (af.get rfl) (n.cell 6 _ rfl)) fun _ o => sqv o rfl (r_build (vs := #[(5, .string (Bs a)), (6, .string (Bs b))]) (cells := #[.int .i64 0, .int .i64 0, .int .i64 0, .int .i64 0, .int .i64 0, .string (Bs a), .string (Bs b)]) (map_arr2 (ml2_cons (o.get rfl) (ml2_cons (o.get rfl) (ml2_nil)))) ti_59 Tryz.underlying59 pl_59 (by kernel_rfl)) fun _ p => ?_
 refine sq (opk_store p x (r_store (vs := [.int .i64 0, .int .i64 0, .int .i64 0, .int .i64 0, .int .i64 0, .string (Bs a), .string (Bs b)]) (p.get rfl) (p.get rfl) rfl ti_59 x rfl (ones_all _ rfl)) fun aC d l ao ap => ?_)
 have aq : Box d c 59 [.int .i64 0, .int .i64 0, .int .i64 0, .int .i64 0, .int .i64 0, .string (Bs a), .string (Bs b)] := ao
 have aD := n.keep l (by simpa using y)
 have ar := am.storeNew z l
 have au := an.up l.size
 have av := z.up l.size
 refine sq_end ?_
 have ag := ap.kp [(2, .pointer (some (⟨c, 0, none⟩ : Addr)))] rfl
 refine then_normal ?_
 refine wp_ret ?_
 have ax := q d f c au av y ar
 exact res_all (vs := [.agg #[.int .i64 0, .int .i64 0, .int .i64 0, .int .i64 0, .int .i64 0, .string (Bs a), .string (Bs b)]]) rfl ag ⟨res_of_cell ag rfl aq Tryz.underlying59 rfl ti_59, trivial⟩ ax
def apply_calls_10.vc (f : Int) (g : Int) (h : Int) (i : Int) (j : Int) (a : Str) (k : Str) (R : Value → World → Prop) (w : World) : Prop :=
∀ (c : World) (d : Nat) (b : Nat), New w d c → New w b c → d ≠ b → Chg [] w c →
R (.agg #[.int .i64 0, .int .i64 0, .int .i64 0, .int .i64 0, .int .i64 0, .string (Bs a), .string (Bs [])]) c
theorem apply_calls_10.ok (f : Int) (g : Int) (h : Int) (i : Int) (j : Int) (a : Str) (k : Str) {R : Value → World → Prop} {w : World} (o : apply_calls_10.vc f g h i j a k R w) : Calls Tryz.prog 107 #[.agg #[.int .i64 f, .int .i64 g, .int .i64 h, .int .i64 i, .int .i64 j, .string (Bs a), .string (Bs k)]] w (Ret R) := by
 refine enter [.agg #[.int .i64 f, .int .i64 g, .int .i64 h, .int .i64 i, .int .i64 j, .string (Bs a), .string (Bs k)]] Tryz.func107 rfl Tryz.ntmps107 rfl ?_
 intro a0 p
 unfold apply_calls_10.vc at o
 refine wp_seq (wp_region_lit ?_)
 refine sq (opk_new (fun B => .pointer (some ⟨B, 0, none⟩)) p rfl (r_box (cs := [.int .i64 f, .int .i64 g, .int .i64 h, .int .i64 i, .int .i64 j, .string (Bs a), .string (Bs k)]) (p.get rfl) rfl) fun a4 q d af ag r ah _ => ?_)
 have ai : New w d q := ag
 have s : Chg [] w q := af
 refine sq (opk_new (fun B => .pointer (some ⟨B, 0, none⟩)) ah rfl (r_alloc (cs := [.int .i64 0, .int .i64 0, .int .i64 0, .int .i64 0, .int .i64 0, .string (Bs []), .string (Bs [])]) ti_59 rfl) fun ay az b m t u aj _ => ?_)
 have v : d ≠ b := Nat.ne_of_lt (Nat.lt_of_lt_of_le r.lt t.ge)
 have x := New.of s t
 have y := r.ext m
 have ak := s.more m
 have al := ai.up m.size
 refine sq_end ?_
 have z := aj.kp [(1, .pointer (some (⟨d, 0, none⟩ : Addr))), (2, .pointer (some (⟨b, 0, none⟩ : Addr)))] rfl
 refine then_normal (wp_seq (wp_region_lit ?_))
 refine sqv z rfl (r_fieldAddr (z.get rfl) Tryz.underlying59 rfl ti_9 (by decide)) fun _ aa => sqv aa rfl (r_load1 tU9 rfl (aa.get rfl) (y.cell 5 _ rfl)) fun _ ab => sqv ab rfl (r_build (vs := #[(5, .string (Bs a))]) (cells := #[.int .i64 0, .int .i64 0, .int .i64 0, .int .i64 0, .int .i64 0, .string (Bs a), .string (Bs [])]) (map_arr2 (ml2_cons (ab.get rfl) (ml2_nil))) ti_59 Tryz.underlying59 pl_59 (by kernel_rfl)) fun _ n => ?_
 refine sq (opk_store n u (r_store (vs := [.int .i64 0, .int .i64 0, .int .i64 0, .int .i64 0, .int .i64 0, .string (Bs a), .string (Bs [])]) (n.get rfl) (n.get rfl) rfl ti_59 u rfl (ones_all _ rfl)) fun aA c l am an => ?_)
 have ao : Box c b 59 [.int .i64 0, .int .i64 0, .int .i64 0, .int .i64 0, .int .i64 0, .string (Bs a), .string (Bs [])] := am
 have aB := y.keep l (by simpa using v)
 have ap := ak.storeNew x l
 have aq := al.up l.size
 have ar := x.up l.size
 refine sq_end ?_
 have ad := an.kp [(2, .pointer (some (⟨b, 0, none⟩ : Addr)))] rfl
 refine then_normal ?_
 refine wp_ret ?_
 have au := o c d b aq ar v ap
 exact res_all (vs := [.agg #[.int .i64 0, .int .i64 0, .int .i64 0, .int .i64 0, .int .i64 0, .string (Bs a), .string (Bs [])]]) rfl ad ⟨res_of_cell ad rfl ao Tryz.underlying59 rfl ti_59, trivial⟩ au
def apply_calls_12.vc (f : Int) (g : Int) (h : Int) (i : Int) (j : Int) (k : Str) (a : Str) (R : Value → World → Prop) (w : World) : Prop :=
∀ (c : World) (d : Nat) (b : Nat), New w d c → New w b c → d ≠ b → Chg [] w c →
R (.agg #[.int .i64 0, .int .i64 0, .int .i64 0, .int .i64 0, .int .i64 0, .string (Bs []), .string (Bs a)]) c
theorem apply_calls_12.ok (f : Int) (g : Int) (h : Int) (i : Int) (j : Int) (k : Str) (a : Str) {R : Value → World → Prop} {w : World} (o : apply_calls_12.vc f g h i j k a R w) : Calls Tryz.prog 110 #[.agg #[.int .i64 f, .int .i64 g, .int .i64 h, .int .i64 i, .int .i64 j, .string (Bs k), .string (Bs a)]] w (Ret R) := by
 refine enter [.agg #[.int .i64 f, .int .i64 g, .int .i64 h, .int .i64 i, .int .i64 j, .string (Bs k), .string (Bs a)]] Tryz.func110 rfl Tryz.ntmps110 rfl ?_
 intro a0 p
 unfold apply_calls_12.vc at o
 refine wp_seq (wp_region_lit ?_)
 refine sq (opk_new (fun B => .pointer (some ⟨B, 0, none⟩)) p rfl (r_box (cs := [.int .i64 f, .int .i64 g, .int .i64 h, .int .i64 i, .int .i64 j, .string (Bs k), .string (Bs a)]) (p.get rfl) rfl) fun a4 q d af ag r ah _ => ?_)
 have ai : New w d q := ag
 have s : Chg [] w q := af
 refine sq (opk_new (fun B => .pointer (some ⟨B, 0, none⟩)) ah rfl (r_alloc (cs := [.int .i64 0, .int .i64 0, .int .i64 0, .int .i64 0, .int .i64 0, .string (Bs []), .string (Bs [])]) ti_59 rfl) fun ay az b m t u aj _ => ?_)
 have v : d ≠ b := Nat.ne_of_lt (Nat.lt_of_lt_of_le r.lt t.ge)
 have x := New.of s t
 have y := r.ext m
 have ak := s.more m
 have al := ai.up m.size
 refine sq_end ?_
 have z := aj.kp [(1, .pointer (some (⟨d, 0, none⟩ : Addr))), (2, .pointer (some (⟨b, 0, none⟩ : Addr)))] rfl
 refine then_normal (wp_seq (wp_region_lit ?_))
 refine sqv z rfl (r_fieldAddr (z.get rfl) Tryz.underlying59 rfl ti_9 (by decide)) fun _ aa => sqv aa rfl (r_load1 tU9 rfl (aa.get rfl) (y.cell 6 _ rfl)) fun _ ab => sqv ab rfl (r_build (vs := #[(6, .string (Bs a))]) (cells := #[.int .i64 0, .int .i64 0, .int .i64 0, .int .i64 0, .int .i64 0, .string (Bs []), .string (Bs a)]) (map_arr2 (ml2_cons (ab.get rfl) (ml2_nil))) ti_59 Tryz.underlying59 pl_59 (by kernel_rfl)) fun _ n => ?_
 refine sq (opk_store n u (r_store (vs := [.int .i64 0, .int .i64 0, .int .i64 0, .int .i64 0, .int .i64 0, .string (Bs []), .string (Bs a)]) (n.get rfl) (n.get rfl) rfl ti_59 u rfl (ones_all _ rfl)) fun aA c l am an => ?_)
 have ao : Box c b 59 [.int .i64 0, .int .i64 0, .int .i64 0, .int .i64 0, .int .i64 0, .string (Bs []), .string (Bs a)] := am
 have aB := y.keep l (by simpa using v)
 have ap := ak.storeNew x l
 have aq := al.up l.size
 have ar := x.up l.size
 refine sq_end ?_
 have ad := an.kp [(2, .pointer (some (⟨b, 0, none⟩ : Addr)))] rfl
 refine then_normal ?_
 refine wp_ret ?_
 have au := o c d b aq ar v ap
 exact res_all (vs := [.agg #[.int .i64 0, .int .i64 0, .int .i64 0, .int .i64 0, .int .i64 0, .string (Bs []), .string (Bs a)]]) rfl ad ⟨res_of_cell ad rfl ao Tryz.underlying59 rfl ti_59, trivial⟩ au
end Go.Proofs.YteacalmdpoblpaaGreat
