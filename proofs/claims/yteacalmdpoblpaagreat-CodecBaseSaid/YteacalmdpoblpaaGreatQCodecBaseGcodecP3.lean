/-
  PRINTED BY PROGRAM: for each function its condition (vc), and that this suffices (ok).
-/
import Derived.Test.YteacalmdpoblpaaGreatQCodecBaseGT
namespace Go.Proofs.YteacalmdpoblpaaGreat
open Go.RowKit
set_option linter.unusedVariables false
set_option maxHeartbeats 1000000
set_option maxRecDepth 10000
def codec_reader_byte.vc (d : Addr) (R : Value → World → Prop) (w : World) : Prop :=
∀ (o : World), Chg [] w o →
∃ (c : Bool), (o.cell? (d.add 2) = some (.bool c)) ∧
∃ (m : Int), (((c = false)) → o.cell? (d.add 1) = some (.int .i64 m)) ∧
∃ (i : Sl), (((c = false)) → o.cell? (d.add 0) = some (Sl.v i)) ∧
(((c = true) ∨ ((i.n : Int) ≤ m)) →
∀ (k : World), Chg [] o k →
∃ (r ad : Nat) (aj : TypeId) (af : List Value), (d.add 2) = ⟨r, ad, none⟩ ∧ Box k r aj af ∧ ad + 1 ≤ af.length ∧ (∀ b ∈ [], b ≠ r) ∧
(∀ x : World, Chg [r] k x → Box x r aj (putAt af ad [.bool true]) →
R (.int .u8 0) x)) ∧
(((c = false) ∧ (¬ ((i.n : Int) ≤ m))) →
∀ (k : World), Chg [] o k →
∃ (y : Int), (k.cell? (d.add 1) = some (.int .i64 y)) ∧
(I64 (y + 1)) ∧
∃ (s ah : Nat) (ak : TypeId) (ai : List Value), (d.add 1) = ⟨s, ah, none⟩ ∧ Box k s ak ai ∧ ah + 1 ≤ ai.length ∧ (∀ b ∈ [], b ≠ s) ∧
(∀ t : World, Chg [s] k t → Box t s ak (putAt ai ah [.int .i64 (y + 1)]) →
∀ (p : World), Chg [] t p →
∃ (u : Sl), (p.cell? (d.add 0) = some (Sl.v u)) ∧
∃ (l : Int), (p.cell? (d.add 1) = some (.int .i64 l)) ∧
(I64 (l - 1)) ∧
∃ z : Addr, (((0 : Int) ≤ l - 1 ∧ l - 1 < (u.n : Int)) ∧ u.a = some z) ∧
∃ (q : Int), (p.cell? (z.add ((l - 1).toNat * 1)) = some (.int .u8 q)) ∧
∀ (aa : World), Chg [] p aa →
R (.int .u8 q) aa))
theorem codec_reader_byte.ok (d : Addr) {R : Value → World → Prop} {w : World} (am : codec_reader_byte.vc d R w) : Calls Tryz.prog 54 #[.pointer (some d)] w (Ret R) := by
 refine enter [.pointer (some d)] Tryz.func54 rfl Tryz.ntmps54 rfl ?_
 intro a0 aH
 unfold codec_reader_byte.vc at am
 refine wp_seq (wp_region_lit ?_)
 refine sqv aH rfl (r_assign rfl) fun _ aI => sq_end ?_
 have f := aI.kp [(0, .pointer (some d))] rfl
 refine then_normal (wp_seq (wp_seq ?_))
 refine draw' (by kernel_rfl) fun o aJ => ?_
 have aK : Chg [] w o := aJ
 have aL := am o    aK
 obtain ⟨c, aM, aN⟩ := aL
 obtain ⟨m, aO, aP⟩ := aN
 obtain ⟨i, aQ, an⟩ := aP
 refine par (D := [[], [0], [0, 1], [0, 1, 2], [0, 1, 2, 3], [0, 1, 2, 3, 4], [0, 1, 2, 3, 4, 5], [0, 1, 2, 3, 4, 5, 6], [0, 1, 2, 3, 4, 5, 6, 7], [0, 1, 2, 3, 4], [0, 1, 2, 3, 4, 9], [0, 1, 2, 3, 4, 9, 10], [0, 1, 2, 3, 4, 9, 10, 11], [0, 1, 2, 3, 4, 9, 10, 11, 12], [0, 1, 2, 3, 4, 5, 6, 7, 8, 9, 10, 11, 12, 13], [0, 1, 2, 3, 4, 5, 6, 7, 8, 9, 10, 11, 12, 13, 14]]) (S := [0, 1, 2, 3, 4, 5, 6, 7, 8, 9, 10, 11, 12, 13, 14, 15]) (F := []) (V := VL [(0, fun v _ => v = .pointer (some d)), (1, fun v _ => v = .pointer (some d)), (2, fun v _ => v = .pointer (some (d.add 2))), (3, fun v _ => v = .bool c), (4, fun v _ => v = .bool c), (5, fun v _ => v = cV (true && (c == false)) (.pointer (some d))), (6, fun v _ => v = cV (true && (c == false)) (.pointer (some d))), (7, fun v _ => v = cV (true && (c == false)) (.pointer (some (d.add 1)))), (8, fun v _ => v = cV (true && (c == false)) (.int .i64 m)), (9, fun v _ => v = cV (true && (c == false)) (.pointer (some d))), (10, fun v _ => v = cV (true && (c == false)) (.pointer (some d))), (11, fun v _ => v = cV (true && (c == false)) (.pointer (some (d.add 0)))), (12, fun v _ => v = cV (true && (c == false)) (Sl.v i)), (13, fun v _ => v = cV (true && (c == false)) (.int .i64 (i.n : Int))), (14, fun v _ => v = cV (true && (c == false)) (.bool (decide ((i.n : Int) ≤ m)))), (15, fun v _ => v = .bool (c || (decide ((i.n : Int) ≤ m))))]) f (by kernel_rfl) ⟨fun _ _ _ _ h => h, fun _ _ _ _ h => h, fun _ _ _ _ h => h, fun _ _ _ _ h => h, fun _ _ _ _ h => h, fun _ _ _ _ h => h, fun _ _ _ _ h => h, fun _ _ _ _ h => h, fun _ _ _ _ h => h, fun _ _ _ _ h => h, fun _ _ _ _ h => h, fun _ _ _ _ h => h, fun _ _ _ _ h => h, fun _ _ _ _ h => h, fun _ _ _ _ h => h, fun _ _ _ _ h => h, trivial⟩ ⟨?_, ?_, ?_, ?_, ?_, ?_, ?_, ?_, ?_, ?_, ?_, ?_, ?_, ?_, ?_, ?_, trivial⟩ ?_
 ·intro a w hT
  have hAp := hT.ag f [(0, .pointer (some d))] ⟨rfl, trivial⟩ (by kernel_rfl)
  exact ovr hAp rfl (r_move (hAp.get rfl)) fun _ => Eq.refl _
 ·intro a w hT
  have hAp := hT.ag f [] trivial (by kernel_rfl)
  have e8 : a.tmps.getD 3 undef = .pointer (some d) := hT.vals 0 rfl 3 rfl
  have hAp := hAp.add e8
  exact ovr hAp rfl (r_nilCheck (hAp.get rfl)) fun _ => Eq.refl _
 ·intro a w hT
  have hAp := hT.ag f [] trivial (by kernel_rfl)
  have e9 : a.tmps.getD 4 undef = .pointer (some d) := hT.vals 1 rfl 4 rfl
  have hAp := hAp.add e9
  exact ovr hAp rfl (r_fieldAddr (hAp.get rfl) Tryz.underlying73 rfl ti_4 (by decide)) fun _ => Eq.refl _
 ·intro a w hT
  have hAp := hT.ag f [] trivial (by kernel_rfl)
  have aT : a.tmps.getD 5 undef = .pointer (some (d.add 2)) := hT.vals 2 rfl 5 rfl
  have hAp := hAp.add aT
  exact ovr hAp rfl (r_load1 tU4 rfl (hAp.get rfl) (Ext.cell hT.chg aM)) fun _ => Eq.refl _
 ·intro a w hT
  have hAp := hT.ag f [] trivial (by kernel_rfl)
  have aU : a.tmps.getD 6 undef = .bool c := hT.vals 3 rfl 6 rfl
  have hAp := hAp.add aU
  exact ovr hAp rfl (r_move (hAp.get rfl)) fun _ => Eq.refl _
 ·intro a w hT
  have hAp := hT.ag f [(0, .pointer (some d))] ⟨rfl, trivial⟩ (by kernel_rfl)
  have aV : a.tmps.getD 7 undef = .bool c := hT.vals 4 rfl 7 rfl
  have hAp := hAp.add aV
  exact opk_gval hAp rfl rfl (g := true) (e := c) rfl (fun hg => r_move (hAp.get rfl)) fun _ _ e => ⟨_, e, Chg.refl _ _, fun _ => Eq.refl _⟩
 ·intro a w hT
  have hAp := hT.ag f [] trivial (by kernel_rfl)
  have aX : a.tmps.getD 7 undef = .bool c := hT.vals 4 rfl 7 rfl
  have hAp := hAp.add aX
  have aY : a.tmps.getD 8 undef = cV (true && (c == false)) (.pointer (some d)) := hT.vals 5 rfl 8 rfl
  have hAp := hAp.add aY
  exact opk_gval hAp rfl rfl (g := true) (e := c) rfl (fun hg => r_nilCheck (cv_get (hAp.get rfl) hg)) fun _ _ e => ⟨_, e, Chg.refl _ _, fun _ => Eq.refl _⟩
 ·intro a w hT
  have hAp := hT.ag f [] trivial (by kernel_rfl)
  have aZ : a.tmps.getD 7 undef = .bool c := hT.vals 4 rfl 7 rfl
  have hAp := hAp.add aZ
  have e19 : a.tmps.getD 9 undef = cV (true && (c == false)) (.pointer (some d)) := hT.vals 6 rfl 9 rfl
  have hAp := hAp.add e19
  exact opk_gval hAp rfl rfl (g := true) (e := c) rfl (fun hg => r_fieldAddr (cv_get (hAp.get rfl) hg) Tryz.underlying73 rfl ti_3 (by decide)) fun _ _ e => ⟨_, e, Chg.refl _ _, fun _ => Eq.refl _⟩
 ·intro a w hT
  have hAp := hT.ag f [] trivial (by kernel_rfl)
  have a1 : a.tmps.getD 7 undef = .bool c := hT.vals 4 rfl 7 rfl
  have hAp := hAp.add a1
  have a2 : a.tmps.getD 10 undef = cV (true && (c == false)) (.pointer (some (d.add 1))) := hT.vals 7 rfl 10 rfl
  have hAp := hAp.add a2
  exact opk_gval hAp rfl rfl (g := true) (e := c) rfl (fun hg => r_load1 tU3 rfl (cv_get (hAp.get rfl) hg) (Ext.cell hT.chg (aO (g_f hg)))) fun _ _ e => ⟨_, e, Chg.refl _ _, fun _ => Eq.refl _⟩
 ·intro a w hT
  have hAp := hT.ag f [(0, .pointer (some d))] ⟨rfl, trivial⟩ (by kernel_rfl)
  have a3 : a.tmps.getD 7 undef = .bool c := hT.vals 4 rfl 7 rfl
  have hAp := hAp.add a3
  exact opk_gval hAp rfl rfl (g := true) (e := c) rfl (fun hg => r_move (hAp.get rfl)) fun _ _ e => ⟨_, e, Chg.refl _ _, fun _ => Eq.refl _⟩
 ·intro a w hT
  have hAp := hT.ag f [] trivial (by kernel_rfl)
  have a4 : a.tmps.getD 7 undef = .bool c := hT.vals 4 rfl 7 rfl
  have hAp := hAp.add a4
  have a5 : a.tmps.getD 12 undef = cV (true && (c == false)) (.pointer (some d)) := hT.vals 9 rfl 12 rfl
  have hAp := hAp.add a5
  exact opk_gval hAp rfl rfl (g := true) (e := c) rfl (fun hg => r_nilCheck (cv_get (hAp.get rfl) hg)) fun _ _ e => ⟨_, e, Chg.refl _ _, fun _ => Eq.refl _⟩
 ·intro a w hT
  have hAp := hT.ag f [] trivial (by kernel_rfl)
  have a6 : a.tmps.getD 7 undef = .bool c := hT.vals 4 rfl 7 rfl
  have hAp := hAp.add a6
  have a7 : a.tmps.getD 13 undef = cV (true && (c == false)) (.pointer (some d)) := hT.vals 10 rfl 13 rfl
  have hAp := hAp.add a7
  exact opk_gval hAp rfl rfl (g := true) (e := c) rfl (fun hg => r_fieldAddr (cv_get (hAp.get rfl) hg) Tryz.underlying73 rfl ti_27 (by decide)) fun _ _ e => ⟨_, e, Chg.refl _ _, fun _ => Eq.refl _⟩
 ·intro a w hT
  have hAp := hT.ag f [] trivial (by kernel_rfl)
  have a8 : a.tmps.getD 7 undef = .bool c := hT.vals 4 rfl 7 rfl
  have hAp := hAp.add a8
  have a9 : a.tmps.getD 14 undef = cV (true && (c == false)) (.pointer (some (d.add 0))) := hT.vals 11 rfl 14 rfl
  have hAp := hAp.add a9
  exact opk_gval hAp rfl rfl (g := true) (e := c) rfl (fun hg => r_load1 tU27 rfl (cv_get (hAp.get rfl) hg) (Ext.cell hT.chg (aQ (g_f hg)))) fun _ _ e => ⟨_, e, Chg.refl _ _, fun _ => Eq.refl _⟩
 ·intro a w hT
  have hAp := hT.ag f [] trivial (by kernel_rfl)
  have ba : a.tmps.getD 7 undef = .bool c := hT.vals 4 rfl 7 rfl
  have hAp := hAp.add ba
  have bb : a.tmps.getD 15 undef = cV (true && (c == false)) (Sl.v i) := hT.vals 12 rfl 15 rfl
  have hAp := hAp.add bb
  exact opk_gval hAp rfl rfl (g := true) (e := c) rfl (fun hg => r_len (cv_get (hAp.get rfl) hg) tU27) fun _ _ e => ⟨_, e, Chg.refl _ _, fun _ => Eq.refl _⟩
 ·intro a w hT
  have hAp := hT.ag f [] trivial (by kernel_rfl)
  have bd : a.tmps.getD 7 undef = .bool c := hT.vals 4 rfl 7 rfl
  have hAp := hAp.add bd
  have bf : a.tmps.getD 11 undef = cV (true && (c == false)) (.int .i64 m) := hT.vals 8 rfl 11 rfl
  have hAp := hAp.add bf
  have bg : a.tmps.getD 16 undef = cV (true && (c == false)) (.int .i64 (i.n : Int)) := hT.vals 13 rfl 16 rfl
  have hAp := hAp.add bg
  exact opk_gval hAp rfl rfl (g := true) (e := c) rfl (fun hg => r_geq (cv_get (hAp.get rfl) hg) (cv_get (hAp.get rfl) hg)) fun _ _ e => ⟨_, e, Chg.refl _ _, fun _ => Eq.refl _⟩
 ·intro a w hT
  have hAp := hT.ag f [] trivial (by kernel_rfl)
  have bh : a.tmps.getD 7 undef = .bool c := hT.vals 4 rfl 7 rfl
  have hAp := hAp.add bh
  have bi : a.tmps.getD 17 undef = cV (true && (c == false)) (.bool (decide ((i.n : Int) ≤ m))) := hT.vals 14 rfl 17 rfl
  have hAp := hAp.add bi
  exact ovr hAp rfl (r_pick_or (g := (true && (c == false))) (hAp.get rfl) (hAp.get rfl) (fun he => g_mkf rfl he)) fun _ => Eq.refl _
 ·intro bj k bk bl bm
  have bn := bl [(0, .pointer (some d))] ⟨rfl, trivial⟩ (by kernel_rfl)
  have bo : bj.tmps.getD 18 undef = .bool (c || (decide ((i.n : Int) ≤ m))) := bm 15 rfl 18 rfl
  have bp := bn.add bo
  have ao : Chg [] o k := bk
  refine PR_end (by kernel_rfl) ?_
  have ab := bp.kp [(0, .pointer (some d)), (18, .bool (c || (decide ((i.n : Int) ≤ m))))] rfl
  refine then_normal ?_
  refine wp_cond_split (ab.get rfl) (fun hc => ?_) (fun hc => ?_)
  ·have bq := an.1 ((b_or_t hc).imp (fun h => h) (fun h => (of_decide_eq_true h)))
   clear hc
   refine wp_seq (wp_region_lit ?_)
   refine sqv ab rfl (r_move (ab.get rfl)) fun _ ap => sqv ap rfl (r_nilCheck (ap.get rfl)) fun _ aq => sqv aq rfl (r_fieldAddr (aq.get rfl) Tryz.underlying73 rfl ti_4 (by decide)) fun _ ar => ?_
   have br := bq k    ao
   obtain ⟨r, ad, aj, af, bs, au, bt, cq, bu⟩ := br
   refine sq (opk_store ar au (r_store (vs := [.bool true]) (((ar.get rfl)).trans (congrArg (fun a => Value.pointer (some a)) bs)) rfl rfl ti_4 au (Nat.ble_eq_true_of_le bt) (ones_all _ rfl)) fun cr x bv bx bz => ?_)
   have bA := bu x bv bx
   refine sq_end ?_
   have bB := bz.kp [] rfl
   refine then_normal (wp_seq (wp_region_lit ?_))
   refine sqv bB rfl (r_assign rfl) fun _ bC => sq_end ?_
   have av := bC.kp [(2, .int .u8 0)] rfl
   refine then_normal ?_
   refine wp_ret ?_
   refine then_ret ?_
   exact res_all (vs := [.int .u8 0]) rfl av ⟨res_of_tmp av rfl, trivial⟩ bA
  ·have bD := an.2 ⟨(b_or_f hc).1, (of_decide_eq_false (b_or_f hc).2)⟩
   clear hc
   refine wp_skip ?_
   refine then_normal (wp_seq (wp_region_lit ?_))
   refine sqv ab rfl (r_move (ab.get rfl)) fun _ ax => sqv ax rfl (r_nilCheck (ax.get rfl)) fun _ ay => sqv ay rfl (r_fieldAddr (ay.get rfl) Tryz.underlying73 rfl ti_3 (by decide)) fun _ az => ?_
   have bF := bD k    ao
   obtain ⟨y, bG, bH⟩ := bF
   refine sqv az rfl (r_load1 tU3 rfl (az.get rfl) bG) fun _ aA => ?_
   obtain ⟨bI, bJ⟩ := bH
   refine sqv aA rfl (r_addI (aA.get rfl) rfl bI) fun _ aB => sqv aB rfl (r_nilCheck (aB.get rfl)) fun _ aC => sqv aC rfl (r_fieldAddr (aC.get rfl) Tryz.underlying73 rfl ti_3 (by decide)) fun _ al => ?_
   obtain ⟨s, ah, ak, ai, bK, aD, bL, cs, bM⟩ := bJ
   refine sq (opk_store al aD (r_store (vs := [.int .i64 (y + 1)]) (((al.get rfl)).trans (congrArg (fun a => Value.pointer (some a)) bK)) (al.get rfl) rfl ti_3 aD (Nat.ble_eq_true_of_le bL) (ones_all _ rfl)) fun ct t bN bO bP => ?_)
   have bQ := bM t bN bO
   refine sq_end ?_
   have j := bP.kp [(0, .pointer (some d))] rfl
   refine then_normal (wp_seq ?_)
   refine draw' (by kernel_rfl) fun p bR => ?_
   have bS : Chg [] t p := bR
   have bT := bQ p    bS
   obtain ⟨u, bU, bV⟩ := bT
   obtain ⟨l, bX, bY⟩ := bV
   obtain ⟨bZ, b0⟩ := bY
   obtain ⟨z, aF, b1⟩ := b0
   obtain ⟨q, b2, b3⟩ := b1
   refine par (D := [[], [0], [0, 1], [0, 1, 2], [], [4], [4, 5], [4, 5, 6], [4, 5, 6, 7], [0, 1, 2, 3, 4, 5, 6, 7, 8], [0, 1, 2, 3, 4, 5, 6, 7, 8, 9], [0, 1, 2, 3, 4, 5, 6, 7, 8, 9, 10]]) (S := [0, 1, 2, 3, 4, 5, 6, 7, 8, 9, 10, 11]) (F := []) (V := VL [(0, fun v _ => v = .pointer (some d)), (1, fun v _ => v = .pointer (some d)), (2, fun v _ => v = .pointer (some (d.add 0))), (3, fun v _ => v = Sl.v u), (4, fun v _ => v = .pointer (some d)), (5, fun v _ => v = .pointer (some d)), (6, fun v _ => v = .pointer (some (d.add 1))), (7, fun v _ => v = .int .i64 l), (8, fun v _ => v = .int .i64 (l - 1)), (9, fun v _ => v = .pointer (some (z.add ((l - 1).toNat * 1)))), (10, fun v _ => v = .int .u8 q), (11, fun v _ => v = .int .u8 q)]) j (by kernel_rfl) ⟨fun _ _ _ _ h => h, fun _ _ _ _ h => h, fun _ _ _ _ h => h, fun _ _ _ _ h => h, fun _ _ _ _ h => h, fun _ _ _ _ h => h, fun _ _ _ _ h => h, fun _ _ _ _ h => h, fun _ _ _ _ h => h, fun _ _ _ _ h => h, fun _ _ _ _ h => h, fun _ _ _ _ h => h, trivial⟩ ⟨?_, ?_, ?_, ?_, ?_, ?_, ?_, ?_, ?_, ?_, ?_, ?_, trivial⟩ ?_
   ·intro a w hT
    have hAp := hT.ag j [(0, .pointer (some d))] ⟨rfl, trivial⟩ (by kernel_rfl)
    exact ovr hAp rfl (r_move (hAp.get rfl)) fun _ => Eq.refl _
   ·intro a w hT
    have hAp := hT.ag j [] trivial (by kernel_rfl)
    have b4 : a.tmps.getD 29 undef = .pointer (some d) := hT.vals 0 rfl 29 rfl
    have hAp := hAp.add b4
    exact ovr hAp rfl (r_nilCheck (hAp.get rfl)) fun _ => Eq.refl _
   ·intro a w hT
    have hAp := hT.ag j [] trivial (by kernel_rfl)
    have b5 : a.tmps.getD 30 undef = .pointer (some d) := hT.vals 1 rfl 30 rfl
    have hAp := hAp.add b5
    exact ovr hAp rfl (r_fieldAddr (hAp.get rfl) Tryz.underlying73 rfl ti_27 (by decide)) fun _ => Eq.refl _
   ·intro a w hT
    have hAp := hT.ag j [] trivial (by kernel_rfl)
    have b6 : a.tmps.getD 31 undef = .pointer (some (d.add 0)) := hT.vals 2 rfl 31 rfl
    have hAp := hAp.add b6
    exact ovr hAp rfl (r_load1 tU27 rfl (hAp.get rfl) (Ext.cell hT.chg bU)) fun _ => Eq.refl _
   ·intro a w hT
    have hAp := hT.ag j [(0, .pointer (some d))] ⟨rfl, trivial⟩ (by kernel_rfl)
    exact ovr hAp rfl (r_move (hAp.get rfl)) fun _ => Eq.refl _
   ·intro a w hT
    have hAp := hT.ag j [] trivial (by kernel_rfl)
    have b7 : a.tmps.getD 33 undef = .pointer (some d) := hT.vals 4 rfl 33 rfl
    have hAp := hAp.add b7
    exact ovr hAp rfl (r_nilCheck (hAp.get rfl)) fun _ => Eq.refl _
   ·intro a w hT
    have hAp := hT.ag j [] trivial (by kernel_rfl)
    have b8 : a.tmps.getD 34 undef = .pointer (some d) := hT.vals 5 rfl 34 rfl
    have hAp := hAp.add b8
    exact ovr hAp rfl (r_fieldAddr (hAp.get rfl) Tryz.underlying73 rfl ti_3 (by decide)) fun _ => Eq.refl _
   ·intro a w hT
    have hAp := hT.ag j [] trivial (by kernel_rfl)
    have b9 : a.tmps.getD 35 undef = .pointer (some (d.add 1)) := hT.vals 6 rfl 35 rfl
    have hAp := hAp.add b9
    exact ovr hAp rfl (r_load1 tU3 rfl (hAp.get rfl) (Ext.cell hT.chg bX)) fun _ => Eq.refl _
   ·intro a w hT
    have hAp := hT.ag j [] trivial (by kernel_rfl)
    have ca : a.tmps.getD 36 undef = .int .i64 l := hT.vals 7 rfl 36 rfl
    have hAp := hAp.add ca
    exact ovr hAp rfl (r_subI (hAp.get rfl) rfl bZ) fun _ => Eq.refl _
   ·intro a w hT
    have hAp := hT.ag j [] trivial (by kernel_rfl)
    have cb : a.tmps.getD 32 undef = Sl.v u := hT.vals 3 rfl 32 rfl
    have hAp := hAp.add cb
    have cc : a.tmps.getD 37 undef = .int .i64 (l - 1) := hT.vals 8 rfl 37 rfl
    have hAp := hAp.add cc
    exact ovr hAp rfl (r_indexAddr (hAp.get rfl) (hAp.get rfl) tU27 ti_5 aF.1 aF.2) fun _ => Eq.refl _
   ·intro a w hT
    have hAp := hT.ag j [] trivial (by kernel_rfl)
    have cd : a.tmps.getD 38 undef = .pointer (some (z.add ((l - 1).toNat * 1))) := hT.vals 9 rfl 38 rfl
    have hAp := hAp.add cd
    exact ovr hAp rfl (r_load1 tU5 rfl (hAp.get rfl) (Ext.cell hT.chg b2)) fun _ => Eq.refl _
   ·intro a w hT
    have hAp := hT.ag j [] trivial (by kernel_rfl)
    have cf : a.tmps.getD 39 undef = .int .u8 q := hT.vals 10 rfl 39 rfl
    have hAp := hAp.add cf
    exact ovr hAp rfl (r_assign (hAp.get rfl)) fun _ => Eq.refl _
   ·intro cg aa ch ci cj
    have ck := ci [] trivial (by kernel_rfl)
    have cl : cg.tmps.getD 2 undef = .int .u8 q := cj 11 rfl 2 rfl
    have cm := ck.add cl
    have cn : Chg [] p aa := ch
    refine PR_end (by kernel_rfl) ?_
    have aG := cm.kp [(2, .int .u8 q)] rfl
    refine then_normal ?_
    refine wp_ret ?_
    have co := b3 aa    cn
    exact res_all (vs := [.int .u8 q]) rfl aG ⟨res_of_tmp aG rfl, trivial⟩ co
def codec_reader_of.vc (d : Addr) (c : Sl) (R : Value → World → Prop) (w : World) : Prop :=
CallK Tryz.prog 32 #[.pointer (some d)] w [] (fun v j => ∃ (i : Int), v = .int .u64 i ∧
∃ (f : Bool), (j.cell? (d.add 2) = some (.bool f)) ∧
(((f = true) ∨ ((IntKind.u64.wrap (c.n : Int)) ≤ i)) →
∃ (k p : Nat) (r : TypeId) (q : List Value), (d.add 2) = ⟨k, p, none⟩ ∧ Box j k r q ∧ p + 1 ≤ q.length ∧ (∀ b ∈ [], b ≠ k) ∧
(∀ l : World, Chg [k] j l → Box l k r (putAt q p [.bool true]) →
R (.string (Bs [])) l)) ∧
(((f = false) ∧ (¬ ((IntKind.u64.wrap (c.n : Int)) ≤ i))) →
((0 : Int) ≤ i ∧ i < (c.n : Int)) ∧ ∃ s : Addr, c.a = some s ∧
∃ (m : Str), (j.cell? (s.add (i.toNat * 1)) = some (.string (Bs m))) ∧
R (.string (Bs m)) j))
theorem codec_reader_of.ok (d : Addr) (c : Sl) {R : Value → World → Prop} {w : World} (y : codec_reader_of.vc d c R w) : Calls Tryz.prog 58 #[.pointer (some d), Sl.v c] w (Ret R) := by
 refine enter [.pointer (some d), Sl.v c] Tryz.func58 rfl Tryz.ntmps58 rfl ?_
 intro a0 aA
 unfold codec_reader_of.vc at y
 refine wp_seq (wp_region_lit ?_)
 refine sqv aA rfl (r_assign rfl) fun _ aB => sq_end ?_
 have z := aB.kp [(0, .pointer (some d)), (1, Sl.v c)] rfl
 refine then_normal (wp_seq (wp_region_lit ?_))
 refine sqv z rfl (r_move (z.get rfl)) fun _ aa => ?_
 refine sq (opk_call aa rfl (r_call (args := #[.pointer (some d)]) Tryz.func32 (by decide) rfl (map_arr (ml_cons (aa.get rfl) ml_nil)) rfl) y fun a7 a2 j ab _ a3 a4 aC => ?_)
 obtain ⟨i, rfl, aD⟩ := aC
 refine sqv ab rfl (r_assign (ab.get rfl)) fun _ aF => sq_end ?_
 have ad := aF.kp [(0, .pointer (some d)), (1, Sl.v c), (5, .int .u64 i)] rfl
 refine then_normal (wp_seq (wp_seq (wp_region_lit ?_)))
 refine sqv ad rfl (r_move (ad.get rfl)) fun _ af => sqv af rfl (r_nilCheck (af.get rfl)) fun _ ag => sqv ag rfl (r_fieldAddr (ag.get rfl) Tryz.underlying73 rfl ti_4 (by decide)) fun _ ah => ?_
 obtain ⟨f, aG, ai⟩ := aD
 refine sqv ah rfl (r_load1 tU4 rfl (ah.get rfl) aG) fun _ aj => sqv aj rfl (r_move (aj.get rfl)) fun _ ak => ?_
 refine sq (opk_gval ak rfl rfl (g := true) (e := f) rfl (fun hg => r_move (ak.get rfl)) fun a5 al _ => ?_)
 refine sq (opk_gval al rfl rfl (g := true) (e := f) rfl (fun hg => r_move (al.get rfl)) fun a6 am _ => ?_)
 refine sq (opk_gval am rfl rfl (g := true) (e := f) rfl (fun hg => r_len (cv_get (am.get rfl) hg) tU61) fun a8 an _ => ?_)
 refine sq (opk_gval an rfl rfl (g := true) (e := f) rfl (fun hg => r_conv (cv_get (an.get rfl) hg) rfl tU22) fun a9 t _ => ?_)
 refine sq (opk_gval t rfl rfl (g := true) (e := f) rfl (fun hg => r_geq (cv_get (t.get rfl) hg) (cv_get (t.get rfl) hg)) fun ba u _ => ?_)
 refine sqv u rfl (r_pick_or (g := (true && (f == false))) (u.get rfl) (u.get rfl) (fun he => g_mkf rfl he)) fun _ aH => sq_end ?_
 have o := aH.kp [(0, .pointer (some d)), (1, Sl.v c), (5, .int .u64 i), (18, .bool (f || (decide ((IntKind.u64.wrap (c.n : Int)) ≤ i))))] rfl
 refine then_normal ?_
 refine wp_cond_split (o.get rfl) (fun hc => ?_) (fun hc => ?_)
 ·have aI := ai.1 ((b_or_t hc).imp (fun h => h) (fun h => (of_decide_eq_true h)))
  clear hc
  refine wp_seq (wp_region_lit ?_)
  refine sqv o rfl (r_move (o.get rfl)) fun _ ao => sqv ao rfl (r_nilCheck (ao.get rfl)) fun _ ap => sqv ap rfl (r_fieldAddr (ap.get rfl) Tryz.underlying73 rfl ti_4 (by decide)) fun _ aq => ?_
  obtain ⟨k, p, r, q, aJ, ar, aK, bb, aL⟩ := aI
  refine sq (opk_store aq ar (r_store (vs := [.bool true]) (((aq.get rfl)).trans (congrArg (fun a => Value.pointer (some a)) aJ)) rfl rfl ti_4 ar (Nat.ble_eq_true_of_le aK) (ones_all _ rfl)) fun bd l aM aN aO => ?_)
  have aP := aL l aM aN
  refine sq_end ?_
  have aQ := aO.kp [] rfl
  refine then_normal (wp_seq (wp_region_lit ?_))
  refine sqv aQ rfl (r_assign rfl) fun _ aR => sq_end ?_
  have au := aR.kp [(4, .string (Bs []))] rfl
  refine then_normal ?_
  refine wp_ret ?_
  refine then_ret ?_
  exact res_all (vs := [.string (Bs [])]) rfl au ⟨res_of_tmp au rfl, trivial⟩ aP
 ·have aS := ai.2 ⟨(b_or_f hc).1, (of_decide_eq_false (b_or_f hc).2)⟩
  clear hc
  refine wp_skip ?_
  refine then_normal (wp_seq (wp_region_lit ?_))
  refine sqv o rfl (r_move (o.get rfl)) fun _ av => sqv av rfl (r_move (av.get rfl)) fun _ x => ?_
  obtain ⟨aT, s, aU, aV⟩ := aS
  refine sqv x rfl (r_indexAddr (x.get rfl) (x.get rfl) tU61 ti_9 aT aU) fun _ ax => ?_
  obtain ⟨m, aX, aY⟩ := aV
  refine sqv ax rfl (r_load1 tU9 rfl (ax.get rfl) aX) fun _ ay => sqv ay rfl (r_assign (ay.get rfl)) fun _ aZ => sq_end ?_
  have az := aZ.kp [(4, .string (Bs m))] rfl
  refine then_normal ?_
  refine wp_ret ?_
  exact res_all (vs := [.string (Bs m)]) rfl az ⟨res_of_tmp az rfl, trivial⟩ aY
end Go.Proofs.YteacalmdpoblpaaGreat
