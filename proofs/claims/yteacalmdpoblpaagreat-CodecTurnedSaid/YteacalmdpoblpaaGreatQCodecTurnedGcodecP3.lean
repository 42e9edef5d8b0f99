/-
  PRINTED BY PROGRAM: for each function its condition (vc), and that this suffices (ok).
-/
import Derived.Test.YteacalmdpoblpaaGreatQCodecTurnedGT
namespace Go.Proofs.YteacalmdpoblpaaGreat
open Go.RowKit
set_option linter.unusedVariables false

/-- The condition of (*topiary/codec.reader).byte. -/
def codec_reader_byte.vc (r_1 : Addr) (R : Value → World → Prop) (w : World) : Prop :=
∀ (w4 : World), Chg [] w w4 →
∃ (x_11 : Bool), (w4.cell? (r_1.add 2) = some (.bool x_11)) ∧
∃ (x_22 : Int), (((x_11 = false)) → w4.cell? (r_1.add 1) = some (.int .i64 x_22)) ∧
∃ (x_32 : Sl), (((x_11 = false)) → w4.cell? (r_1.add 0) = some (Sl.v x_32)) ∧
(((x_11 = true) ∨ ((x_32.n : Int) ≤ x_22)) →
∀ (w43 : World), Chg [] w4 w43 →
∃ (B_62 o_63 : Nat) (T_64 : TypeId) (cs_65 : List Value), (r_1.add 2) = ⟨B_62, o_63, none⟩ ∧ Box w43 B_62 T_64 cs_65 ∧ o_63 + 1 ≤ cs_65.length ∧ (∀ b ∈ [], b ≠ B_62) ∧
(∀ w57 : World, Chg [B_62] w43 w57 → Box w57 B_62 T_64 (putAt cs_65 o_63 [.bool true]) →
R (.int .u8 0) w57)) ∧
(((x_11 = false) ∧ (¬ ((x_32.n : Int) ≤ x_22))) →
∀ (w43 : World), Chg [] w4 w43 →
∃ (x_80 : Int), (w43.cell? (r_1.add 1) = some (.int .i64 x_80)) ∧
(I64 (x_80 + 1)) ∧
∃ (B_92 o_93 : Nat) (T_94 : TypeId) (cs_95 : List Value), (r_1.add 1) = ⟨B_92, o_93, none⟩ ∧ Box w43 B_92 T_94 cs_95 ∧ o_93 + 1 ≤ cs_95.length ∧ (∀ b ∈ [], b ≠ B_92) ∧
(∀ w88 : World, Chg [B_92] w43 w88 → Box w88 B_92 T_94 (putAt cs_95 o_93 [.int .i64 (x_80 + 1)]) →
∀ (w103 : World), Chg [] w88 w103 →
∃ (x_110 : Sl), (w103.cell? (r_1.add 0) = some (Sl.v x_110)) ∧
∃ (x_116 : Int), (w103.cell? (r_1.add 1) = some (.int .i64 x_116)) ∧
(I64 (x_116 - 1)) ∧
∃ p_124 : Addr, (((0 : Int) ≤ x_116 - 1 ∧ x_116 - 1 < (x_110.n : Int)) ∧ x_110.a = some p_124) ∧
∃ (x_128 : Int), (w103.cell? (p_124.add ((x_116 - 1).toNat * 1)) = some (.int .u8 x_128)) ∧
∀ (w133 : World), Chg [] w103 w133 →
R (.int .u8 x_128) w133))
set_option maxHeartbeats 1000000 in
set_option maxRecDepth 10000 in
theorem codec_reader_byte.ok (r_1 : Addr) {R : Value → World → Prop} {w : World} (ht0 : codec_reader_byte.vc r_1 R w) : Calls Tryz.prog 54 #[.pointer (some r_1)] w (Ret R) := by
  refine enter [.pointer (some r_1)] Tryz.func54 rfl Tryz.ntmps54 rfl ?_
  intro a0 hA0
  unfold codec_reader_byte.vc at ht0
  refine wp_seq ?_
  refine wp_region_lit ?_
  refine sq (opk_val hA0 rfl (r_assign rfl) fun a2 hA2 _ => ?_)
  refine sq_end ?_
  have hA3 := hA2.keep [(0, .pointer (some r_1))] ⟨rfl, trivial⟩
  refine then_normal ?_
  refine wp_seq ?_
  refine wp_seq ?_
  refine draw' (by kernel_rfl) fun w4 hE5 => ?_
  have hC6 : Chg [] w w4 := hE5
  have ht7 := ht0 w4    hC6
  obtain ⟨x_11, hx12, ht13⟩ := ht7
  obtain ⟨x_22, hx23, ht24⟩ := ht13
  obtain ⟨x_32, hx33, ht34⟩ := ht24
  refine par (D := [[], [0], [0, 1], [0, 1, 2], [0, 1, 2, 3], [0, 1, 2, 3, 4], [0, 1, 2, 3, 4, 5], [0, 1, 2, 3, 4, 5, 6], [0, 1, 2, 3, 4, 5, 6, 7], [0, 1, 2, 3, 4], [0, 1, 2, 3, 4, 9], [0, 1, 2, 3, 4, 9, 10], [0, 1, 2, 3, 4, 9, 10, 11], [0, 1, 2, 3, 4, 9, 10, 11, 12], [0, 1, 2, 3, 4, 5, 6, 7, 8, 9, 10, 11, 12, 13], [0, 1, 2, 3, 4, 5, 6, 7, 8, 9, 10, 11, 12, 13, 14]]) (S := [0, 1, 2, 3, 4, 5, 6, 7, 8, 9, 10, 11, 12, 13, 14, 15]) (F := []) (V := VL [(0, fun v _ => v = .pointer (some r_1)), (1, fun v _ => v = .pointer (some r_1)), (2, fun v _ => v = .pointer (some (r_1.add 2))), (3, fun v _ => v = .bool x_11), (4, fun v _ => v = .bool x_11), (5, fun v _ => v = cV (true && (x_11 == false)) (.pointer (some r_1))), (6, fun v _ => v = cV (true && (x_11 == false)) (.pointer (some r_1))), (7, fun v _ => v = cV (true && (x_11 == false)) (.pointer (some (r_1.add 1)))), (8, fun v _ => v = cV (true && (x_11 == false)) (.int .i64 x_22)), (9, fun v _ => v = cV (true && (x_11 == false)) (.pointer (some r_1))), (10, fun v _ => v = cV (true && (x_11 == false)) (.pointer (some r_1))), (11, fun v _ => v = cV (true && (x_11 == false)) (.pointer (some (r_1.add 0)))), (12, fun v _ => v = cV (true && (x_11 == false)) (Sl.v x_32)), (13, fun v _ => v = cV (true && (x_11 == false)) (.int .i64 (x_32.n : Int))), (14, fun v _ => v = cV (true && (x_11 == false)) (.bool (decide ((x_32.n : Int) ≤ x_22)))), (15, fun v _ => v = .bool (x_11 || (decide ((x_32.n : Int) ≤ x_22))))]) hA3 (by kernel_rfl) ⟨fun _ _ _ _ h => by first | exact h | (change _ = _ at h; change _ = _; exact h), fun _ _ _ _ h => by first | exact h | (change _ = _ at h; change _ = _; exact h), fun _ _ _ _ h => by first | exact h | (change _ = _ at h; change _ = _; exact h), fun _ _ _ _ h => by first | exact h | (change _ = _ at h; change _ = _; exact h), fun _ _ _ _ h => by first | exact h | (change _ = _ at h; change _ = _; exact h), fun _ _ _ _ h => by first | exact h | (change _ = _ at h; change _ = _; exact h), fun _ _ _ _ h => by first | exact h | (change _ = _ at h; change _ = _; exact h), fun _ _ _ _ h => by first | exact h | (change _ = _ at h; change _ = _; exact h), fun _ _ _ _ h => by first | exact h | (change _ = _ at h; change _ = _; exact h), fun _ _ _ _ h => by first | exact h | (change _ = _ at h; change _ = _; exact h), fun _ _ _ _ h => by first | exact h | (change _ = _ at h; change _ = _; exact h), fun _ _ _ _ h => by first | exact h | (change _ = _ at h; change _ = _; exact h), fun _ _ _ _ h => by first | exact h | (change _ = _ at h; change _ = _; exact h), fun _ _ _ _ h => by first | exact h | (change _ = _ at h; change _ = _; exact h), fun _ _ _ _ h => by first | exact h | (change _ = _ at h; change _ = _; exact h), fun _ _ _ _ h => by first | exact h | (change _ = _ at h; change _ = _; exact h), trivial⟩ ⟨?_, ?_, ?_, ?_, ?_, ?_, ?_, ?_, ?_, ?_, ?_, ?_, ?_, ?_, ?_, ?_, trivial⟩ ?_
  · intro a w hT
    have hAp := hT.ag hA3 [(0, .pointer (some r_1))] ⟨rfl, trivial⟩ (by kernel_rfl)
    exact opk_val hAp rfl (r_move (hAp.get rfl)) fun _ _ e => ⟨_, e, Chg.refl _ _, fun _ => Eq.refl _⟩
  · intro a w hT
    have hAp := hT.ag hA3 [] trivial (by kernel_rfl)
    have e8 : a.tmps.getD 3 undef = .pointer (some r_1) := hT.vals 0 rfl 3 rfl
    have hAp := hAp.add e8
    exact opk_val hAp rfl (r_nilCheck (hAp.get rfl)) fun _ _ e => ⟨_, e, Chg.refl _ _, fun _ => Eq.refl _⟩
  · intro a w hT
    have hAp := hT.ag hA3 [] trivial (by kernel_rfl)
    have e9 : a.tmps.getD 4 undef = .pointer (some r_1) := hT.vals 1 rfl 4 rfl
    have hAp := hAp.add e9
    exact opk_val hAp rfl (r_fieldAddr (hAp.get rfl) Tryz.underlying73 rfl ti_4 (by decide)) fun _ _ e => ⟨_, e, Chg.refl _ _, fun _ => Eq.refl _⟩
  · intro a w hT
    have hAp := hT.ag hA3 [] trivial (by kernel_rfl)
    have e10 : a.tmps.getD 5 undef = .pointer (some (r_1.add 2)) := hT.vals 2 rfl 5 rfl
    have hAp := hAp.add e10
    exact opk_val hAp rfl (r_load1 Tryz.underlying4 rfl (hAp.get rfl) (Ext.cell hT.chg hx12)) fun _ _ e => ⟨_, e, Chg.refl _ _, fun _ => Eq.refl _⟩
  · intro a w hT
    have hAp := hT.ag hA3 [] trivial (by kernel_rfl)
    have e14 : a.tmps.getD 6 undef = .bool x_11 := hT.vals 3 rfl 6 rfl
    have hAp := hAp.add e14
    exact opk_val hAp rfl (r_move (hAp.get rfl)) fun _ _ e => ⟨_, e, Chg.refl _ _, fun _ => Eq.refl _⟩
  · intro a w hT
    have hAp := hT.ag hA3 [(0, .pointer (some r_1))] ⟨rfl, trivial⟩ (by kernel_rfl)
    have e15 : a.tmps.getD 7 undef = .bool x_11 := hT.vals 4 rfl 7 rfl
    have hAp := hAp.add e15
    exact opk_gval hAp rfl rfl (g := true) (e := x_11) rfl (fun hg => r_move (hAp.get rfl)) fun _ _ e => ⟨_, e, Chg.refl _ _, fun _ => Eq.refl _⟩
  · intro a w hT
    have hAp := hT.ag hA3 [] trivial (by kernel_rfl)
    have e16 : a.tmps.getD 7 undef = .bool x_11 := hT.vals 4 rfl 7 rfl
    have hAp := hAp.add e16
    have e17 : a.tmps.getD 8 undef = cV (true && (x_11 == false)) (.pointer (some r_1)) := hT.vals 5 rfl 8 rfl
    have hAp := hAp.add e17
    exact opk_gval hAp rfl rfl (g := true) (e := x_11) rfl (fun hg => r_nilCheck (cv_get (hAp.get rfl) hg)) fun _ _ e => ⟨_, e, Chg.refl _ _, fun _ => Eq.refl _⟩
  · intro a w hT
    have hAp := hT.ag hA3 [] trivial (by kernel_rfl)
    have e18 : a.tmps.getD 7 undef = .bool x_11 := hT.vals 4 rfl 7 rfl
    have hAp := hAp.add e18
    have e19 : a.tmps.getD 9 undef = cV (true && (x_11 == false)) (.pointer (some r_1)) := hT.vals 6 rfl 9 rfl
    have hAp := hAp.add e19
    exact opk_gval hAp rfl rfl (g := true) (e := x_11) rfl (fun hg => r_fieldAddr (cv_get (hAp.get rfl) hg) Tryz.underlying73 rfl ti_3 (by decide)) fun _ _ e => ⟨_, e, Chg.refl _ _, fun _ => Eq.refl _⟩
  · intro a w hT
    have hAp := hT.ag hA3 [] trivial (by kernel_rfl)
    have e20 : a.tmps.getD 7 undef = .bool x_11 := hT.vals 4 rfl 7 rfl
    have hAp := hAp.add e20
    have e21 : a.tmps.getD 10 undef = cV (true && (x_11 == false)) (.pointer (some (r_1.add 1))) := hT.vals 7 rfl 10 rfl
    have hAp := hAp.add e21
    exact opk_gval hAp rfl rfl (g := true) (e := x_11) rfl (fun hg => r_load1 Tryz.underlying3 rfl (cv_get (hAp.get rfl) hg) (Ext.cell hT.chg (hx23 (g_f hg)))) fun _ _ e => ⟨_, e, Chg.refl _ _, fun _ => Eq.refl _⟩
  · intro a w hT
    have hAp := hT.ag hA3 [(0, .pointer (some r_1))] ⟨rfl, trivial⟩ (by kernel_rfl)
    have e25 : a.tmps.getD 7 undef = .bool x_11 := hT.vals 4 rfl 7 rfl
    have hAp := hAp.add e25
    exact opk_gval hAp rfl rfl (g := true) (e := x_11) rfl (fun hg => r_move (hAp.get rfl)) fun _ _ e => ⟨_, e, Chg.refl _ _, fun _ => Eq.refl _⟩
  · intro a w hT
    have hAp := hT.ag hA3 [] trivial (by kernel_rfl)
    have e26 : a.tmps.getD 7 undef = .bool x_11 := hT.vals 4 rfl 7 rfl
    have hAp := hAp.add e26
    have e27 : a.tmps.getD 12 undef = cV (true && (x_11 == false)) (.pointer (some r_1)) := hT.vals 9 rfl 12 rfl
    have hAp := hAp.add e27
    exact opk_gval hAp rfl rfl (g := true) (e := x_11) rfl (fun hg => r_nilCheck (cv_get (hAp.get rfl) hg)) fun _ _ e => ⟨_, e, Chg.refl _ _, fun _ => Eq.refl _⟩
  · intro a w hT
    have hAp := hT.ag hA3 [] trivial (by kernel_rfl)
    have e28 : a.tmps.getD 7 undef = .bool x_11 := hT.vals 4 rfl 7 rfl
    have hAp := hAp.add e28
    have e29 : a.tmps.getD 13 undef = cV (true && (x_11 == false)) (.pointer (some r_1)) := hT.vals 10 rfl 13 rfl
    have hAp := hAp.add e29
    exact opk_gval hAp rfl rfl (g := true) (e := x_11) rfl (fun hg => r_fieldAddr (cv_get (hAp.get rfl) hg) Tryz.underlying73 rfl ti_27 (by decide)) fun _ _ e => ⟨_, e, Chg.refl _ _, fun _ => Eq.refl _⟩
  · intro a w hT
    have hAp := hT.ag hA3 [] trivial (by kernel_rfl)
    have e30 : a.tmps.getD 7 undef = .bool x_11 := hT.vals 4 rfl 7 rfl
    have hAp := hAp.add e30
    have e31 : a.tmps.getD 14 undef = cV (true && (x_11 == false)) (.pointer (some (r_1.add 0))) := hT.vals 11 rfl 14 rfl
    have hAp := hAp.add e31
    exact opk_gval hAp rfl rfl (g := true) (e := x_11) rfl (fun hg => r_load1 Tryz.underlying27 rfl (cv_get (hAp.get rfl) hg) (Ext.cell hT.chg (hx33 (g_f hg)))) fun _ _ e => ⟨_, e, Chg.refl _ _, fun _ => Eq.refl _⟩
  · intro a w hT
    have hAp := hT.ag hA3 [] trivial (by kernel_rfl)
    have e35 : a.tmps.getD 7 undef = .bool x_11 := hT.vals 4 rfl 7 rfl
    have hAp := hAp.add e35
    have e36 : a.tmps.getD 15 undef = cV (true && (x_11 == false)) (Sl.v x_32) := hT.vals 12 rfl 15 rfl
    have hAp := hAp.add e36
    exact opk_gval hAp rfl rfl (g := true) (e := x_11) rfl (fun hg => r_len (cv_get (hAp.get rfl) hg) Tryz.underlying27) fun _ _ e => ⟨_, e, Chg.refl _ _, fun _ => Eq.refl _⟩
  · intro a w hT
    have hAp := hT.ag hA3 [] trivial (by kernel_rfl)
    have e37 : a.tmps.getD 7 undef = .bool x_11 := hT.vals 4 rfl 7 rfl
    have hAp := hAp.add e37
    have e38 : a.tmps.getD 11 undef = cV (true && (x_11 == false)) (.int .i64 x_22) := hT.vals 8 rfl 11 rfl
    have hAp := hAp.add e38
    have e39 : a.tmps.getD 16 undef = cV (true && (x_11 == false)) (.int .i64 (x_32.n : Int)) := hT.vals 13 rfl 16 rfl
    have hAp := hAp.add e39
    exact opk_gval hAp rfl rfl (g := true) (e := x_11) rfl (fun hg => r_geq (cv_get (hAp.get rfl) hg) (cv_get (hAp.get rfl) hg)) fun _ _ e => ⟨_, e, Chg.refl _ _, fun _ => Eq.refl _⟩
  · intro a w hT
    have hAp := hT.ag hA3 [] trivial (by kernel_rfl)
    have e40 : a.tmps.getD 7 undef = .bool x_11 := hT.vals 4 rfl 7 rfl
    have hAp := hAp.add e40
    have e41 : a.tmps.getD 17 undef = cV (true && (x_11 == false)) (.bool (decide ((x_32.n : Int) ≤ x_22))) := hT.vals 14 rfl 17 rfl
    have hAp := hAp.add e41
    exact opk_val hAp rfl (r_pick_or (g := (true && (x_11 == false))) (hAp.get rfl) (hAp.get rfl) (fun he => g_mkf rfl he)) fun _ _ e => ⟨_, e, Chg.refl _ _, fun _ => Eq.refl _⟩
  · intro a42 w43 hE44 hag45 hv46
    have hA42 := hag45 [(0, .pointer (some r_1))] ⟨rfl, trivial⟩ (by kernel_rfl)
    have e48 : a42.tmps.getD 18 undef = .bool (x_11 || (decide ((x_32.n : Int) ≤ x_22))) := hv46 15 rfl 18 rfl
    have hA49 := hA42.add e48
    have hC50 : Chg [] w4 w43 := hE44
    refine PR_end (by kernel_rfl) ?_
    have hA51 := hA49.keep [(0, .pointer (some r_1)), (18, .bool (x_11 || (decide ((x_32.n : Int) ≤ x_22))))] ⟨rfl, rfl, trivial⟩
    refine then_normal ?_
    refine wp_cond_split (hA51.get rfl) (fun hc => ?_) (fun hc => ?_)
    · have ht52 := ht34.1 ((b_or_t hc).imp (fun h => h) (fun h => (of_decide_eq_true h)))
      clear hc
      refine wp_seq ?_
      refine wp_region_lit ?_
      refine sq (opk_val hA51 rfl (r_move (hA51.get rfl)) fun a54 hA54 _ => ?_)
      refine sq (opk_val hA54 rfl (r_nilCheck (hA54.get rfl)) fun a55 hA55 _ => ?_)
      refine sq (opk_val hA55 rfl (r_fieldAddr (hA55.get rfl) Tryz.underlying73 rfl ti_4 (by decide)) fun a56 hA56 _ => ?_)
      have ht61 := ht52 w43    hC50
      obtain ⟨B_62, o_63, T_64, cs_65, he66, hb67, hl68, hx69, ht70⟩ := ht61
      refine sq (opk_store hA56 hb67 (r_store (vs := [.bool true]) (((hA56.get rfl)).trans (congrArg (fun a => Value.pointer (some a)) he66)) rfl rfl ti_4 hb67 (Nat.ble_eq_true_of_le hl68) (ones_all [.bool true] rfl)) fun a58 w57 hS59 hB60 hA58 => ?_)
      have ht71 := ht70 w57 hS59 hB60
      refine sq_end ?_
      have hA72 := hA58.keep [] trivial
      refine then_normal ?_
      refine wp_seq ?_
      refine wp_region_lit ?_
      refine sq (opk_val hA72 rfl (r_assign rfl) fun a73 hA73 _ => ?_)
      refine sq_end ?_
      have hA74 := hA73.keep [(2, .int .u8 0)] ⟨rfl, trivial⟩
      refine then_normal ?_
      refine wp_ret ?_
      refine then_ret ?_
      exact res_all (vs := [.int .u8 0]) rfl hA74 ⟨res_of_tmp hA74 rfl, trivial⟩ ht71
    · have ht53 := ht34.2 ⟨(b_or_f hc).1, (of_decide_eq_false (b_or_f hc).2)⟩
      clear hc
      refine wp_skip ?_
      refine then_normal ?_
      refine wp_seq ?_
      refine wp_region_lit ?_
      refine sq (opk_val hA51 rfl (r_move (hA51.get rfl)) fun a75 hA75 _ => ?_)
      refine sq (opk_val hA75 rfl (r_nilCheck (hA75.get rfl)) fun a76 hA76 _ => ?_)
      refine sq (opk_val hA76 rfl (r_fieldAddr (hA76.get rfl) Tryz.underlying73 rfl ti_3 (by decide)) fun a77 hA77 _ => ?_)
      have ht79 := ht53 w43    hC50
      obtain ⟨x_80, hx81, ht82⟩ := ht79
      refine sq (opk_val hA77 rfl (r_load1 Tryz.underlying3 rfl (hA77.get rfl) hx81) fun a78 hA78 _ => ?_)
      obtain ⟨hS84, ht85⟩ := ht82
      refine sq (opk_val hA78 rfl (r_addI (hA78.get rfl) rfl hS84) fun a83 hA83 _ => ?_)
      refine sq (opk_val hA83 rfl (r_nilCheck (hA83.get rfl)) fun a86 hA86 _ => ?_)
      refine sq (opk_val hA86 rfl (r_fieldAddr (hA86.get rfl) Tryz.underlying73 rfl ti_3 (by decide)) fun a87 hA87 _ => ?_)
      obtain ⟨B_92, o_93, T_94, cs_95, he96, hb97, hl98, hx99, ht100⟩ := ht85
      refine sq (opk_store hA87 hb97 (r_store (vs := [.int .i64 (x_80 + 1)]) (((hA87.get rfl)).trans (congrArg (fun a => Value.pointer (some a)) he96)) (hA87.get rfl) rfl ti_3 hb97 (Nat.ble_eq_true_of_le hl98) (ones_all [.int .i64 (x_80 + 1)] rfl)) fun a89 w88 hS90 hB91 hA89 => ?_)
      have ht101 := ht100 w88 hS90 hB91
      refine sq_end ?_
      have hA102 := hA89.keep [(0, .pointer (some r_1))] ⟨rfl, trivial⟩
      refine then_normal ?_
      refine wp_seq ?_
      refine draw' (by kernel_rfl) fun w103 hE104 => ?_
      have hC105 : Chg [] w88 w103 := hE104
      have ht106 := ht101 w103    hC105
      obtain ⟨x_110, hx111, ht112⟩ := ht106
      obtain ⟨x_116, hx117, ht118⟩ := ht112
      obtain ⟨hS120, ht121⟩ := ht118
      obtain ⟨p_124, hp125, ht126⟩ := ht121
      obtain ⟨x_128, hx129, ht130⟩ := ht126
      refine par (D := [[], [0], [0, 1], [0, 1, 2], [], [4], [4, 5], [4, 5, 6], [4, 5, 6, 7], [0, 1, 2, 3, 4, 5, 6, 7, 8], [0, 1, 2, 3, 4, 5, 6, 7, 8, 9], [0, 1, 2, 3, 4, 5, 6, 7, 8, 9, 10]]) (S := [0, 1, 2, 3, 4, 5, 6, 7, 8, 9, 10, 11]) (F := []) (V := VL [(0, fun v _ => v = .pointer (some r_1)), (1, fun v _ => v = .pointer (some r_1)), (2, fun v _ => v = .pointer (some (r_1.add 0))), (3, fun v _ => v = Sl.v x_110), (4, fun v _ => v = .pointer (some r_1)), (5, fun v _ => v = .pointer (some r_1)), (6, fun v _ => v = .pointer (some (r_1.add 1))), (7, fun v _ => v = .int .i64 x_116), (8, fun v _ => v = .int .i64 (x_116 - 1)), (9, fun v _ => v = .pointer (some (p_124.add ((x_116 - 1).toNat * 1)))), (10, fun v _ => v = .int .u8 x_128), (11, fun v _ => v = .int .u8 x_128)]) hA102 (by kernel_rfl) ⟨fun _ _ _ _ h => by first | exact h | (change _ = _ at h; change _ = _; exact h), fun _ _ _ _ h => by first | exact h | (change _ = _ at h; change _ = _; exact h), fun _ _ _ _ h => by first | exact h | (change _ = _ at h; change _ = _; exact h), fun _ _ _ _ h => by first | exact h | (change _ = _ at h; change _ = _; exact h), fun _ _ _ _ h => by first | exact h | (change _ = _ at h; change _ = _; exact h), fun _ _ _ _ h => by first | exact h | (change _ = _ at h; change _ = _; exact h), fun _ _ _ _ h => by first | exact h | (change _ = _ at h; change _ = _; exact h), fun _ _ _ _ h => by first | exact h | (change _ = _ at h; change _ = _; exact h), fun _ _ _ _ h => by first | exact h | (change _ = _ at h; change _ = _; exact h), fun _ _ _ _ h => by first | exact h | (change _ = _ at h; change _ = _; exact h), fun _ _ _ _ h => by first | exact h | (change _ = _ at h; change _ = _; exact h), fun _ _ _ _ h => by first | exact h | (change _ = _ at h; change _ = _; exact h), trivial⟩ ⟨?_, ?_, ?_, ?_, ?_, ?_, ?_, ?_, ?_, ?_, ?_, ?_, trivial⟩ ?_
      · intro a w hT
        have hAp := hT.ag hA102 [(0, .pointer (some r_1))] ⟨rfl, trivial⟩ (by kernel_rfl)
        exact opk_val hAp rfl (r_move (hAp.get rfl)) fun _ _ e => ⟨_, e, Chg.refl _ _, fun _ => Eq.refl _⟩
      · intro a w hT
        have hAp := hT.ag hA102 [] trivial (by kernel_rfl)
        have e107 : a.tmps.getD 29 undef = .pointer (some r_1) := hT.vals 0 rfl 29 rfl
        have hAp := hAp.add e107
        exact opk_val hAp rfl (r_nilCheck (hAp.get rfl)) fun _ _ e => ⟨_, e, Chg.refl _ _, fun _ => Eq.refl _⟩
      · intro a w hT
        have hAp := hT.ag hA102 [] trivial (by kernel_rfl)
        have e108 : a.tmps.getD 30 undef = .pointer (some r_1) := hT.vals 1 rfl 30 rfl
        have hAp := hAp.add e108
        exact opk_val hAp rfl (r_fieldAddr (hAp.get rfl) Tryz.underlying73 rfl ti_27 (by decide)) fun _ _ e => ⟨_, e, Chg.refl _ _, fun _ => Eq.refl _⟩
      · intro a w hT
        have hAp := hT.ag hA102 [] trivial (by kernel_rfl)
        have e109 : a.tmps.getD 31 undef = .pointer (some (r_1.add 0)) := hT.vals 2 rfl 31 rfl
        have hAp := hAp.add e109
        exact opk_val hAp rfl (r_load1 Tryz.underlying27 rfl (hAp.get rfl) (Ext.cell hT.chg hx111)) fun _ _ e => ⟨_, e, Chg.refl _ _, fun _ => Eq.refl _⟩
      · intro a w hT
        have hAp := hT.ag hA102 [(0, .pointer (some r_1))] ⟨rfl, trivial⟩ (by kernel_rfl)
        exact opk_val hAp rfl (r_move (hAp.get rfl)) fun _ _ e => ⟨_, e, Chg.refl _ _, fun _ => Eq.refl _⟩
      · intro a w hT
        have hAp := hT.ag hA102 [] trivial (by kernel_rfl)
        have e113 : a.tmps.getD 33 undef = .pointer (some r_1) := hT.vals 4 rfl 33 rfl
        have hAp := hAp.add e113
        exact opk_val hAp rfl (r_nilCheck (hAp.get rfl)) fun _ _ e => ⟨_, e, Chg.refl _ _, fun _ => Eq.refl _⟩
      · intro a w hT
        have hAp := hT.ag hA102 [] trivial (by kernel_rfl)
        have e114 : a.tmps.getD 34 undef = .pointer (some r_1) := hT.vals 5 rfl 34 rfl
        have hAp := hAp.add e114
        exact opk_val hAp rfl (r_fieldAddr (hAp.get rfl) Tryz.underlying73 rfl ti_3 (by decide)) fun _ _ e => ⟨_, e, Chg.refl _ _, fun _ => Eq.refl _⟩
      · intro a w hT
        have hAp := hT.ag hA102 [] trivial (by kernel_rfl)
        have e115 : a.tmps.getD 35 undef = .pointer (some (r_1.add 1)) := hT.vals 6 rfl 35 rfl
        have hAp := hAp.add e115
        exact opk_val hAp rfl (r_load1 Tryz.underlying3 rfl (hAp.get rfl) (Ext.cell hT.chg hx117)) fun _ _ e => ⟨_, e, Chg.refl _ _, fun _ => Eq.refl _⟩
      · intro a w hT
        have hAp := hT.ag hA102 [] trivial (by kernel_rfl)
        have e119 : a.tmps.getD 36 undef = .int .i64 x_116 := hT.vals 7 rfl 36 rfl
        have hAp := hAp.add e119
        exact opk_val hAp rfl (r_subI (hAp.get rfl) rfl hS120) fun _ _ e => ⟨_, e, Chg.refl _ _, fun _ => Eq.refl _⟩
      · intro a w hT
        have hAp := hT.ag hA102 [] trivial (by kernel_rfl)
        have e122 : a.tmps.getD 32 undef = Sl.v x_110 := hT.vals 3 rfl 32 rfl
        have hAp := hAp.add e122
        have e123 : a.tmps.getD 37 undef = .int .i64 (x_116 - 1) := hT.vals 8 rfl 37 rfl
        have hAp := hAp.add e123
        exact opk_val hAp rfl (r_indexAddr (hAp.get rfl) (hAp.get rfl) Tryz.underlying27 ti_5 hp125.1 hp125.2) fun _ _ e => ⟨_, e, Chg.refl _ _, fun _ => Eq.refl _⟩
      · intro a w hT
        have hAp := hT.ag hA102 [] trivial (by kernel_rfl)
        have e127 : a.tmps.getD 38 undef = .pointer (some (p_124.add ((x_116 - 1).toNat * 1))) := hT.vals 9 rfl 38 rfl
        have hAp := hAp.add e127
        exact opk_val hAp rfl (r_load1 Tryz.underlying5 rfl (hAp.get rfl) (Ext.cell hT.chg hx129)) fun _ _ e => ⟨_, e, Chg.refl _ _, fun _ => Eq.refl _⟩
      · intro a w hT
        have hAp := hT.ag hA102 [] trivial (by kernel_rfl)
        have e131 : a.tmps.getD 39 undef = .int .u8 x_128 := hT.vals 10 rfl 39 rfl
        have hAp := hAp.add e131
        exact opk_val hAp rfl (r_assign (hAp.get rfl)) fun _ _ e => ⟨_, e, Chg.refl _ _, fun _ => Eq.refl _⟩
      · intro a132 w133 hE134 hag135 hv136
        have hA132 := hag135 [] trivial (by kernel_rfl)
        have e138 : a132.tmps.getD 2 undef = .int .u8 x_128 := hv136 11 rfl 2 rfl
        have hA139 := hA132.add e138
        have hC140 : Chg [] w103 w133 := hE134
        refine PR_end (by kernel_rfl) ?_
        have hA141 := hA139.keep [(2, .int .u8 x_128)] ⟨rfl, trivial⟩
        refine then_normal ?_
        refine wp_ret ?_
        have ht142 := ht130 w133    hC140
        exact res_all (vs := [.int .u8 x_128]) rfl hA141 ⟨res_of_tmp hA141 rfl, trivial⟩ ht142

/-- The condition of (*topiary/codec.reader).of. -/
def codec_reader_of.vc (r_1 : Addr) (all_2 : Sl) (R : Value → World → Prop) (w : World) : Prop :=
CallK Tryz.prog 32 #[.pointer (some r_1)] w [] (fun v w8 => ∃ (r_6 : Int), v = .int .u64 r_6 ∧
∃ (x_20 : Bool), (w8.cell? (r_1.add 2) = some (.bool x_20)) ∧
(((x_20 = true) ∨ ((IntKind.u64.wrap (all_2.n : Int)) ≤ r_6)) →
∃ (B_40 o_41 : Nat) (T_42 : TypeId) (cs_43 : List Value), (r_1.add 2) = ⟨B_40, o_41, none⟩ ∧ Box w8 B_40 T_42 cs_43 ∧ o_41 + 1 ≤ cs_43.length ∧ (∀ b ∈ [], b ≠ B_40) ∧
(∀ w36 : World, Chg [B_40] w8 w36 → Box w36 B_40 T_42 (putAt cs_43 o_41 [.bool true]) →
R (.string (Bs ([] : Str))) w36)) ∧
(((x_20 = false) ∧ (¬ ((IntKind.u64.wrap (all_2.n : Int)) ≤ r_6))) →
((0 : Int) ≤ r_6 ∧ r_6 < (all_2.n : Int)) ∧ ∃ p_55 : Addr, all_2.a = some p_55 ∧
∃ (x_61 : Str), (w8.cell? (p_55.add (r_6.toNat * 1)) = some (.string (Bs x_61))) ∧
R (.string (Bs x_61)) w8))
set_option maxHeartbeats 1000000 in
set_option maxRecDepth 10000 in
theorem codec_reader_of.ok (r_1 : Addr) (all_2 : Sl) {R : Value → World → Prop} {w : World} (ht0 : codec_reader_of.vc r_1 all_2 R w) : Calls Tryz.prog 58 #[.pointer (some r_1), Sl.v all_2] w (Ret R) := by
  refine enter [.pointer (some r_1), Sl.v all_2] Tryz.func58 rfl Tryz.ntmps58 rfl ?_
  intro a0 hA0
  unfold codec_reader_of.vc at ht0
  refine wp_seq ?_
  refine wp_region_lit ?_
  refine sq (opk_val hA0 rfl (r_assign rfl) fun a3 hA3 _ => ?_)
  refine sq_end ?_
  have hA4 := hA3.keep [(0, .pointer (some r_1)), (1, Sl.v all_2)] ⟨rfl, rfl, trivial⟩
  refine then_normal ?_
  refine wp_seq ?_
  refine wp_region_lit ?_
  refine sq (opk_val hA4 rfl (r_move (hA4.get rfl)) fun a5 hA5 _ => ?_)
  refine sq (opk_call hA5 rfl (r_call (args := #[.pointer (some r_1)]) Tryz.func32 (by decide) rfl (map_arr (ml_cons (hA5.get rfl) ml_nil)) rfl) ht0 fun a7 v13 w8 hA7 _ hn10 hz11 hK12 => ?_)
  obtain ⟨r_6, rfl, ht9⟩ := hK12
  refine sq (opk_val hA7 rfl (r_assign (hA7.get rfl)) fun a14 hA14 _ => ?_)
  refine sq_end ?_
  have hA15 := hA14.keep [(0, .pointer (some r_1)), (1, Sl.v all_2), (5, .int .u64 r_6)] ⟨rfl, rfl, rfl, trivial⟩
  refine then_normal ?_
  refine wp_seq ?_
  refine wp_seq ?_
  refine wp_region_lit ?_
  refine sq (opk_val hA15 rfl (r_move (hA15.get rfl)) fun a16 hA16 _ => ?_)
  refine sq (opk_val hA16 rfl (r_nilCheck (hA16.get rfl)) fun a17 hA17 _ => ?_)
  refine sq (opk_val hA17 rfl (r_fieldAddr (hA17.get rfl) Tryz.underlying73 rfl ti_4 (by decide)) fun a18 hA18 _ => ?_)
  obtain ⟨x_20, hx21, ht22⟩ := ht9
  refine sq (opk_val hA18 rfl (r_load1 Tryz.underlying4 rfl (hA18.get rfl) hx21) fun a19 hA19 _ => ?_)
  refine sq (opk_val hA19 rfl (r_move (hA19.get rfl)) fun a23 hA23 _ => ?_)
  refine sq (opk_gval hA23 rfl rfl (g := true) (e := x_20) rfl (fun hg => r_move (hA23.get rfl)) fun a24 hA24 _ => ?_)
  refine sq (opk_gval hA24 rfl rfl (g := true) (e := x_20) rfl (fun hg => r_move (hA24.get rfl)) fun a25 hA25 _ => ?_)
  refine sq (opk_gval hA25 rfl rfl (g := true) (e := x_20) rfl (fun hg => r_len (cv_get (hA25.get rfl) hg) Tryz.underlying61) fun a26 hA26 _ => ?_)
  refine sq (opk_gval hA26 rfl rfl (g := true) (e := x_20) rfl (fun hg => r_conv (cv_get (hA26.get rfl) hg) rfl Tryz.underlying22) fun a27 hA27 _ => ?_)
  refine sq (opk_gval hA27 rfl rfl (g := true) (e := x_20) rfl (fun hg => r_geq (cv_get (hA27.get rfl) hg) (cv_get (hA27.get rfl) hg)) fun a28 hA28 _ => ?_)
  refine sq (opk_val hA28 rfl (r_pick_or (g := (true && (x_20 == false))) (hA28.get rfl) (hA28.get rfl) (fun he => g_mkf rfl he)) fun a29 hA29 _ => ?_)
  refine sq_end ?_
  have hA30 := hA29.keep [(0, .pointer (some r_1)), (1, Sl.v all_2), (5, .int .u64 r_6), (18, .bool (x_20 || (decide ((IntKind.u64.wrap (all_2.n : Int)) ≤ r_6))))] ⟨rfl, rfl, rfl, rfl, trivial⟩
  refine then_normal ?_
  refine wp_cond_split (hA30.get rfl) (fun hc => ?_) (fun hc => ?_)
  · have ht31 := ht22.1 ((b_or_t hc).imp (fun h => h) (fun h => (of_decide_eq_true h)))
    clear hc
    refine wp_seq ?_
    refine wp_region_lit ?_
    refine sq (opk_val hA30 rfl (r_move (hA30.get rfl)) fun a33 hA33 _ => ?_)
    refine sq (opk_val hA33 rfl (r_nilCheck (hA33.get rfl)) fun a34 hA34 _ => ?_)
    refine sq (opk_val hA34 rfl (r_fieldAddr (hA34.get rfl) Tryz.underlying73 rfl ti_4 (by decide)) fun a35 hA35 _ => ?_)
    obtain ⟨B_40, o_41, T_42, cs_43, he44, hb45, hl46, hx47, ht48⟩ := ht31
    refine sq (opk_store hA35 hb45 (r_store (vs := [.bool true]) (((hA35.get rfl)).trans (congrArg (fun a => Value.pointer (some a)) he44)) rfl rfl ti_4 hb45 (Nat.ble_eq_true_of_le hl46) (ones_all [.bool true] rfl)) fun a37 w36 hS38 hB39 hA37 => ?_)
    have ht49 := ht48 w36 hS38 hB39
    refine sq_end ?_
    have hA50 := hA37.keep [] trivial
    refine then_normal ?_
    refine wp_seq ?_
    refine wp_region_lit ?_
    refine sq (opk_val hA50 rfl (r_assign rfl) fun a51 hA51 _ => ?_)
    refine sq_end ?_
    have hA52 := hA51.keep [(4, .string (Bs ([] : Str)))] ⟨rfl, trivial⟩
    refine then_normal ?_
    refine wp_ret ?_
    refine then_ret ?_
    exact res_all (vs := [.string (Bs ([] : Str))]) rfl hA52 ⟨res_of_tmp hA52 rfl, trivial⟩ ht49
  · have ht32 := ht22.2 ⟨(b_or_f hc).1, (of_decide_eq_false (b_or_f hc).2)⟩
    clear hc
    refine wp_skip ?_
    refine then_normal ?_
    refine wp_seq ?_
    refine wp_region_lit ?_
    refine sq (opk_val hA30 rfl (r_move (hA30.get rfl)) fun a53 hA53 _ => ?_)
    refine sq (opk_val hA53 rfl (r_move (hA53.get rfl)) fun a54 hA54 _ => ?_)
    obtain ⟨hb56, p_55, hp57, ht58⟩ := ht32
    refine sq (opk_val hA54 rfl (r_indexAddr (hA54.get rfl) (hA54.get rfl) Tryz.underlying61 ti_9 hb56 hp57) fun a59 hA59 _ => ?_)
    obtain ⟨x_61, hx62, ht63⟩ := ht58
    refine sq (opk_val hA59 rfl (r_load1 Tryz.underlying9 rfl (hA59.get rfl) hx62) fun a60 hA60 _ => ?_)
    refine sq (opk_val hA60 rfl (r_assign (hA60.get rfl)) fun a64 hA64 _ => ?_)
    refine sq_end ?_
    have hA65 := hA64.keep [(4, .string (Bs x_61))] ⟨rfl, trivial⟩
    refine then_normal ?_
    refine wp_ret ?_
    exact res_all (vs := [.string (Bs x_61)]) rfl hA65 ⟨res_of_tmp hA65 rfl, trivial⟩ ht63

end Go.Proofs.YteacalmdpoblpaaGreat
