/-
  PRINTED BY PROGRAM: for each function its condition (vc), and that this suffices (ok).
-/
import Derived.Test.YteohbfaechfliaaGT
namespace Go.Proofs.Yteohbfaechfliaa
open Go.RowKit
set_option linter.unusedVariables false

/-- The condition of topiary/topiarylaw25.awake. -/
def law25_awake.vc  (R : Value → World → Prop) (w : World) : Prop :=
∀ (w86 : World) (B_4 : Nat) (B_13 : Nat) (B_35 : Nat) (B_50 : Nat) (B_85 : Nat), New w B_4 w86 → New w B_13 w86 → New w B_35 w86 → New w B_50 w86 → New w B_85 w86 → B_4 ≠ B_13 → B_4 ≠ B_35 → B_4 ≠ B_50 → B_4 ≠ B_85 → B_13 ≠ B_35 → B_13 ≠ B_50 → B_13 ≠ B_85 → B_35 ≠ B_50 → B_35 ≠ B_85 → B_50 ≠ B_85 → Chg [] w w86 →
∀ (_ : Box w86 B_4 26 [.int .i64 3, .string (Bs ([] : Str)), .string (Bs ([97] : Str)), Sl.v Sl.nil, Sl.v Sl.nil]),
∀ (_ : Box w86 B_35 26 [.int .i64 3, .string (Bs ([] : Str)), .string (Bs ([98] : Str)), Sl.v Sl.nil, Sl.v Sl.nil]),
∀ (_ : Box w86 B_85 40 [.int .i64 0, .int .i64 0, .int .i64 1, .int .i64 1]),
CallK Try.prog 12 #[.agg #[.int .i64 1, .string (Bs ([] : Str)), .string (Bs ([] : Str)), Sl.v Sl.nil, Sl.v (Sl.mk (some ⟨B_4, 0, none⟩) 1 1)], .agg #[.int .i64 1, .string (Bs ([] : Str)), .string (Bs ([] : Str)), Sl.v Sl.nil, Sl.v (Sl.mk (some ⟨B_35, 0, none⟩) 1 1)], Sl.v (Sl.mk (some ⟨B_85, 0, none⟩) 2 2)] w86 [B_13, B_50] (fun v w112 => ∃ (r_0_109 : Sl) (r_1_110 : Int), v = .tuple #[Sl.v r_0_109, .int .i64 r_1_110] ∧
∃ p_135 : Addr, ((((r_1_110 = 0) ∧ ((r_0_109.n : Int) = 2))) → ((0 : Int) ≤ 1 ∧ 1 < (r_0_109.n : Int)) ∧  r_0_109.a = some p_135) ∧
∃ (x_142 : Bool), ((((r_1_110 = 0) ∧ ((r_0_109.n : Int) = 2))) → w112.cell? ((p_135.add (1 * 6)).add 1) = some (.bool x_142)) ∧
∃ p_148 : Addr, (((((r_1_110 = 0) ∧ ((r_0_109.n : Int) = 2)) ∧ (x_142 = true))) → ((0 : Int) ≤ 1 ∧ 1 < (r_0_109.n : Int)) ∧  r_0_109.a = some p_148) ∧
∃ (x_155 : Int), (((((r_1_110 = 0) ∧ ((r_0_109.n : Int) = 2)) ∧ (x_142 = true))) → w112.cell? ((p_148.add (1 * 6)).add 4) = some (.int .i64 x_155)) ∧
∃ (r_163 : Bool), ((((((r_1_110 = 0) ∧ ((r_0_109.n : Int) = 2)) ∧ (x_142 = true)) ∧ (x_155 = 0))) → Calls Try.prog 16 #[.agg #[.int .i64 1, .string (Bs ([] : Str)), .string (Bs ([] : Str)), Sl.v Sl.nil, Sl.v (Sl.mk (some ⟨B_4, 0, none⟩) 1 1)], Sl.v r_0_109, .int .i64 1] w112 (Ret fun v w' => Ext w112 w' ∧ v = .bool r_163)) ∧
(∀ w165 : World, Ext w112 w165 →
∃ (r_176 : Bool), (((((((r_1_110 = 0) ∧ ((r_0_109.n : Int) = 2)) ∧ (x_142 = true)) ∧ (x_155 = 0)) ∧ (r_163 = true))) → Calls Try.prog 16 #[.agg #[.int .i64 1, .string (Bs ([] : Str)), .string (Bs ([] : Str)), Sl.v Sl.nil, Sl.v (Sl.mk (some ⟨B_4, 0, none⟩) 1 1)], Sl.v r_0_109, .int .i64 0] w165 (Ret fun v w' => Ext w165 w' ∧ v = .bool r_176)) ∧
(∀ w178 : World, Ext w165 w178 →
R (.bool ((((((decide (r_1_110 = 0)) && (decide ((r_0_109.n : Int) = 2))) && x_142) && (decide (x_155 = 0))) && r_163) && (!r_176))) w178)))
set_option maxHeartbeats 1000000 in
set_option maxRecDepth 10000 in
theorem law25_awake.ok  {R : Value → World → Prop} {w : World} (ht0 : law25_awake.vc  R w) : Calls Try.prog 14 #[] w (Ret R) := by
  refine enter [] Try.func14 rfl Try.ntmps14 rfl ?_
  intro a0 hA0
  unfold law25_awake.vc at ht0
  refine wp_seq ?_
  refine wp_region_lit ?_
  refine sq (opk_val hA0 rfl (r_assign rfl) fun a1 hA1 _ => ?_)
  refine sq_end ?_
  have hA2 := hA1.keep [] trivial
  refine then_normal ?_
  refine wp_seq ?_
  refine wp_region_lit ?_
  refine sq (opk_val hA2 rfl (r_build (vs := #[(0, .int .i64 3), (2, .string (Bs ([97] : Str)))]) (cells := #[.int .i64 3, .string (Bs ([] : Str)), .string (Bs ([97] : Str)), Sl.v Sl.nil, Sl.v Sl.nil]) (map_arr2 (ml2_cons rfl (ml2_cons rfl (ml2_nil)))) ti_26 Try.underlying26 pl_26 (by kernel_rfl)) fun a3 hA3 _ => ?_)
  refine sq (opk_new (fun B => .slice (some ⟨B, 0, none⟩) 1 1) hA3 rfl (r_buildSlice (vs := #[(0, .agg #[.int .i64 3, .string (Bs ([] : Str)), .string (Bs ([97] : Str)), Sl.v Sl.nil, Sl.v Sl.nil])]) (cs := [.int .i64 3, .string (Bs ([] : Str)), .string (Bs ([97] : Str)), Sl.v Sl.nil, Sl.v Sl.nil]) (map_arr2 (ml2_cons (hA3.get rfl) (ml2_nil))) Try.underlying24 ti_26 rfl rfl (by kernel_rfl)) fun a6 w5 B_4 hE7 hN8 hB9 hA6 _ => ?_)
  have hN10 : New w B_4 w5 := hN8
  have hC11 : Chg [] w w5 := hE7
  refine sq (opk_val hA6 rfl (r_build (vs := #[(0, .int .i64 1), (4, Sl.v (Sl.mk (some ⟨B_4, 0, none⟩) 1 1))]) (cells := #[.int .i64 1, .string (Bs ([] : Str)), .string (Bs ([] : Str)), Sl.v Sl.nil, Sl.v (Sl.mk (some ⟨B_4, 0, none⟩) 1 1)]) (map_arr2 (ml2_cons rfl (ml2_cons (hA6.get rfl) (ml2_nil)))) ti_26 Try.underlying26 pl_26 (by kernel_rfl)) fun a12 hA12 _ => ?_)
  refine sq (opk_new (fun B => .pointer (some ⟨B, 0, none⟩)) hA12 rfl (r_alloc (cs := [.int .i64 0, .string (Bs ([] : Str)), .string (Bs ([] : Str)), Sl.v Sl.nil, Sl.v Sl.nil]) ti_26 rfl) fun a15 w14 B_13 hE16 hN17 hB18 hA15 _ => ?_)
  have hne19 : B_4 ≠ B_13 := Nat.ne_of_lt (Nat.lt_of_lt_of_le hB9.lt hN17.ge)
  have hN20 := New.of hC11 hN17
  have hB21 := hB9.ext hE16
  have hC22 := hC11.more hE16
  have hN23 := hN10.up hE16.size
  refine sq (opk_store hA15 hB18 (r_store (vs := [.int .i64 1, .string (Bs ([] : Str)), .string (Bs ([] : Str)), Sl.v Sl.nil, Sl.v (Sl.mk (some ⟨B_4, 0, none⟩) 1 1)]) (hA15.get rfl) (hA15.get rfl) rfl ti_26 hB18 rfl (ones_all [.int .i64 1, .string (Bs ([] : Str)), .string (Bs ([] : Str)), Sl.v Sl.nil, Sl.v (Sl.mk (some ⟨B_4, 0, none⟩) 1 1)] rfl)) fun a25 w24 hS26 hB27 hA25 => ?_)
  have hB28 : Box w24 B_13 26 [.int .i64 1, .string (Bs ([] : Str)), .string (Bs ([] : Str)), Sl.v Sl.nil, Sl.v (Sl.mk (some ⟨B_4, 0, none⟩) 1 1)] := hB27
  have hB29 := hB21.keep hS26 (by simpa using hne19)
  have hC30 := hC22.storeNew hN20 hS26
  have hN31 := hN23.up hS26.size
  have hN32 := hN20.up hS26.size
  refine sq_end ?_
  have hA33 := hA25.keep [(1, .pointer (some (⟨B_13, 0, none⟩ : Addr)))] ⟨rfl, trivial⟩
  refine then_normal ?_
  refine wp_seq ?_
  refine wp_region_lit ?_
  refine sq (opk_val hA33 rfl (r_build (vs := #[(0, .int .i64 3), (2, .string (Bs ([98] : Str)))]) (cells := #[.int .i64 3, .string (Bs ([] : Str)), .string (Bs ([98] : Str)), Sl.v Sl.nil, Sl.v Sl.nil]) (map_arr2 (ml2_cons rfl (ml2_cons rfl (ml2_nil)))) ti_26 Try.underlying26 pl_26 (by kernel_rfl)) fun a34 hA34 _ => ?_)
  refine sq (opk_new (fun B => .slice (some ⟨B, 0, none⟩) 1 1) hA34 rfl (r_buildSlice (vs := #[(0, .agg #[.int .i64 3, .string (Bs ([] : Str)), .string (Bs ([98] : Str)), Sl.v Sl.nil, Sl.v Sl.nil])]) (cs := [.int .i64 3, .string (Bs ([] : Str)), .string (Bs ([98] : Str)), Sl.v Sl.nil, Sl.v Sl.nil]) (map_arr2 (ml2_cons (hA34.get rfl) (ml2_nil))) Try.underlying24 ti_26 rfl rfl (by kernel_rfl)) fun a37 w36 B_35 hE38 hN39 hB40 hA37 _ => ?_)
  have hne41 : B_4 ≠ B_35 := Nat.ne_of_lt (Nat.lt_of_lt_of_le hB29.lt hN39.ge)
  have hne42 : B_13 ≠ B_35 := Nat.ne_of_lt (Nat.lt_of_lt_of_le hB28.lt hN39.ge)
  have hN43 := New.of hC30 hN39
  have hB44 := hB29.ext hE38
  have hB45 := hB28.ext hE38
  have hC46 := hC30.more hE38
  have hN47 := hN31.up hE38.size
  have hN48 := hN32.up hE38.size
  refine sq (opk_val hA37 rfl (r_build (vs := #[(0, .int .i64 1), (4, Sl.v (Sl.mk (some ⟨B_35, 0, none⟩) 1 1))]) (cells := #[.int .i64 1, .string (Bs ([] : Str)), .string (Bs ([] : Str)), Sl.v Sl.nil, Sl.v (Sl.mk (some ⟨B_35, 0, none⟩) 1 1)]) (map_arr2 (ml2_cons rfl (ml2_cons (hA37.get rfl) (ml2_nil)))) ti_26 Try.underlying26 pl_26 (by kernel_rfl)) fun a49 hA49 _ => ?_)
  refine sq (opk_new (fun B => .pointer (some ⟨B, 0, none⟩)) hA49 rfl (r_alloc (cs := [.int .i64 0, .string (Bs ([] : Str)), .string (Bs ([] : Str)), Sl.v Sl.nil, Sl.v Sl.nil]) ti_26 rfl) fun a52 w51 B_50 hE53 hN54 hB55 hA52 _ => ?_)
  have hne56 : B_4 ≠ B_50 := Nat.ne_of_lt (Nat.lt_of_lt_of_le hB44.lt hN54.ge)
  have hne57 : B_13 ≠ B_50 := Nat.ne_of_lt (Nat.lt_of_lt_of_le hB45.lt hN54.ge)
  have hne58 : B_35 ≠ B_50 := Nat.ne_of_lt (Nat.lt_of_lt_of_le hB40.lt hN54.ge)
  have hN59 := New.of hC46 hN54
  have hB60 := hB44.ext hE53
  have hB61 := hB45.ext hE53
  have hB62 := hB40.ext hE53
  have hC63 := hC46.more hE53
  have hN64 := hN47.up hE53.size
  have hN65 := hN48.up hE53.size
  have hN66 := hN43.up hE53.size
  refine sq (opk_store hA52 hB55 (r_store (vs := [.int .i64 1, .string (Bs ([] : Str)), .string (Bs ([] : Str)), Sl.v Sl.nil, Sl.v (Sl.mk (some ⟨B_35, 0, none⟩) 1 1)]) (hA52.get rfl) (hA52.get rfl) rfl ti_26 hB55 rfl (ones_all [.int .i64 1, .string (Bs ([] : Str)), .string (Bs ([] : Str)), Sl.v Sl.nil, Sl.v (Sl.mk (some ⟨B_35, 0, none⟩) 1 1)] rfl)) fun a68 w67 hS69 hB70 hA68 => ?_)
  have hB71 : Box w67 B_50 26 [.int .i64 1, .string (Bs ([] : Str)), .string (Bs ([] : Str)), Sl.v Sl.nil, Sl.v (Sl.mk (some ⟨B_35, 0, none⟩) 1 1)] := hB70
  have hB72 := hB60.keep hS69 (by simpa using hne56)
  have hB73 := hB61.keep hS69 (by simpa using hne57)
  have hB74 := hB62.keep hS69 (by simpa using hne58)
  have hC75 := hC63.storeNew hN59 hS69
  have hN76 := hN64.up hS69.size
  have hN77 := hN65.up hS69.size
  have hN78 := hN66.up hS69.size
  have hN79 := hN59.up hS69.size
  refine sq_end ?_
  have hA80 := hA68.keep [(1, .pointer (some (⟨B_13, 0, none⟩ : Addr))), (2, .pointer (some (⟨B_50, 0, none⟩ : Addr)))] ⟨rfl, rfl, trivial⟩
  refine then_normal ?_
  refine wp_seq ?_
  refine wp_region_lit ?_
  refine sq (opk_val hA80 rfl (r_loadN (cs := [.int .i64 1, .string (Bs ([] : Str)), .string (Bs ([] : Str)), Sl.v Sl.nil, Sl.v (Sl.mk (some ⟨B_4, 0, none⟩) 1 1)]) Try.underlying26 rfl ti_26 (hA80.get rfl) (hB73.part 0 _ rfl)) fun a81 hA81 _ => ?_)
  refine sq (opk_val hA81 rfl (r_loadN (cs := [.int .i64 1, .string (Bs ([] : Str)), .string (Bs ([] : Str)), Sl.v Sl.nil, Sl.v (Sl.mk (some ⟨B_35, 0, none⟩) 1 1)]) Try.underlying26 rfl ti_26 (hA81.get rfl) (hB71.part 0 _ rfl)) fun a82 hA82 _ => ?_)
  refine sq (opk_val hA82 rfl (r_build (vs := #[]) (cells := #[.int .i64 0, .int .i64 0]) (map_arr2 ml2_nil) ti_40 Try.underlying40 pl_40 (by kernel_rfl)) fun a83 hA83 _ => ?_)
  refine sq (opk_val hA83 rfl (r_build (vs := #[(0, .int .i64 1), (1, .int .i64 1)]) (cells := #[.int .i64 1, .int .i64 1]) (map_arr2 (ml2_cons rfl (ml2_cons rfl (ml2_nil)))) ti_40 Try.underlying40 pl_40 (by kernel_rfl)) fun a84 hA84 _ => ?_)
  refine sq (opk_new (fun B => .slice (some ⟨B, 0, none⟩) 2 2) hA84 rfl (r_buildSlice (vs := #[(0, .agg #[.int .i64 0, .int .i64 0]), (1, .agg #[.int .i64 1, .int .i64 1])]) (cs := [.int .i64 0, .int .i64 0, .int .i64 1, .int .i64 1]) (map_arr2 (ml2_cons (hA84.get rfl) (ml2_cons (hA84.get rfl) (ml2_nil)))) Try.underlying29 ti_40 rfl rfl (by kernel_rfl)) fun a87 w86 B_85 hE88 hN89 hB90 hA87 _ => ?_)
  have hne91 : B_4 ≠ B_85 := Nat.ne_of_lt (Nat.lt_of_lt_of_le hB72.lt hN89.ge)
  have hne92 : B_13 ≠ B_85 := Nat.ne_of_lt (Nat.lt_of_lt_of_le hB73.lt hN89.ge)
  have hne93 : B_35 ≠ B_85 := Nat.ne_of_lt (Nat.lt_of_lt_of_le hB74.lt hN89.ge)
  have hne94 : B_50 ≠ B_85 := Nat.ne_of_lt (Nat.lt_of_lt_of_le hB71.lt hN89.ge)
  have hN95 := New.of hC75 hN89
  have hB96 := hB72.ext hE88
  have hB97 := hB73.ext hE88
  have hB98 := hB74.ext hE88
  have hB99 := hB71.ext hE88
  have hC100 := hC75.more hE88
  have hN101 := hN76.up hE88.size
  have hN102 := hN77.up hE88.size
  have hN103 := hN78.up hE88.size
  have hN104 := hN79.up hE88.size
  have ht105 := ht0 w86 B_4 B_13 B_35 B_50 B_85 hN101 hN102 hN103 hN104 hN95 hne19 hne41 hne56 hne91 hne42 hne57 hne92 hne58 hne93 hne94 hC100
  have ht106 := ht105 hB96
  have ht107 := ht106 hB98
  have ht108 := ht107 hB90
  refine sq (opk_call hA87 rfl (r_call (args := #[.agg #[.int .i64 1, .string (Bs ([] : Str)), .string (Bs ([] : Str)), Sl.v Sl.nil, Sl.v (Sl.mk (some ⟨B_4, 0, none⟩) 1 1)], .agg #[.int .i64 1, .string (Bs ([] : Str)), .string (Bs ([] : Str)), Sl.v Sl.nil, Sl.v (Sl.mk (some ⟨B_35, 0, none⟩) 1 1)], Sl.v (Sl.mk (some ⟨B_85, 0, none⟩) 2 2)]) Try.func12 (by decide) rfl (map_arr (ml_cons (hA87.get rfl) (ml_cons (hA87.get rfl) (ml_cons (hA87.get rfl) ml_nil)))) rfl) ht108 fun a111 v117 w112 hA111 _ hn114 hz115 hK116 => ?_)
  obtain ⟨r_0_109, r_1_110, rfl, ht113⟩ := hK116
  have hB118 := hB97.kept hn114 (.head _)
  have hB119 := hB99.kept hn114 (.tail _ (.head _))
  refine sq (opk_val hA111 rfl (r_move (hA111.get rfl)) fun a120 hA120 _ => ?_)
  refine sq (opk_val hA120 rfl (r_extract (hA120.get rfl) rfl) fun a121 hA121 _ => ?_)
  refine sq (opk_val hA121 rfl (r_extract (hA121.get rfl) rfl) fun a122 hA122 _ => ?_)
  refine sq (opk_val hA122 rfl (r_assign (hA122.get rfl)) fun a123 hA123 _ => ?_)
  refine sq (opk_val hA123 rfl (r_assign (hA123.get rfl)) fun a124 hA124 _ => ?_)
  refine sq_end ?_
  have hA125 := hA124.keep [(1, .pointer (some (⟨B_13, 0, none⟩ : Addr))), (3, Sl.v r_0_109), (4, .int .i64 r_1_110)] ⟨rfl, rfl, rfl, trivial⟩
  refine then_normal ?_
  refine wp_seq ?_
  refine wp_region_lit ?_
  refine sq (opk_val hA125 rfl (r_move (hA125.get rfl)) fun a126 hA126 _ => ?_)
  refine sq (opk_val hA126 rfl (r_eql (hA126.get rfl) rfl) fun a127 hA127 _ => ?_)
  refine sq (opk_val hA127 rfl (r_move (hA127.get rfl)) fun a128 hA128 _ => ?_)
  refine sq (opk_gval hA128 rfl rfl (g := true) (e := (decide (r_1_110 = 0))) rfl (fun hg => r_move (hA128.get rfl)) fun a129 hA129 _ => ?_)
  refine sq (opk_gval hA129 rfl rfl (g := true) (e := (decide (r_1_110 = 0))) rfl (fun hg => r_len (cv_get (hA129.get rfl) hg) Try.underlying33) fun a130 hA130 _ => ?_)
  refine sq (opk_gval hA130 rfl rfl (g := true) (e := (decide (r_1_110 = 0))) rfl (fun hg => r_eql (cv_get (hA130.get rfl) hg) rfl) fun a131 hA131 _ => ?_)
  refine sq (opk_val hA131 rfl (r_pick_and (g := (true && ((decide (r_1_110 = 0)) == true))) (hA131.get rfl) (hA131.get rfl) (fun he => g_mkt rfl he)) fun a132 hA132 _ => ?_)
  refine sq (opk_val hA132 rfl (r_move (hA132.get rfl)) fun a133 hA133 _ => ?_)
  refine sq (opk_gval hA133 rfl rfl (g := true) (e := ((decide (r_1_110 = 0)) && (decide ((r_0_109.n : Int) = 2)))) rfl (fun hg => r_move (hA133.get rfl)) fun a134 hA134 _ => ?_)
  obtain ⟨p_135, hp137, ht138⟩ := ht113
  refine sq (opk_gval hA134 rfl rfl (g := true) (e := ((decide (r_1_110 = 0)) && (decide ((r_0_109.n : Int) = 2)))) rfl (fun hg => r_indexAddr (cv_get (hA134.get rfl) hg) rfl Try.underlying33 ti_43 (hp137 ⟨(of_decide_eq_true (b_and_t (g_t hg)).1), (of_decide_eq_true (b_and_t (g_t hg)).2)⟩).1 (hp137 ⟨(of_decide_eq_true (b_and_t (g_t hg)).1), (of_decide_eq_true (b_and_t (g_t hg)).2)⟩).2) fun a139 hA139 _ => ?_)
  refine sq (opk_gval hA139 rfl rfl (g := true) (e := ((decide (r_1_110 = 0)) && (decide ((r_0_109.n : Int) = 2)))) rfl (fun hg => r_fieldAddr (cv_get (hA139.get rfl) hg) Try.underlying43 rfl ti_4 (by decide)) fun a140 hA140 _ => ?_)
  obtain ⟨x_142, hx143, ht144⟩ := ht138
  refine sq (opk_gval hA140 rfl rfl (g := true) (e := ((decide (r_1_110 = 0)) && (decide ((r_0_109.n : Int) = 2)))) rfl (fun hg => r_load1 Try.underlying4 rfl (cv_get (hA140.get rfl) hg) (hx143 ⟨(of_decide_eq_true (b_and_t (g_t hg)).1), (of_decide_eq_true (b_and_t (g_t hg)).2)⟩)) fun a141 hA141 _ => ?_)
  refine sq (opk_val hA141 rfl (r_pick_and (g := (true && (((decide (r_1_110 = 0)) && (decide ((r_0_109.n : Int) = 2))) == true))) (hA141.get rfl) (hA141.get rfl) (fun he => g_mkt rfl he)) fun a145 hA145 _ => ?_)
  refine sq (opk_val hA145 rfl (r_move (hA145.get rfl)) fun a146 hA146 _ => ?_)
  refine sq (opk_gval hA146 rfl rfl (g := true) (e := (((decide (r_1_110 = 0)) && (decide ((r_0_109.n : Int) = 2))) && x_142)) rfl (fun hg => r_move (hA146.get rfl)) fun a147 hA147 _ => ?_)
  obtain ⟨p_148, hp150, ht151⟩ := ht144
  refine sq (opk_gval hA147 rfl rfl (g := true) (e := (((decide (r_1_110 = 0)) && (decide ((r_0_109.n : Int) = 2))) && x_142)) rfl (fun hg => r_indexAddr (cv_get (hA147.get rfl) hg) rfl Try.underlying33 ti_43 (hp150 ⟨⟨(of_decide_eq_true (b_and_t (b_and_t (g_t hg)).1).1), (of_decide_eq_true (b_and_t (b_and_t (g_t hg)).1).2)⟩, (b_and_t (g_t hg)).2⟩).1 (hp150 ⟨⟨(of_decide_eq_true (b_and_t (b_and_t (g_t hg)).1).1), (of_decide_eq_true (b_and_t (b_and_t (g_t hg)).1).2)⟩, (b_and_t (g_t hg)).2⟩).2) fun a152 hA152 _ => ?_)
  refine sq (opk_gval hA152 rfl rfl (g := true) (e := (((decide (r_1_110 = 0)) && (decide ((r_0_109.n : Int) = 2))) && x_142)) rfl (fun hg => r_fieldAddr (cv_get (hA152.get rfl) hg) Try.underlying43 rfl ti_3 (by decide)) fun a153 hA153 _ => ?_)
  obtain ⟨x_155, hx156, ht157⟩ := ht151
  refine sq (opk_gval hA153 rfl rfl (g := true) (e := (((decide (r_1_110 = 0)) && (decide ((r_0_109.n : Int) = 2))) && x_142)) rfl (fun hg => r_load1 Try.underlying3 rfl (cv_get (hA153.get rfl) hg) (hx156 ⟨⟨(of_decide_eq_true (b_and_t (b_and_t (g_t hg)).1).1), (of_decide_eq_true (b_and_t (b_and_t (g_t hg)).1).2)⟩, (b_and_t (g_t hg)).2⟩)) fun a154 hA154 _ => ?_)
  refine sq (opk_gval hA154 rfl rfl (g := true) (e := (((decide (r_1_110 = 0)) && (decide ((r_0_109.n : Int) = 2))) && x_142)) rfl (fun hg => r_eql (cv_get (hA154.get rfl) hg) rfl) fun a158 hA158 _ => ?_)
  refine sq (opk_val hA158 rfl (r_pick_and (g := (true && ((((decide (r_1_110 = 0)) && (decide ((r_0_109.n : Int) = 2))) && x_142) == true))) (hA158.get rfl) (hA158.get rfl) (fun he => g_mkt rfl he)) fun a159 hA159 _ => ?_)
  refine sq (opk_val hA159 rfl (r_move (hA159.get rfl)) fun a160 hA160 _ => ?_)
  refine sq (opk_gval hA160 rfl rfl (g := true) (e := ((((decide (r_1_110 = 0)) && (decide ((r_0_109.n : Int) = 2))) && x_142) && (decide (x_155 = 0)))) rfl (fun hg => r_loadN (cs := [.int .i64 1, .string (Bs ([] : Str)), .string (Bs ([] : Str)), Sl.v Sl.nil, Sl.v (Sl.mk (some ⟨B_4, 0, none⟩) 1 1)]) Try.underlying26 rfl ti_26 (hA160.get rfl) (hB118.part 0 _ rfl)) fun a161 hA161 _ => ?_)
  refine sq (opk_gval hA161 rfl rfl (g := true) (e := ((((decide (r_1_110 = 0)) && (decide ((r_0_109.n : Int) = 2))) && x_142) && (decide (x_155 = 0)))) rfl (fun hg => r_move (hA161.get rfl)) fun a162 hA162 _ => ?_)
  obtain ⟨r_163, hc167, ht166⟩ := ht157
  refine sq (opk_gcall hA162 rfl rfl (g := true) (e := ((((decide (r_1_110 = 0)) && (decide ((r_0_109.n : Int) = 2))) && x_142) && (decide (x_155 = 0)))) rfl (fun hg => r_call (args := #[.agg #[.int .i64 1, .string (Bs ([] : Str)), .string (Bs ([] : Str)), Sl.v Sl.nil, Sl.v (Sl.mk (some ⟨B_4, 0, none⟩) 1 1)], Sl.v r_0_109, .int .i64 1]) Try.func16 (by decide) rfl (map_arr (ml_cons (cv_get (hA162.get rfl) hg) (ml_cons (cv_get (hA162.get rfl) hg) (ml_cons rfl ml_nil)))) rfl) (fun hg => hc167 ⟨⟨⟨(of_decide_eq_true (b_and_t (b_and_t (b_and_t (g_t hg)).1).1).1), (of_decide_eq_true (b_and_t (b_and_t (b_and_t (g_t hg)).1).1).2)⟩, (b_and_t (b_and_t (g_t hg)).1).2⟩, (of_decide_eq_true (b_and_t (g_t hg)).2)⟩) fun a164 w165 hA164 _ hE168 => ?_)
  have hB169 := hB118.ext hE168
  have hC170 : Chg [] w112 w165 := hE168
  have ht171 := ht166 w165 hE168
  refine sq (opk_val hA164 rfl (r_pick_and (g := (true && (((((decide (r_1_110 = 0)) && (decide ((r_0_109.n : Int) = 2))) && x_142) && (decide (x_155 = 0))) == true))) (hA164.get rfl) (hA164.get rfl) (fun he => g_mkt rfl he)) fun a172 hA172 _ => ?_)
  refine sq (opk_val hA172 rfl (r_move (hA172.get rfl)) fun a173 hA173 _ => ?_)
  refine sq (opk_gval hA173 rfl rfl (g := true) (e := (((((decide (r_1_110 = 0)) && (decide ((r_0_109.n : Int) = 2))) && x_142) && (decide (x_155 = 0))) && r_163)) rfl (fun hg => r_loadN (cs := [.int .i64 1, .string (Bs ([] : Str)), .string (Bs ([] : Str)), Sl.v Sl.nil, Sl.v (Sl.mk (some ⟨B_4, 0, none⟩) 1 1)]) Try.underlying26 rfl ti_26 (hA173.get rfl) (hB169.part 0 _ rfl)) fun a174 hA174 _ => ?_)
  refine sq (opk_gval hA174 rfl rfl (g := true) (e := (((((decide (r_1_110 = 0)) && (decide ((r_0_109.n : Int) = 2))) && x_142) && (decide (x_155 = 0))) && r_163)) rfl (fun hg => r_move (hA174.get rfl)) fun a175 hA175 _ => ?_)
  obtain ⟨r_176, hc180, ht179⟩ := ht171
  refine sq (opk_gcall hA175 rfl rfl (g := true) (e := (((((decide (r_1_110 = 0)) && (decide ((r_0_109.n : Int) = 2))) && x_142) && (decide (x_155 = 0))) && r_163)) rfl (fun hg => r_call (args := #[.agg #[.int .i64 1, .string (Bs ([] : Str)), .string (Bs ([] : Str)), Sl.v Sl.nil, Sl.v (Sl.mk (some ⟨B_4, 0, none⟩) 1 1)], Sl.v r_0_109, .int .i64 0]) Try.func16 (by decide) rfl (map_arr (ml_cons (cv_get (hA175.get rfl) hg) (ml_cons (cv_get (hA175.get rfl) hg) (ml_cons rfl ml_nil)))) rfl) (fun hg => hc180 ⟨⟨⟨⟨(of_decide_eq_true (b_and_t (b_and_t (b_and_t (b_and_t (g_t hg)).1).1).1).1), (of_decide_eq_true (b_and_t (b_and_t (b_and_t (b_and_t (g_t hg)).1).1).1).2)⟩, (b_and_t (b_and_t (b_and_t (g_t hg)).1).1).2⟩, (of_decide_eq_true (b_and_t (b_and_t (g_t hg)).1).2)⟩, (b_and_t (g_t hg)).2⟩) fun a177 w178 hA177 _ hE181 => ?_)
  have hB182 := hB169.ext hE181
  have hC183 : Chg [] w165 w178 := hE181
  have ht184 := ht179 w178 hE181
  refine sq (opk_gval hA177 rfl rfl (g := true) (e := (((((decide (r_1_110 = 0)) && (decide ((r_0_109.n : Int) = 2))) && x_142) && (decide (x_155 = 0))) && r_163)) rfl (fun hg => r_not (cv_get (hA177.get rfl) hg)) fun a185 hA185 _ => ?_)
  refine sq (opk_val hA185 rfl (r_pick_and (g := (true && ((((((decide (r_1_110 = 0)) && (decide ((r_0_109.n : Int) = 2))) && x_142) && (decide (x_155 = 0))) && r_163) == true))) (hA185.get rfl) (hA185.get rfl) (fun he => g_mkt rfl he)) fun a186 hA186 _ => ?_)
  refine sq (opk_val hA186 rfl (r_assign (hA186.get rfl)) fun a187 hA187 _ => ?_)
  refine sq_end ?_
  have hA188 := hA187.keep [(0, .bool ((((((decide (r_1_110 = 0)) && (decide ((r_0_109.n : Int) = 2))) && x_142) && (decide (x_155 = 0))) && r_163) && (!r_176)))] ⟨rfl, trivial⟩
  refine then_normal ?_
  refine wp_ret ?_
  exact res_all (vs := [.bool ((((((decide (r_1_110 = 0)) && (decide ((r_0_109.n : Int) = 2))) && x_142) && (decide (x_155 = 0))) && r_163) && (!r_176))]) rfl hA188 ⟨res_of_tmp hA188 rfl, trivial⟩ ht184

end Go.Proofs.Yteohbfaechfliaa
