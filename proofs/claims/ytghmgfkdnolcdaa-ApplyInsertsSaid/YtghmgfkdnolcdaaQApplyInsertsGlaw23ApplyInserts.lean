/-
  PRINTED BY PROGRAM: for each function its condition (vc), and that this suffices (ok).
-/
import Derived.Test.YtghmgfkdnolcdaaQApplyInsertsGT
namespace Go.Proofs.Ytghmgfkdnolcdaa
open Go.RowKit
set_option linter.unusedVariables false

/-- The condition of topiary/topiarylaw23.ApplyInserts. -/
def law23_ApplyInserts.vc (n_1 : Int) (front_2 : Bool) (R : Value → World → Prop) (w : World) : Prop :=
CallK Try.prog 28 #[.int .i64 n_1, .int .i64 26] w [] (fun v w8 => ∃ (r_6 : Int), v = .int .i64 r_6 ∧
∃ (J_23 : Sl → Int → World → Prop) (mu_24 : Sl → Int → World → Nat),
J_23 Sl.nil 0 w8 ∧
(∀ (l_20 : Sl) (i_21 : Int) (w22 : World), J_23 l_20 i_21 w22 →
((i_21 < r_6) →
(I64 (1 + i_21)) ∧
(I64 (i_21 + 1)) ∧
((0 : Int) ≤ i_21 ∧ (i_21 : Int) ≤ i_21 + 1 ∧ i_21 + 1 ≤ (([97, 98, 99, 100, 101, 102, 103, 104, 105, 106, 107, 108, 109, 110, 111, 112, 113, 114, 115, 116, 117, 118, 119, 120, 121, 122] : Str).length : Int)) ∧
∀ (w124 : World) (B_123 : Nat), New w22 B_123 w124 → Chg [] w22 w124 →
∀ (_ : Box w124 B_123 48 [.int .i64 1, .int .i64 (1 + i_21), .int .i64 0, .int .i64 (bif front_2 then 0 else i_21), .int .i64 3, .string (Bs ([] : Str)), .string (Bs ((List.drop i_21.toNat ([97, 98, 99, 100, 101, 102, 103, 104, 105, 106, 107, 108, 109, 110, 111, 112, 113, 114, 115, 116, 117, 118, 119, 120, 121, 122] : Str)).take ((i_21 + 1).toNat - i_21.toNat)))]),
RunK Try.prog (Builtin.append_ #[46, 46] 46 #[Sl.v l_20, Sl.v (Sl.mk (some ⟨B_123, 0, none⟩) 1 1)]) w124 [] (fun v w134 => ∃ (r_140 : Sl), v = Sl.v r_140 ∧
(I64 (i_21 + 1)) ∧
J_23 r_140 (i_21 + 1) w134 ∧ mu_24 r_140 (i_21 + 1) w134 < mu_24 l_20 i_21 w22)) ∧
((¬ (i_21 < r_6)) →
CallK Try.prog 38 #[.agg #[.int .i64 1, .string (Bs ([] : Str)), .string (Bs ([] : Str)), Sl.v Sl.nil, Sl.v Sl.nil], Sl.v l_20] w22 [] (fun v w157 => ∃ (r_0_153_Kind : Int) (r_0_153_Name : Str) (r_0_153_Text : Str) (r_0_153_Attrs : Sl) (r_0_153_Kids : Sl) (r_1_154 : Int) (r_2_155 : Int), v = .tuple #[.agg #[.int .i64 r_0_153_Kind, .string (Bs r_0_153_Name), .string (Bs r_0_153_Text), Sl.v r_0_153_Attrs, Sl.v r_0_153_Kids], .int .i64 r_1_154, .int .i64 r_2_155] ∧
((((r_2_155 ≠ 0) ∨ (r_1_154 ≠ r_6)) ∨ ((r_0_153_Kids.n : Int) ≠ r_6)) →
∀ (w175 : World) (B_167 : Nat), New w157 B_167 w175 → Chg [] w157 w175 →
R (.bool false) w175) ∧
((((¬ (r_2_155 ≠ 0)) ∧ (¬ (r_1_154 ≠ r_6))) ∧ (¬ ((r_0_153_Kids.n : Int) ≠ r_6))) →
∀ (w175 : World) (B_167 : Nat), New w157 B_167 w175 → Chg [] w157 w175 →
∃ (J_209 : Int → World → Prop) (mu_210 : Int → World → Nat),
J_209 0 w175 ∧
(∀ (i_207 : Int) (w208 : World), J_209 i_207 w208 →
((i_207 < r_6) →
∃ J_337 : Int → World → Prop,
(((front_2 = true) →
(I64 (r_6 - 1)) ∧
(I64 ((r_6 - 1) - i_207)) ∧
J_337 ((r_6 - 1) - i_207) w208) ∧
((front_2 = false) →
J_337 i_207 w208)) ∧
(∀ (j_335 : Int) (w336 : World), J_337 j_335 w336 →
∀ (w357 : World), Chg [] w336 w357 →
∃ p_365 : Addr, (((0 : Int) ≤ i_207 ∧ i_207 < (r_0_153_Kids.n : Int)) ∧ r_0_153_Kids.a = some p_365) ∧
∃ (x_370 : Str), (w357.cell? ((p_365.add (i_207.toNat * 5)).add 2) = some (.string (Bs x_370))) ∧
(I64 (j_335 + 1)) ∧
((0 : Int) ≤ j_335 ∧ (j_335 : Int) ≤ j_335 + 1 ∧ j_335 + 1 ≤ (([97, 98, 99, 100, 101, 102, 103, 104, 105, 106, 107, 108, 109, 110, 111, 112, 113, 114, 115, 116, 117, 118, 119, 120, 121, 122] : Str).length : Int)) ∧
((x_370 ≠ ((List.drop j_335.toNat ([97, 98, 99, 100, 101, 102, 103, 104, 105, 106, 107, 108, 109, 110, 111, 112, 113, 114, 115, 116, 117, 118, 119, 120, 121, 122] : Str)).take ((j_335 + 1).toNat - j_335.toNat))) →
∀ (w383 : World), Chg [] w357 w383 →
R (.bool false) w383) ∧
((¬ (x_370 ≠ ((List.drop j_335.toNat ([97, 98, 99, 100, 101, 102, 103, 104, 105, 106, 107, 108, 109, 110, 111, 112, 113, 114, 115, 116, 117, 118, 119, 120, 121, 122] : Str)).take ((j_335 + 1).toNat - j_335.toNat)))) →
(I64 (i_207 + 1)) ∧
∀ (w383 : World), Chg [] w357 w383 →
J_209 (i_207 + 1) w383 ∧ mu_210 (i_207 + 1) w383 < mu_210 i_207 w208))) ∧
((¬ (i_207 < r_6)) →
CallK Try.prog 37 #[] w208 [] (fun v w410 => ∃ (r_408 : Bool), v = .bool r_408 ∧
R (.bool r_408) w410))))))))
set_option maxHeartbeats 1000000 in
set_option maxRecDepth 10000 in
theorem law23_ApplyInserts.ok (n_1 : Int) (front_2 : Bool) {R : Value → World → Prop} {w : World} (ht0 : law23_ApplyInserts.vc n_1 front_2 R w) : Calls Try.prog 10 #[.int .i64 n_1, .bool front_2] w (Ret R) := by
  refine enter [.int .i64 n_1, .bool front_2] Try.func10 rfl Try.ntmps10 rfl ?_
  intro a0 hA0
  unfold law23_ApplyInserts.vc at ht0
  refine wp_seq ?_
  refine wp_region_lit ?_
  refine sq (opk_val hA0 rfl (r_assign rfl) fun a3 hA3 _ => ?_)
  refine sq_end ?_
  have hA4 := hA3.keep [(0, .int .i64 n_1), (1, .bool front_2)] ⟨rfl, rfl, trivial⟩
  refine then_normal ?_
  refine wp_seq ?_
  refine wp_region_lit ?_
  refine sq (opk_val hA4 rfl (r_move (hA4.get rfl)) fun a5 hA5 _ => ?_)
  refine sq (opk_call hA5 rfl (r_call (args := #[.int .i64 n_1, .int .i64 26]) Try.func28 (by decide) rfl (map_arr (ml_cons (hA5.get rfl) (ml_cons rfl ml_nil))) rfl) ht0 fun a7 v13 w8 hA7 _ hn10 hz11 hK12 => ?_)
  obtain ⟨r_6, rfl, ht9⟩ := hK12
  refine sq (opk_val hA7 rfl (r_assign (hA7.get rfl)) fun a14 hA14 _ => ?_)
  refine sq_end ?_
  have hA15 := hA14.keep [(1, .bool front_2), (5, .int .i64 r_6)] ⟨rfl, rfl, trivial⟩
  refine then_normal ?_
  refine wp_seq ?_
  refine wp_region_lit ?_
  refine sq (opk_val hA15 rfl (r_assign rfl) fun a16 hA16 _ => ?_)
  refine sq_end ?_
  have hA17 := hA16.keep [(1, .bool front_2), (5, .int .i64 r_6), (6, Sl.v Sl.nil)] ⟨rfl, rfl, rfl, trivial⟩
  refine then_normal ?_
  refine wp_seq ?_
  refine wp_seq ?_
  refine wp_region_lit ?_
  refine sq (opk_val hA17 rfl (r_assign rfl) fun a18 hA18 _ => ?_)
  refine sq_end ?_
  have hA19 := hA18.keep [(1, .bool front_2), (5, .int .i64 r_6), (6, Sl.v Sl.nil), (7, .int .i64 0)] ⟨rfl, rfl, rfl, rfl, trivial⟩
  refine then_normal ?_
  refine wp_block ?_
  obtain ⟨J_23, mu_24, h087, ht86⟩ := ht9
  refine wp_loop_st (σ := Sl × Int × World) (fun s a w => Ag 78 a [(1, .bool front_2), (5, .int .i64 r_6), (6, Sl.v s.1), (7, .int .i64 s.2.1)] ∧ w = s.2.2 ∧ J_23 s.1 s.2.1 s.2.2) (fun s => mu_24 s.1 s.2.1 s.2.2) (Sl.nil, 0, w8) ⟨hA19.keep [(1, .bool front_2), (5, .int .i64 r_6), (6, Sl.v Sl.nil), (7, .int .i64 0)] ⟨rfl, rfl, rfl, rfl, trivial⟩, rfl, h087⟩ ?_
  rintro ⟨l_20, i_21, w22⟩ a85 w_ ⟨hA85, hw_, hJ89⟩
  have hw_ : w22 = w_ := hw_.symm
  subst hw_
  have ht88 := ht86 l_20 i_21 _ hJ89
  refine wp_seq ?_
  refine wp_seq ?_
  refine wp_region_lit ?_
  refine sq (opk_val hA85 rfl (r_move (hA85.get rfl)) fun a90 hA90 _ => ?_)
  refine sq (opk_val hA90 rfl (r_move (hA90.get rfl)) fun a91 hA91 _ => ?_)
  refine sq (opk_val hA91 rfl (r_lss (hA91.get rfl) (hA91.get rfl)) fun a92 hA92 _ => ?_)
  refine sq_end ?_
  have hA93 := hA92.keep [(1, .bool front_2), (5, .int .i64 r_6), (6, Sl.v l_20), (7, .int .i64 i_21), (18, .bool (decide (i_21 < r_6)))] ⟨rfl, rfl, rfl, rfl, rfl, trivial⟩
  refine then_normal ?_
  refine wp_cond_split (hA93.get rfl) (fun hc => ?_) (fun hc => ?_)
  · have ht94 := ht88.1 (of_decide_eq_true hc)
    clear hc
    refine wp_skip ?_
    refine then_normal ?_
    refine wp_seq ?_
    refine wp_block ?_
    refine wp_seq ?_
    refine wp_region_lit ?_
    refine sq (opk_val hA93 rfl (r_move (hA93.get rfl)) fun a96 hA96 _ => ?_)
    refine sq (opk_val hA96 rfl (r_assign (hA96.get rfl)) fun a97 hA97 _ => ?_)
    refine sq_end ?_
    have hA98 := hA97.keep [(1, .bool front_2), (5, .int .i64 r_6), (6, Sl.v l_20), (7, .int .i64 i_21), (8, .int .i64 i_21)] ⟨rfl, rfl, rfl, rfl, rfl, trivial⟩
    refine then_normal ?_
    refine wp_seq ?_
    refine wp_seq ?_
    refine wp_region_lit ?_
    refine sq (opk_val hA98 rfl (r_move (hA98.get rfl)) fun a99 hA99 _ => ?_)
    refine sq_end ?_
    have hA100 := hA99.keep [(1, .bool front_2), (5, .int .i64 r_6), (6, Sl.v l_20), (7, .int .i64 i_21), (8, .int .i64 i_21), (22, .bool front_2)] ⟨rfl, rfl, rfl, rfl, rfl, rfl, trivial⟩
    refine then_normal ?_
    refine wp_meet (fun a wq => Ag 78 a [(1, .bool front_2), (5, .int .i64 r_6), (6, Sl.v l_20), (7, .int .i64 i_21), (8, .int .i64 (bif front_2 then 0 else i_21))] ∧ wq = w22) ?_ ?_
    · refine wp_cond_split (hA100.get rfl) (fun hc => ?_) (fun hc => ?_)
      · refine wp_region_lit ?_
        refine sq (opk_val hA100 rfl (r_assign rfl) fun a103 hA103 _ => ?_)
        refine sq_end ?_
        have hA104 := hA103.keep [(1, .bool front_2), (5, .int .i64 r_6), (6, Sl.v l_20), (7, .int .i64 i_21), (8, .int .i64 0)] ⟨rfl, rfl, rfl, rfl, rfl, trivial⟩
        have hA105 := hA104.say (t := 8) rfl (.int .i64 (bif front_2 then 0 else i_21)) (by rw [hc]; rfl)
        exact then_normal ⟨hA105.keep [(1, .bool front_2), (5, .int .i64 r_6), (6, Sl.v l_20), (7, .int .i64 i_21), (8, .int .i64 (bif front_2 then 0 else i_21))] ⟨rfl, rfl, rfl, rfl, rfl, trivial⟩, rfl⟩
      · refine wp_skip ?_
        have hA106 := hA100.say (t := 8) rfl (.int .i64 (bif front_2 then 0 else i_21)) (by rw [hc]; rfl)
        exact then_normal ⟨hA106.keep [(1, .bool front_2), (5, .int .i64 r_6), (6, Sl.v l_20), (7, .int .i64 i_21), (8, .int .i64 (bif front_2 then 0 else i_21))] ⟨rfl, rfl, rfl, rfl, rfl, trivial⟩, rfl⟩
    · rintro a107 w_ ⟨hA107, hw_⟩
      have hw_ : w22 = w_ := hw_.symm
      subst hw_
      refine then_normal ?_
      refine wp_region_lit ?_
      refine sq (opk_val hA107 rfl (r_move (hA107.get rfl)) fun a108 hA108 _ => ?_)
      refine sq (opk_val hA108 rfl (r_move (hA108.get rfl)) fun a109 hA109 _ => ?_)
      obtain ⟨hS111, ht112⟩ := ht94
      refine sq (opk_val hA109 rfl (r_addI rfl (hA109.get rfl) hS111) fun a110 hA110 _ => ?_)
      refine sq (opk_val hA110 rfl (r_move (hA110.get rfl)) fun a113 hA113 _ => ?_)
      refine sq (opk_val hA113 rfl (r_move (hA113.get rfl)) fun a114 hA114 _ => ?_)
      refine sq (opk_val hA114 rfl (r_move (hA114.get rfl)) fun a115 hA115 _ => ?_)
      obtain ⟨hS117, ht118⟩ := ht112
      refine sq (opk_val hA115 rfl (r_addI (hA115.get rfl) rfl hS117) fun a116 hA116 _ => ?_)
      obtain ⟨hS120, ht121⟩ := ht118
      refine sq (opk_val hA116 rfl (r_sslice2 rfl (hA116.get rfl) (hA116.get rfl) Try.underlying9 hS120) fun a119 hA119 _ => ?_)
      refine sq (opk_val hA119 rfl (r_build (vs := #[(0, .int .i64 1), (1, .int .i64 (1 + i_21)), (3, .int .i64 (bif front_2 then 0 else i_21)), (4, .int .i64 3), (6, .string (Bs ((List.drop i_21.toNat ([97, 98, 99, 100, 101, 102, 103, 104, 105, 106, 107, 108, 109, 110, 111, 112, 113, 114, 115, 116, 117, 118, 119, 120, 121, 122] : Str)).take ((i_21 + 1).toNat - i_21.toNat))))]) (cells := #[.int .i64 1, .int .i64 (1 + i_21), .int .i64 0, .int .i64 (bif front_2 then 0 else i_21), .int .i64 3, .string (Bs ([] : Str)), .string (Bs ((List.drop i_21.toNat ([97, 98, 99, 100, 101, 102, 103, 104, 105, 106, 107, 108, 109, 110, 111, 112, 113, 114, 115, 116, 117, 118, 119, 120, 121, 122] : Str)).take ((i_21 + 1).toNat - i_21.toNat)))]) (map_arr2 (ml2_cons rfl (ml2_cons (hA119.get rfl) (ml2_cons (hA119.get rfl) (ml2_cons rfl (ml2_cons (hA119.get rfl) (ml2_nil))))))) ti_48 Try.underlying48 pl_48 (by kernel_rfl)) fun a122 hA122 _ => ?_)
      refine sq (opk_new (fun B => .slice (some ⟨B, 0, none⟩) 1 1) hA122 rfl (r_buildSlice (vs := #[(0, .agg #[.int .i64 1, .int .i64 (1 + i_21), .int .i64 0, .int .i64 (bif front_2 then 0 else i_21), .int .i64 3, .string (Bs ([] : Str)), .string (Bs ((List.drop i_21.toNat ([97, 98, 99, 100, 101, 102, 103, 104, 105, 106, 107, 108, 109, 110, 111, 112, 113, 114, 115, 116, 117, 118, 119, 120, 121, 122] : Str)).take ((i_21 + 1).toNat - i_21.toNat)))])]) (cs := [.int .i64 1, .int .i64 (1 + i_21), .int .i64 0, .int .i64 (bif front_2 then 0 else i_21), .int .i64 3, .string (Bs ([] : Str)), .string (Bs ((List.drop i_21.toNat ([97, 98, 99, 100, 101, 102, 103, 104, 105, 106, 107, 108, 109, 110, 111, 112, 113, 114, 115, 116, 117, 118, 119, 120, 121, 122] : Str)).take ((i_21 + 1).toNat - i_21.toNat)))]) (map_arr2 (ml2_cons (hA122.get rfl) (ml2_nil))) Try.underlying46 ti_48 rfl rfl (by kernel_rfl)) fun a125 w124 B_123 hE126 hN127 hB128 hA125 _ => ?_)
      have hN129 : New w22 B_123 w124 := hN127
      have hC130 : Chg [] w22 w124 := hE126
      have ht131 := ht121 w124 B_123 hN129  hC130
      have ht132 := ht131 hB128
      refine sq (opk_run hA125 rfl (fun _ _ hr => r_append (hA125.get rfl) (hA125.get rfl) hr) ht132 fun a133 v139 w134 hA133 _ hn136 hz137 hK138 => ?_)
      obtain ⟨r_140, rfl, ht135⟩ := hK138
      refine sq (opk_val hA133 rfl (r_assign (hA133.get rfl)) fun a141 hA141 _ => ?_)
      refine sq_end ?_
      have hA142 := hA141.keep [(1, .bool front_2), (5, .int .i64 r_6), (6, Sl.v r_140), (7, .int .i64 i_21)] ⟨rfl, rfl, rfl, rfl, trivial⟩
      refine block_normal ?_
      refine then_normal ?_
      refine wp_region_lit ?_
      refine sq (opk_val hA142 rfl (r_move (hA142.get rfl)) fun a143 hA143 _ => ?_)
      obtain ⟨hS145, ht146⟩ := ht135
      refine sq (opk_val hA143 rfl (r_addI (hA143.get rfl) rfl hS145) fun a144 hA144 _ => ?_)
      refine sq (opk_val hA144 rfl (r_assign (hA144.get rfl)) fun a147 hA147 _ => ?_)
      refine sq_end ?_
      have hA148 := hA147.keep [(1, .bool front_2), (5, .int .i64 r_6), (6, Sl.v r_140), (7, .int .i64 (i_21 + 1))] ⟨rfl, rfl, rfl, rfl, trivial⟩
      have hA149 := hA148.keep [(1, .bool front_2), (5, .int .i64 r_6), (6, Sl.v r_140), (7, .int .i64 (i_21 + 1))] ⟨rfl, rfl, rfl, rfl, trivial⟩
      exact then_normal ⟨(r_140, i_21 + 1, w134), ⟨hA149, rfl, ht146.1⟩, ht146.2⟩
  · have ht95 := ht88.2 (of_decide_eq_false hc)
    clear hc
    refine wp_exit ?_
    refine then_exit ?_
    refine then_exit ?_
    refine block_hit ?_
    have hA150 := hA93.keep [(1, .bool front_2), (5, .int .i64 r_6), (6, Sl.v l_20)] ⟨rfl, rfl, rfl, trivial⟩
    refine then_normal ?_
    refine wp_seq ?_
    refine wp_region_lit ?_
    refine sq (opk_val hA150 rfl (r_build (vs := #[(0, .int .i64 1)]) (cells := #[.int .i64 1, .string (Bs ([] : Str)), .string (Bs ([] : Str)), Sl.v Sl.nil, Sl.v Sl.nil]) (map_arr2 (ml2_cons rfl (ml2_nil))) ti_29 Try.underlying29 pl_29 (by kernel_rfl)) fun a151 hA151 _ => ?_)
    refine sq (opk_val hA151 rfl (r_move (hA151.get rfl)) fun a152 hA152 _ => ?_)
    refine sq (opk_call hA152 rfl (r_call (args := #[.agg #[.int .i64 1, .string (Bs ([] : Str)), .string (Bs ([] : Str)), Sl.v Sl.nil, Sl.v Sl.nil], Sl.v l_20]) Try.func38 (by decide) rfl (map_arr (ml_cons (hA152.get rfl) (ml_cons (hA152.get rfl) ml_nil))) rfl) ht95 fun a156 v162 w157 hA156 _ hn159 hz160 hK161 => ?_)
    obtain ⟨r_0_153_Kind, r_0_153_Name, r_0_153_Text, r_0_153_Attrs, r_0_153_Kids, r_1_154, r_2_155, rfl, ht158⟩ := hK161
    refine sq (opk_val hA156 rfl (r_move (hA156.get rfl)) fun a163 hA163 _ => ?_)
    refine sq (opk_val hA163 rfl (r_extract (hA163.get rfl) rfl) fun a164 hA164 _ => ?_)
    refine sq (opk_val hA164 rfl (r_extract (hA164.get rfl) rfl) fun a165 hA165 _ => ?_)
    refine sq (opk_val hA165 rfl (r_extract (hA165.get rfl) rfl) fun a166 hA166 _ => ?_)
    refine sq (opk_new (fun B => .pointer (some ⟨B, 0, none⟩)) hA166 rfl (r_alloc (cs := [.int .i64 0, .string (Bs ([] : Str)), .string (Bs ([] : Str)), Sl.v Sl.nil, Sl.v Sl.nil]) ti_29 rfl) fun a169 w168 B_167 hE170 hN171 hB172 hA169 _ => ?_)
    have hN173 : New w157 B_167 w168 := hN171
    have hC174 : Chg [] w157 w168 := hE170
    refine sq (opk_store hA169 hB172 (r_store (vs := [.int .i64 r_0_153_Kind, .string (Bs r_0_153_Name), .string (Bs r_0_153_Text), Sl.v r_0_153_Attrs, Sl.v r_0_153_Kids]) (hA169.get rfl) (hA169.get rfl) rfl ti_29 hB172 rfl (ones_all [.int .i64 r_0_153_Kind, .string (Bs r_0_153_Name), .string (Bs r_0_153_Text), Sl.v r_0_153_Attrs, Sl.v r_0_153_Kids] rfl)) fun a176 w175 hS177 hB178 hA176 => ?_)
    have hB179 : Box w175 B_167 29 [.int .i64 r_0_153_Kind, .string (Bs r_0_153_Name), .string (Bs r_0_153_Text), Sl.v r_0_153_Attrs, Sl.v r_0_153_Kids] := hB178
    have hC180 := hC174.storeNew hN173 hS177
    have hN181 := hN173.up hS177.size
    refine sq (opk_val hA176 rfl (r_assign (hA176.get rfl)) fun a182 hA182 _ => ?_)
    refine sq (opk_val hA182 rfl (r_assign (hA182.get rfl)) fun a183 hA183 _ => ?_)
    refine sq_end ?_
    have hA184 := hA183.keep [(1, .bool front_2), (5, .int .i64 r_6), (9, .pointer (some (⟨B_167, 0, none⟩ : Addr))), (10, .int .i64 r_1_154), (11, .int .i64 r_2_155)] ⟨rfl, rfl, rfl, rfl, rfl, trivial⟩
    refine then_normal ?_
    refine wp_seq ?_
    refine wp_seq ?_
    refine wp_region_lit ?_
    refine sq (opk_val hA184 rfl (r_move (hA184.get rfl)) fun a185 hA185 _ => ?_)
    refine sq (opk_val hA185 rfl (r_neq (hA185.get rfl) rfl) fun a186 hA186 _ => ?_)
    refine sq (opk_val hA186 rfl (r_move (hA186.get rfl)) fun a187 hA187 _ => ?_)
    refine sq (opk_gval hA187 rfl rfl (g := true) (e := (decide (r_2_155 ≠ 0))) rfl (fun hg => r_move (hA187.get rfl)) fun a188 hA188 _ => ?_)
    refine sq (opk_gval hA188 rfl rfl (g := true) (e := (decide (r_2_155 ≠ 0))) rfl (fun hg => r_move (hA188.get rfl)) fun a189 hA189 _ => ?_)
    refine sq (opk_gval hA189 rfl rfl (g := true) (e := (decide (r_2_155 ≠ 0))) rfl (fun hg => r_neq (cv_get (hA189.get rfl) hg) (cv_get (hA189.get rfl) hg)) fun a190 hA190 _ => ?_)
    refine sq (opk_val hA190 rfl (r_pick_or (g := (true && ((decide (r_2_155 ≠ 0)) == false))) (hA190.get rfl) (hA190.get rfl) (fun he => g_mkf rfl he)) fun a191 hA191 _ => ?_)
    refine sq (opk_val hA191 rfl (r_move (hA191.get rfl)) fun a192 hA192 _ => ?_)
    refine sq (opk_gval hA192 rfl rfl (g := true) (e := ((decide (r_2_155 ≠ 0)) || (decide (r_1_154 ≠ r_6)))) rfl (fun hg => r_fieldAddr (hA192.get rfl) Try.underlying29 rfl ti_27 (by decide)) fun a193 hA193 _ => ?_)
    refine sq (opk_gval hA193 rfl rfl (g := true) (e := ((decide (r_2_155 ≠ 0)) || (decide (r_1_154 ≠ r_6)))) rfl (fun hg => r_load1 Try.underlying27 rfl (cv_get (hA193.get rfl) hg) (hB179.cell 4 _ rfl)) fun a194 hA194 _ => ?_)
    refine sq (opk_gval hA194 rfl rfl (g := true) (e := ((decide (r_2_155 ≠ 0)) || (decide (r_1_154 ≠ r_6)))) rfl (fun hg => r_len (cv_get (hA194.get rfl) hg) Try.underlying27) fun a195 hA195 _ => ?_)
    refine sq (opk_gval hA195 rfl rfl (g := true) (e := ((decide (r_2_155 ≠ 0)) || (decide (r_1_154 ≠ r_6)))) rfl (fun hg => r_move (hA195.get rfl)) fun a196 hA196 _ => ?_)
    refine sq (opk_gval hA196 rfl rfl (g := true) (e := ((decide (r_2_155 ≠ 0)) || (decide (r_1_154 ≠ r_6)))) rfl (fun hg => r_neq (cv_get (hA196.get rfl) hg) (cv_get (hA196.get rfl) hg)) fun a197 hA197 _ => ?_)
    refine sq (opk_val hA197 rfl (r_pick_or (g := (true && (((decide (r_2_155 ≠ 0)) || (decide (r_1_154 ≠ r_6))) == false))) (hA197.get rfl) (hA197.get rfl) (fun he => g_mkf rfl he)) fun a198 hA198 _ => ?_)
    refine sq_end ?_
    have hA199 := hA198.keep [(1, .bool front_2), (5, .int .i64 r_6), (9, .pointer (some (⟨B_167, 0, none⟩ : Addr))), (54, .bool (((decide (r_2_155 ≠ 0)) || (decide (r_1_154 ≠ r_6))) || (decide ((r_0_153_Kids.n : Int) ≠ r_6))))] ⟨rfl, rfl, rfl, rfl, trivial⟩
    refine then_normal ?_
    refine wp_cond_split (hA199.get rfl) (fun hc => ?_) (fun hc => ?_)
    · have ht200 := ht158.1 ((b_or_t hc).imp (fun h => ((b_or_t h).imp (fun h => (of_decide_eq_true h)) (fun h => (of_decide_eq_true h)))) (fun h => (of_decide_eq_true h)))
      clear hc
      refine wp_seq ?_
      refine wp_region_lit ?_
      refine sq (opk_val hA199 rfl (r_assign rfl) fun a202 hA202 _ => ?_)
      refine sq_end ?_
      have hA203 := hA202.keep [(4, .bool false)] ⟨rfl, trivial⟩
      refine then_normal ?_
      refine wp_ret ?_
      refine then_ret ?_
      have ht204 := ht200 w175 B_167 hN181  hC180
      exact res_all (vs := [.bool false]) rfl hA203 ⟨res_of_tmp hA203 rfl, trivial⟩ ht204
    · have ht201 := ht158.2 ⟨⟨(of_decide_eq_false (b_or_f (b_or_f hc).1).1), (of_decide_eq_false (b_or_f (b_or_f hc).1).2)⟩, (of_decide_eq_false (b_or_f hc).2)⟩
      clear hc
      refine wp_skip ?_
      refine then_normal ?_
      refine wp_seq ?_
      refine wp_seq ?_
      refine wp_region_lit ?_
      refine sq (opk_val hA199 rfl (r_assign rfl) fun a205 hA205 _ => ?_)
      refine sq_end ?_
      have hA206 := hA205.keep [(1, .bool front_2), (5, .int .i64 r_6), (9, .pointer (some (⟨B_167, 0, none⟩ : Addr))), (12, .int .i64 0)] ⟨rfl, rfl, rfl, rfl, trivial⟩
      refine then_normal ?_
      refine wp_block ?_
      have ht305 := ht201 w175 B_167 hN181  hC180
      obtain ⟨J_209, mu_210, h0309, ht308⟩ := ht305
      refine wp_loop_st (σ := Int × World) (fun s a w => Ag 78 a [(1, .bool front_2), (5, .int .i64 r_6), (9, .pointer (some (⟨B_167, 0, none⟩ : Addr))), (12, .int .i64 s.1)] ∧ Box w B_167 29 [.int .i64 r_0_153_Kind, .string (Bs r_0_153_Name), .string (Bs r_0_153_Text), Sl.v r_0_153_Attrs, Sl.v r_0_153_Kids] ∧ w = s.2 ∧ J_209 s.1 s.2) (fun s => mu_210 s.1 s.2) (0, w175) ⟨hA206.keep [(1, .bool front_2), (5, .int .i64 r_6), (9, .pointer (some (⟨B_167, 0, none⟩ : Addr))), (12, .int .i64 0)] ⟨rfl, rfl, rfl, rfl, trivial⟩, hB179, rfl, h0309⟩ ?_
      rintro ⟨i_207, w208⟩ a306 w_ ⟨hA306, hB307, hw_, hJ311⟩
      have hw_ : w208 = w_ := hw_.symm
      subst hw_
      have ht310 := ht308 i_207 _ hJ311
      refine wp_seq ?_
      refine wp_seq ?_
      refine wp_region_lit ?_
      refine sq (opk_val hA306 rfl (r_move (hA306.get rfl)) fun a312 hA312 _ => ?_)
      refine sq (opk_val hA312 rfl (r_move (hA312.get rfl)) fun a313 hA313 _ => ?_)
      refine sq (opk_val hA313 rfl (r_lss (hA313.get rfl) (hA313.get rfl)) fun a314 hA314 _ => ?_)
      refine sq_end ?_
      have hA315 := hA314.keep [(1, .bool front_2), (5, .int .i64 r_6), (9, .pointer (some (⟨B_167, 0, none⟩ : Addr))), (12, .int .i64 i_207), (57, .bool (decide (i_207 < r_6)))] ⟨rfl, rfl, rfl, rfl, rfl, trivial⟩
      refine then_normal ?_
      refine wp_cond_split (hA315.get rfl) (fun hc => ?_) (fun hc => ?_)
      · have ht316 := ht310.1 (of_decide_eq_true hc)
        clear hc
        refine wp_skip ?_
        refine then_normal ?_
        refine wp_seq ?_
        refine wp_block ?_
        refine wp_seq ?_
        refine wp_region_lit ?_
        refine sq (opk_val hA315 rfl (r_move (hA315.get rfl)) fun a318 hA318 _ => ?_)
        refine sq (opk_val hA318 rfl (r_assign (hA318.get rfl)) fun a319 hA319 _ => ?_)
        refine sq_end ?_
        have hA320 := hA319.keep [(1, .bool front_2), (5, .int .i64 r_6), (9, .pointer (some (⟨B_167, 0, none⟩ : Addr))), (12, .int .i64 i_207), (13, .int .i64 i_207)] ⟨rfl, rfl, rfl, rfl, rfl, trivial⟩
        refine then_normal ?_
        refine wp_seq ?_
        refine wp_seq ?_
        refine wp_region_lit ?_
        refine sq (opk_val hA320 rfl (r_move (hA320.get rfl)) fun a321 hA321 _ => ?_)
        refine sq_end ?_
        have hA322 := hA321.keep [(1, .bool front_2), (5, .int .i64 r_6), (9, .pointer (some (⟨B_167, 0, none⟩ : Addr))), (12, .int .i64 i_207), (13, .int .i64 i_207), (61, .bool front_2)] ⟨rfl, rfl, rfl, rfl, rfl, rfl, trivial⟩
        refine then_normal ?_
        obtain ⟨J_337, ht338, hr339⟩ := ht316
        refine wp_meet (fun a w => ∃ j_335 : Int, Ag 78 a [(1, .bool front_2), (5, .int .i64 r_6), (9, .pointer (some (⟨B_167, 0, none⟩ : Addr))), (12, .int .i64 i_207), (13, .int .i64 j_335)] ∧ Box w B_167 29 [.int .i64 r_0_153_Kind, .string (Bs r_0_153_Name), .string (Bs r_0_153_Text), Sl.v r_0_153_Attrs, Sl.v r_0_153_Kids] ∧ J_337 j_335 w) ?_ ?_
        · refine wp_cond_split (hA322.get rfl) (fun hc => ?_) (fun hc => ?_)
          · have ht340 := ht338.1 hc
            clear hc
            refine wp_region_lit ?_
            refine sq (opk_val hA322 rfl (r_move (hA322.get rfl)) fun a342 hA342 _ => ?_)
            obtain ⟨hS344, ht345⟩ := ht340
            refine sq (opk_val hA342 rfl (r_subI (hA342.get rfl) rfl hS344) fun a343 hA343 _ => ?_)
            refine sq (opk_val hA343 rfl (r_move (hA343.get rfl)) fun a346 hA346 _ => ?_)
            obtain ⟨hS348, ht349⟩ := ht345
            refine sq (opk_val hA346 rfl (r_subI (hA346.get rfl) (hA346.get rfl) hS348) fun a347 hA347 _ => ?_)
            refine sq (opk_val hA347 rfl (r_assign (hA347.get rfl)) fun a350 hA350 _ => ?_)
            refine sq_end ?_
            have hA351 := hA350.keep [(1, .bool front_2), (5, .int .i64 r_6), (9, .pointer (some (⟨B_167, 0, none⟩ : Addr))), (12, .int .i64 i_207), (13, .int .i64 ((r_6 - 1) - i_207))] ⟨rfl, rfl, rfl, rfl, rfl, trivial⟩
            have hA352 := hA351.keep [(1, .bool front_2), (5, .int .i64 r_6), (9, .pointer (some (⟨B_167, 0, none⟩ : Addr))), (12, .int .i64 i_207), (13, .int .i64 ((r_6 - 1) - i_207))] ⟨rfl, rfl, rfl, rfl, rfl, trivial⟩
            exact then_normal ⟨(r_6 - 1) - i_207, hA352, hB307, ht349⟩
          · have ht341 := ht338.2 hc
            clear hc
            refine wp_skip ?_
            have hA353 := hA322.keep [(1, .bool front_2), (5, .int .i64 r_6), (9, .pointer (some (⟨B_167, 0, none⟩ : Addr))), (12, .int .i64 i_207), (13, .int .i64 i_207)] ⟨rfl, rfl, rfl, rfl, rfl, trivial⟩
            exact then_normal ⟨i_207, hA353, hB307, ht341⟩
        · intro a354 w336 hm
          obtain ⟨j_335, hA354, hB355, hJ406⟩ := hm
          have ht356 := hr339 j_335 w336 hJ406
          refine then_normal ?_
          refine wp_seq ?_
          refine draw' (by kernel_rfl) fun w357 hE358 => ?_
          have hB359 := hB355.ext hE358
          have hC360 : Chg [] w336 w357 := hE358
          have ht361 := ht356 w357    hC360
          obtain ⟨p_365, hp366, ht367⟩ := ht361
          obtain ⟨x_370, hx371, ht372⟩ := ht367
          obtain ⟨hS374, ht375⟩ := ht372
          obtain ⟨hS378, ht379⟩ := ht375
          refine par (D := [[], [0], [], [0, 1, 2], [0, 1, 2, 3], [0, 1, 2, 3, 4], [], [], [7], [6, 7, 8], [0, 1, 2, 3, 4, 5, 6, 7, 8, 9]]) (S := [0, 1, 2, 3, 4, 5, 6, 7, 8, 9, 10]) (F := []) (V := VL [(0, fun v _ => v = .pointer (some (⟨B_167, 4, none⟩ : Addr))), (1, fun v _ => v = Sl.v r_0_153_Kids), (2, fun v _ => v = .int .i64 i_207), (3, fun v _ => v = .pointer (some (p_365.add (i_207.toNat * 5)))), (4, fun v _ => v = .pointer (some ((p_365.add (i_207.toNat * 5)).add 2))), (5, fun v _ => v = .string (Bs x_370)), (6, fun v _ => v = .int .i64 j_335), (7, fun v _ => v = .int .i64 j_335), (8, fun v _ => v = .int .i64 (j_335 + 1)), (9, fun v _ => v = .string (Bs ((List.drop j_335.toNat ([97, 98, 99, 100, 101, 102, 103, 104, 105, 106, 107, 108, 109, 110, 111, 112, 113, 114, 115, 116, 117, 118, 119, 120, 121, 122] : Str)).take ((j_335 + 1).toNat - j_335.toNat)))), (10, fun v _ => v = .bool (decide (x_370 ≠ ((List.drop j_335.toNat ([97, 98, 99, 100, 101, 102, 103, 104, 105, 106, 107, 108, 109, 110, 111, 112, 113, 114, 115, 116, 117, 118, 119, 120, 121, 122] : Str)).take ((j_335 + 1).toNat - j_335.toNat)))))]) hA354 (by kernel_rfl) ⟨fun _ _ _ _ h => by first | exact h | (change _ = _ at h; change _ = _; exact h), fun _ _ _ _ h => by first | exact h | (change _ = _ at h; change _ = _; exact h), fun _ _ _ _ h => by first | exact h | (change _ = _ at h; change _ = _; exact h), fun _ _ _ _ h => by first | exact h | (change _ = _ at h; change _ = _; exact h), fun _ _ _ _ h => by first | exact h | (change _ = _ at h; change _ = _; exact h), fun _ _ _ _ h => by first | exact h | (change _ = _ at h; change _ = _; exact h), fun _ _ _ _ h => by first | exact h | (change _ = _ at h; change _ = _; exact h), fun _ _ _ _ h => by first | exact h | (change _ = _ at h; change _ = _; exact h), fun _ _ _ _ h => by first | exact h | (change _ = _ at h; change _ = _; exact h), fun _ _ _ _ h => by first | exact h | (change _ = _ at h; change _ = _; exact h), fun _ _ _ _ h => by first | exact h | (change _ = _ at h; change _ = _; exact h), trivial⟩ ⟨?_, ?_, ?_, ?_, ?_, ?_, ?_, ?_, ?_, ?_, ?_, trivial⟩ ?_
          · intro a w hT
            have hAp := hT.ag hA354 [(9, .pointer (some (⟨B_167, 0, none⟩ : Addr)))] ⟨rfl, trivial⟩ (by kernel_rfl)
            exact opk_val hAp rfl (r_fieldAddr (hAp.get rfl) Try.underlying29 rfl ti_27 (by decide)) fun _ _ e => ⟨_, e, Chg.refl _ _, fun _ => Eq.refl _⟩
          · intro a w hT
            have hAp := hT.ag hA354 [] trivial (by kernel_rfl)
            have e362 : a.tmps.getD 66 undef = .pointer (some (⟨B_167, 4, none⟩ : Addr)) := hT.vals 0 rfl 66 rfl
            have hAp := hAp.add e362
            exact opk_val hAp rfl (r_load1 Try.underlying27 rfl (hAp.get rfl) ((hB359.ext hT.chg).cell 4 _ rfl)) fun _ _ e => ⟨_, e, Chg.refl _ _, fun _ => Eq.refl _⟩
          · intro a w hT
            have hAp := hT.ag hA354 [(12, .int .i64 i_207)] ⟨rfl, trivial⟩ (by kernel_rfl)
            exact opk_val hAp rfl (r_move (hAp.get rfl)) fun _ _ e => ⟨_, e, Chg.refl _ _, fun _ => Eq.refl _⟩
          · intro a w hT
            have hAp := hT.ag hA354 [] trivial (by kernel_rfl)
            have e363 : a.tmps.getD 67 undef = Sl.v r_0_153_Kids := hT.vals 1 rfl 67 rfl
            have hAp := hAp.add e363
            have e364 : a.tmps.getD 68 undef = .int .i64 i_207 := hT.vals 2 rfl 68 rfl
            have hAp := hAp.add e364
            exact opk_val hAp rfl (r_indexAddr (hAp.get rfl) (hAp.get rfl) Try.underlying27 ti_29 hp366.1 hp366.2) fun _ _ e => ⟨_, e, Chg.refl _ _, fun _ => Eq.refl _⟩
          · intro a w hT
            have hAp := hT.ag hA354 [] trivial (by kernel_rfl)
            have e368 : a.tmps.getD 69 undef = .pointer (some (p_365.add (i_207.toNat * 5))) := hT.vals 3 rfl 69 rfl
            have hAp := hAp.add e368
            exact opk_val hAp rfl (r_fieldAddr (hAp.get rfl) Try.underlying29 rfl ti_9 (by decide)) fun _ _ e => ⟨_, e, Chg.refl _ _, fun _ => Eq.refl _⟩
          · intro a w hT
            have hAp := hT.ag hA354 [] trivial (by kernel_rfl)
            have e369 : a.tmps.getD 70 undef = .pointer (some ((p_365.add (i_207.toNat * 5)).add 2)) := hT.vals 4 rfl 70 rfl
            have hAp := hAp.add e369
            exact opk_val hAp rfl (r_load1 Try.underlying9 rfl (hAp.get rfl) (Ext.cell hT.chg hx371)) fun _ _ e => ⟨_, e, Chg.refl _ _, fun _ => Eq.refl _⟩
          · intro a w hT
            have hAp := hT.ag hA354 [(13, .int .i64 j_335)] ⟨rfl, trivial⟩ (by kernel_rfl)
            exact opk_val hAp rfl (r_move (hAp.get rfl)) fun _ _ e => ⟨_, e, Chg.refl _ _, fun _ => Eq.refl _⟩
          · intro a w hT
            have hAp := hT.ag hA354 [(13, .int .i64 j_335)] ⟨rfl, trivial⟩ (by kernel_rfl)
            exact opk_val hAp rfl (r_move (hAp.get rfl)) fun _ _ e => ⟨_, e, Chg.refl _ _, fun _ => Eq.refl _⟩
          · intro a w hT
            have hAp := hT.ag hA354 [] trivial (by kernel_rfl)
            have e373 : a.tmps.getD 73 undef = .int .i64 j_335 := hT.vals 7 rfl 73 rfl
            have hAp := hAp.add e373
            exact opk_val hAp rfl (r_addI (hAp.get rfl) rfl hS374) fun _ _ e => ⟨_, e, Chg.refl _ _, fun _ => Eq.refl _⟩
          · intro a w hT
            have hAp := hT.ag hA354 [] trivial (by kernel_rfl)
            have e376 : a.tmps.getD 72 undef = .int .i64 j_335 := hT.vals 6 rfl 72 rfl
            have hAp := hAp.add e376
            have e377 : a.tmps.getD 74 undef = .int .i64 (j_335 + 1) := hT.vals 8 rfl 74 rfl
            have hAp := hAp.add e377
            exact opk_val hAp rfl (r_sslice2 rfl (hAp.get rfl) (hAp.get rfl) Try.underlying9 hS378) fun _ _ e => ⟨_, e, Chg.refl _ _, fun _ => Eq.refl _⟩
          · intro a w hT
            have hAp := hT.ag hA354 [] trivial (by kernel_rfl)
            have e380 : a.tmps.getD 71 undef = .string (Bs x_370) := hT.vals 5 rfl 71 rfl
            have hAp := hAp.add e380
            have e381 : a.tmps.getD 75 undef = .string (Bs ((List.drop j_335.toNat ([97, 98, 99, 100, 101, 102, 103, 104, 105, 106, 107, 108, 109, 110, 111, 112, 113, 114, 115, 116, 117, 118, 119, 120, 121, 122] : Str)).take ((j_335 + 1).toNat - j_335.toNat))) := hT.vals 9 rfl 75 rfl
            have hAp := hAp.add e381
            exact opk_val hAp rfl (r_sneq (hAp.get rfl) (hAp.get rfl)) fun _ _ e => ⟨_, e, Chg.refl _ _, fun _ => Eq.refl _⟩
          · intro a382 w383 hE384 hag385 hv386
            have hA382 := hag385 [(1, .bool front_2), (5, .int .i64 r_6), (9, .pointer (some (⟨B_167, 0, none⟩ : Addr))), (12, .int .i64 i_207)] ⟨rfl, rfl, rfl, rfl, trivial⟩ (by kernel_rfl)
            have e388 : a382.tmps.getD 76 undef = .bool (decide (x_370 ≠ ((List.drop j_335.toNat ([97, 98, 99, 100, 101, 102, 103, 104, 105, 106, 107, 108, 109, 110, 111, 112, 113, 114, 115, 116, 117, 118, 119, 120, 121, 122] : Str)).take ((j_335 + 1).toNat - j_335.toNat)))) := hv386 10 rfl 76 rfl
            have hA389 := hA382.add e388
            have hB390 := hB359.ext hE384
            have hC391 : Chg [] w357 w383 := hE384
            refine PR_end (by kernel_rfl) ?_
            have hA392 := hA389.keep [(1, .bool front_2), (5, .int .i64 r_6), (9, .pointer (some (⟨B_167, 0, none⟩ : Addr))), (12, .int .i64 i_207), (76, .bool (decide (x_370 ≠ ((List.drop j_335.toNat ([97, 98, 99, 100, 101, 102, 103, 104, 105, 106, 107, 108, 109, 110, 111, 112, 113, 114, 115, 116, 117, 118, 119, 120, 121, 122] : Str)).take ((j_335 + 1).toNat - j_335.toNat)))))] ⟨rfl, rfl, rfl, rfl, rfl, trivial⟩
            refine then_normal ?_
            refine wp_cond_split (hA392.get rfl) (fun hc => ?_) (fun hc => ?_)
            · have ht393 := ht379.1 (of_decide_eq_true hc)
              clear hc
              refine wp_seq ?_
              refine wp_region_lit ?_
              refine sq (opk_val hA392 rfl (r_assign rfl) fun a395 hA395 _ => ?_)
              refine sq_end ?_
              have hA396 := hA395.keep [(4, .bool false)] ⟨rfl, trivial⟩
              refine then_normal ?_
              refine wp_ret ?_
              refine block_ret ?_
              refine then_ret ?_
              refine then_ret ?_
              refine block_ret ?_
              refine then_ret ?_
              have ht397 := ht393 w383    hC391
              exact res_all (vs := [.bool false]) rfl hA396 ⟨res_of_tmp hA396 rfl, trivial⟩ ht397
            · have ht394 := ht379.2 (of_decide_eq_false hc)
              clear hc
              refine wp_skip ?_
              refine block_normal ?_
              refine then_normal ?_
              refine wp_region_lit ?_
              refine sq (opk_val hA392 rfl (r_move (hA392.get rfl)) fun a398 hA398 _ => ?_)
              obtain ⟨hS400, ht401⟩ := ht394
              refine sq (opk_val hA398 rfl (r_addI (hA398.get rfl) rfl hS400) fun a399 hA399 _ => ?_)
              refine sq (opk_val hA399 rfl (r_assign (hA399.get rfl)) fun a402 hA402 _ => ?_)
              refine sq_end ?_
              have hA403 := hA402.keep [(1, .bool front_2), (5, .int .i64 r_6), (9, .pointer (some (⟨B_167, 0, none⟩ : Addr))), (12, .int .i64 (i_207 + 1))] ⟨rfl, rfl, rfl, rfl, trivial⟩
              have ht404 := ht401 w383    hC391
              have hA405 := hA403.keep [(1, .bool front_2), (5, .int .i64 r_6), (9, .pointer (some (⟨B_167, 0, none⟩ : Addr))), (12, .int .i64 (i_207 + 1))] ⟨rfl, rfl, rfl, rfl, trivial⟩
              exact then_normal ⟨(i_207 + 1, w383), ⟨hA405, hB390, rfl, ht404.1⟩, ht404.2⟩
      · have ht317 := ht310.2 (of_decide_eq_false hc)
        clear hc
        refine wp_exit ?_
        refine then_exit ?_
        refine then_exit ?_
        refine block_hit ?_
        have hA407 := hA315.keep [] trivial
        refine then_normal ?_
        refine wp_seq ?_
        refine wp_region_lit ?_
        refine sq (opk_call hA407 rfl (r_call (args := #[]) Try.func37 (by decide) rfl (map_arr ml_nil) rfl) ht317 fun a409 v415 w410 hA409 _ hn412 hz413 hK414 => ?_)
        obtain ⟨r_408, rfl, ht411⟩ := hK414
        refine sq (opk_val hA409 rfl (r_assign (hA409.get rfl)) fun a416 hA416 _ => ?_)
        refine sq_end ?_
        have hA417 := hA416.keep [(4, .bool r_408)] ⟨rfl, trivial⟩
        refine then_normal ?_
        refine wp_ret ?_
        exact res_all (vs := [.bool r_408]) rfl hA417 ⟨res_of_tmp hA417 rfl, trivial⟩ ht411

end Go.Proofs.Ytghmgfkdnolcdaa
