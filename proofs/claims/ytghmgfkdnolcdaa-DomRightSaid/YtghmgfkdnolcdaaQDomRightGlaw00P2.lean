/-
  PRINTED BY PROGRAM: for each function its condition (vc), and that this suffices (ok).
-/
import Derived.Test.YtghmgfkdnolcdaaQDomRightGT
namespace Go.Proofs.Ytghmgfkdnolcdaa
open Go.RowKit
set_option linter.unusedVariables false

/-- The condition of topiary/topiarylaw00.grown. -/
def law00_grown.vc (l_1 : Sl) (at_2 : Addr) (n_3 : Addr) (deep_4 : Int) (R : Value → World → Prop) (w : World) : Prop :=
∀ (w6 : World) (B_5 : Nat), New w B_5 w6 → Chg [] w w6 →
∃ (x_18 : Int), (w6.cell? n_3 = some (.int .i64 x_18)) ∧
(I64 (x_18 + 1)) ∧
∃ (B_29 o_30 : Nat) (T_31 : TypeId) (cs_32 : List Value), n_3 = ⟨B_29, o_30, none⟩ ∧ Box w6 B_29 T_31 cs_32 ∧ o_30 + 1 ≤ cs_32.length ∧ (∀ b ∈ [B_5], b ≠ B_29) ∧
(∀ w25 : World, Chg [B_29] w6 w25 → Box w25 B_29 T_31 (putAt cs_32 o_30 [.int .i64 (x_18 + 1)]) →
CallK Try.prog 54 #[Sl.v l_1, .pointer (some at_2)] w25 [B_5] (fun v w45 => ∃ (r_43 : Int), v = .int .i64 r_43 ∧
(((r_43.tmod 7) = 0) →
(I64 (r_43.tdiv 7)) ∧
((0 : Int) ≤ (r_43.tdiv 7).tmod 4 ∧ (r_43.tdiv 7).tmod 4 ≤ (([120, 121, 122] : Str).length : Int)) ∧
∀ (w70 : World), Chg [B_5] w45 w70 →
R (.agg #[.int .i64 4, .string (Bs ([] : Str)), .string (Bs (List.take ((r_43.tdiv 7).tmod 4).toNat ([120, 121, 122] : Str))), Sl.v Sl.nil, Sl.v Sl.nil]) w70) ∧
((¬ ((r_43.tmod 7) = 0)) →
((((r_43.tmod 7) < 3) ∨ (5 < deep_4)) →
(I64 (r_43.tdiv 7)) ∧
(I64 (r_43.tdiv 7)) ∧
(I64 (((r_43.tdiv 7).tmod 6) + 1)) ∧
((0 : Int) ≤ (r_43.tdiv 7).tmod 6 ∧ ((r_43.tdiv 7).tmod 6 : Int) ≤ ((r_43.tdiv 7).tmod 6) + 1 ∧ ((r_43.tdiv 7).tmod 6) + 1 ≤ (([97, 98, 99, 100, 101, 102] : Str).length : Int)) ∧
∀ (w106 : World), Chg [B_5] w45 w106 →
R (.agg #[.int .i64 3, .string (Bs ([] : Str)), .string (Bs ((List.drop ((r_43.tdiv 7).tmod 6).toNat ([97, 98, 99, 100, 101, 102] : Str)).take ((((r_43.tdiv 7).tmod 6) + 1).toNat - ((r_43.tdiv 7).tmod 6).toNat))), Sl.v Sl.nil, Sl.v Sl.nil]) w106) ∧
(((¬ ((r_43.tmod 7) < 3)) ∧ (¬ (5 < deep_4))) →
(I64 (r_43.tdiv 7)) ∧
((0 : Int) ≤ (r_43.tdiv 7).tmod 4 ∧ (r_43.tdiv 7).tmod 4 < 4) ∧
(I64 (r_43.tdiv 28)) ∧
∀ (w134 : World) (B_124 : Nat), New w45 B_124 w134 → Chg [] w45 w134 →
∃ J_232 : Sl → World → Prop,
(((((r_43.tdiv 28).tmod 3) = 0) →
∀ (w237 : World), Chg [] w134 w237 →
(I64 (r_43.tdiv 84)) ∧
(I64 (r_43.tdiv 84)) ∧
(I64 (((r_43.tdiv 84).tmod 4) + 1)) ∧
((0 : Int) ≤ (r_43.tdiv 84).tmod 4 ∧ ((r_43.tdiv 84).tmod 4 : Int) ≤ ((r_43.tdiv 84).tmod 4) + 1 ∧ ((r_43.tdiv 84).tmod 4) + 1 ≤ (([48, 49, 50, 51] : Str).length : Int)) ∧
∀ (w267 : World) (B_261 : Nat), Ext w237 w267 → w237.heap.size ≤ B_261 → Box w267 B_261 65 [.string (Bs ([105, 100] : Str)), .string (Bs ((List.drop ((r_43.tdiv 84).tmod 4).toNat ([48, 49, 50, 51] : Str)).take ((((r_43.tdiv 84).tmod 4) + 1).toNat - ((r_43.tdiv 84).tmod 4).toNat)))] → 
∀ (_ : Box w267 B_261 65 [.string (Bs ([105, 100] : Str)), .string (Bs ((List.drop ((r_43.tdiv 84).tmod 4).toNat ([48, 49, 50, 51] : Str)).take ((((r_43.tdiv 84).tmod 4) + 1).toNat - ((r_43.tdiv 84).tmod 4).toNat)))]),
RunK Try.prog (Builtin.append_ #[26, 26] 26 #[Sl.v Sl.nil, Sl.v (Sl.mk (some ⟨B_261, 0, none⟩) 1 1)]) w267 [B_5, B_124] (fun v w286 => ∃ (r_292 : Sl), v = Sl.v r_292 ∧
∀ (w306 : World), Chg [B_124] w286 w306 →
J_232 r_292 w306)) ∧
((¬ (((r_43.tdiv 28).tmod 3) = 0)) →
J_232 Sl.nil w134)) ∧
(∀ (c_230 : Sl) (w231 : World), J_232 c_230 w231 →
(I64 (r_43.tdiv 28)) ∧
∃ J_401 : Sl → World → Prop,
(((((r_43.tdiv 28).tmod 5) = 0) →
∀ (w406 : World), Chg [] w231 w406 →
(I64 (r_43.tdiv 84)) ∧
((0 : Int) ≤ (r_43.tdiv 84).tmod 3 ∧ (r_43.tdiv 84).tmod 3 ≤ (([117, 118] : Str).length : Int)) ∧
∀ (w428 : World) (B_422 : Nat), Ext w406 w428 → w406.heap.size ≤ B_422 → Box w428 B_422 65 [.string (Bs ([120] : Str)), .string (Bs (List.take ((r_43.tdiv 84).tmod 3).toNat ([117, 118] : Str)))] → 
∀ (_ : Box w428 B_422 65 [.string (Bs ([120] : Str)), .string (Bs (List.take ((r_43.tdiv 84).tmod 3).toNat ([117, 118] : Str)))]),
RunK Try.prog (Builtin.append_ #[26, 26] 26 #[Sl.v c_230, Sl.v (Sl.mk (some ⟨B_422, 0, none⟩) 1 1)]) w428 [B_5, B_124] (fun v w447 => ∃ (r_453 : Sl), v = Sl.v r_453 ∧
∀ (w467 : World), Chg [B_124] w447 w467 →
J_401 r_453 w467)) ∧
((¬ (((r_43.tdiv 28).tmod 5) = 0)) →
J_401 c_230 w231)) ∧
(∀ (c_399 : Sl) (w400 : World), J_401 c_399 w400 →
(I64 (r_43.tdiv 512)) ∧
∃ (J_616 : Int → Sl → World → Prop) (mu_617 : Int → Sl → World → Nat),
J_616 ((r_43.tdiv 512).tmod 4) Sl.nil w400 ∧
(∀ (k_613 : Int) (c_614 : Sl) (w615 : World), J_616 k_613 c_614 w615 →
∃ (x_751 : Int), (((0 < k_613)) → w615.cell? n_3 = some (.int .i64 x_751)) ∧
(((0 < k_613) ∧ (x_751 < 40)) →
∀ (w759 : World), Chg [] w615 w759 →
(I64 (deep_4 + 1)) ∧
CallK Try.prog 55 #[Sl.v l_1, .pointer (some at_2), .pointer (some n_3), .int .i64 (deep_4 + 1)] w759 [B_5, B_124] (fun v w780 => ∃ (r_778_Kind : Int) (r_778_Name : Str) (r_778_Text : Str) (r_778_Attrs : Sl) (r_778_Kids : Sl), v = .agg #[.int .i64 r_778_Kind, .string (Bs r_778_Name), .string (Bs r_778_Text), Sl.v r_778_Attrs, Sl.v r_778_Kids] ∧
∀ (w796 : World) (B_788 : Nat), Ext w780 w796 → w780.heap.size ≤ B_788 → Box w796 B_788 29 [.int .i64 r_778_Kind, .string (Bs r_778_Name), .string (Bs r_778_Text), Sl.v r_778_Attrs, Sl.v r_778_Kids] → 
∀ (w814 : World), Chg [] w796 w814 →
∀ (_ : Box w814 B_788 29 [.int .i64 r_778_Kind, .string (Bs r_778_Name), .string (Bs r_778_Text), Sl.v r_778_Attrs, Sl.v r_778_Kids]),
RunK Try.prog (Builtin.append_ #[27, 27] 27 #[Sl.v c_614, Sl.v (Sl.mk (some ⟨B_788, 0, none⟩) 1 1)]) w814 [B_5, B_124] (fun v w827 => ∃ (r_833 : Sl), v = Sl.v r_833 ∧
(I64 (k_613 - 1)) ∧
∀ (w847 : World), Chg [B_124] w827 w847 →
J_616 (k_613 - 1) r_833 w847 ∧ mu_617 (k_613 - 1) r_833 w847 < mu_617 k_613 c_614 w615))) ∧
(((¬ (0 < k_613)) ∨ (¬ (x_751 < 40))) →
∀ (w866 : World), Chg [B_5] w615 w866 →
R (.agg #[.int .i64 2, .string (Bs (([([98] : Str), ([112] : Str), ([100, 105, 118] : Str), ([108, 105] : Str)] : List Str).getD ((r_43.tdiv 7).tmod 4).toNat [])), .string (Bs ([] : Str)), Sl.v c_399, Sl.v c_614]) w866))))))))
set_option maxHeartbeats 1000000 in
set_option maxRecDepth 10000 in
theorem law00_grown.ok (l_1 : Sl) (at_2 : Addr) (n_3 : Addr) (deep_4 : Int) {R : Value → World → Prop} {w : World} (ht0 : law00_grown.vc l_1 at_2 n_3 deep_4 R w) : Calls Try.prog 55 #[Sl.v l_1, .pointer (some at_2), .pointer (some n_3), .int .i64 deep_4] w (Ret R) := by
  refine enter [Sl.v l_1, .pointer (some at_2), .pointer (some n_3), .int .i64 deep_4] Try.func55 rfl Try.ntmps55 rfl ?_
  intro a0 hA0
  unfold law00_grown.vc at ht0
  refine wp_seq ?_
  refine wp_region_lit ?_
  refine sq (opk_new (fun B => .pointer (some ⟨B, 0, none⟩)) hA0 rfl (r_alloc (cs := [.int .i64 0, .string (Bs ([] : Str)), .string (Bs ([] : Str)), Sl.v Sl.nil, Sl.v Sl.nil]) ti_29 rfl) fun a7 w6 B_5 hE8 hN9 hB10 hA7 _ => ?_)
  have hN11 : New w B_5 w6 := hN9
  have hC12 : Chg [] w w6 := hE8
  refine sq_end ?_
  have hA13 := hA7.keep [(0, Sl.v l_1), (1, .pointer (some at_2)), (2, .pointer (some n_3)), (3, .int .i64 deep_4), (8, .pointer (some (⟨B_5, 0, none⟩ : Addr)))] ⟨rfl, rfl, rfl, rfl, rfl, trivial⟩
  refine then_normal ?_
  refine wp_seq ?_
  refine wp_region_lit ?_
  refine sq (opk_val hA13 rfl (r_move (hA13.get rfl)) fun a14 hA14 _ => ?_)
  refine sq (opk_val hA14 rfl (r_nilCheck (hA14.get rfl)) fun a15 hA15 _ => ?_)
  have ht17 := ht0 w6 B_5 hN11  hC12
  obtain ⟨x_18, hx19, ht20⟩ := ht17
  refine sq (opk_val hA15 rfl (r_load1 Try.underlying3 rfl (hA15.get rfl) hx19) fun a16 hA16 _ => ?_)
  obtain ⟨hS22, ht23⟩ := ht20
  refine sq (opk_val hA16 rfl (r_addI (hA16.get rfl) rfl hS22) fun a21 hA21 _ => ?_)
  refine sq (opk_val hA21 rfl (r_nilCheck (hA21.get rfl)) fun a24 hA24 _ => ?_)
  obtain ⟨B_29, o_30, T_31, cs_32, he33, hb34, hl35, hx36, ht37⟩ := ht23
  refine sq (opk_store hA24 hb34 (r_store (vs := [.int .i64 (x_18 + 1)]) (((hA24.get rfl)).trans (congrArg (fun a => Value.pointer (some a)) he33)) (hA24.get rfl) rfl ti_3 hb34 (Nat.ble_eq_true_of_le hl35) (ones_all [.int .i64 (x_18 + 1)] rfl)) fun a26 w25 hS27 hB28 hA26 => ?_)
  have hB38 := hB10.keep hS27 (by have := hx36 B_5 (by simp); simpa using this)
  have ht39 := ht37 w25 hS27 hB28
  refine sq_end ?_
  have hA40 := hA26.keep [(0, Sl.v l_1), (1, .pointer (some at_2)), (2, .pointer (some n_3)), (3, .int .i64 deep_4), (8, .pointer (some (⟨B_5, 0, none⟩ : Addr)))] ⟨rfl, rfl, rfl, rfl, rfl, trivial⟩
  refine then_normal ?_
  refine wp_seq ?_
  refine wp_region_lit ?_
  refine sq (opk_val hA40 rfl (r_move (hA40.get rfl)) fun a41 hA41 _ => ?_)
  refine sq (opk_val hA41 rfl (r_move (hA41.get rfl)) fun a42 hA42 _ => ?_)
  refine sq (opk_call hA42 rfl (r_call (args := #[Sl.v l_1, .pointer (some at_2)]) Try.func54 (by decide) rfl (map_arr (ml_cons (hA42.get rfl) (ml_cons (hA42.get rfl) ml_nil))) rfl) ht39 fun a44 v50 w45 hA44 _ hn47 hz48 hK49 => ?_)
  obtain ⟨r_43, rfl, ht46⟩ := hK49
  have hB51 := hB38.kept hn47 (.head _)
  refine sq (opk_val hA44 rfl (r_assign (hA44.get rfl)) fun a52 hA52 _ => ?_)
  refine sq_end ?_
  have hA53 := hA52.keep [(0, Sl.v l_1), (1, .pointer (some at_2)), (2, .pointer (some n_3)), (3, .int .i64 deep_4), (8, .pointer (some (⟨B_5, 0, none⟩ : Addr))), (9, .int .i64 r_43)] ⟨rfl, rfl, rfl, rfl, rfl, rfl, trivial⟩
  refine then_normal ?_
  refine wp_seq ?_
  refine wp_block ?_
  refine wp_seq ?_
  refine wp_region_lit ?_
  refine sq (opk_val hA53 rfl (r_move (hA53.get rfl)) fun a54 hA54 _ => ?_)
  refine sq (opk_val hA54 rfl (r_rem (hA54.get rfl) rfl (by decide)) fun a55 hA55 _ => ?_)
  refine sq (opk_val hA55 rfl (r_eql (hA55.get rfl) rfl) fun a56 hA56 _ => ?_)
  refine sq (opk_val hA56 rfl (r_assign (hA56.get rfl)) fun a57 hA57 _ => ?_)
  refine sq_end ?_
  have hA58 := hA57.keep [(0, Sl.v l_1), (1, .pointer (some at_2)), (2, .pointer (some n_3)), (3, .int .i64 deep_4), (8, .pointer (some (⟨B_5, 0, none⟩ : Addr))), (9, .int .i64 r_43), (20, .bool (decide ((r_43.tmod 7) = 0)))] ⟨rfl, rfl, rfl, rfl, rfl, rfl, rfl, trivial⟩
  refine then_normal ?_
  refine wp_cond_split (hA58.get rfl) (fun hc => ?_) (fun hc => ?_)
  · have ht59 := ht46.1 (of_decide_eq_true hc)
    clear hc
    refine wp_seq ?_
    refine wp_region_lit ?_
    refine sq (opk_val hA58 rfl (r_move (hA58.get rfl)) fun a61 hA61 _ => ?_)
    obtain ⟨hS63, ht64⟩ := ht59
    refine sq (opk_val hA61 rfl (r_quoI (hA61.get rfl) rfl (by decide) hS63) fun a62 hA62 _ => ?_)
    refine sq (opk_val hA62 rfl (r_rem (hA62.get rfl) rfl (by decide)) fun a65 hA65 _ => ?_)
    obtain ⟨hS67, ht68⟩ := ht64
    refine sq (opk_val hA65 rfl (r_ssliceH rfl (hA65.get rfl) Try.underlying9 hS67) fun a66 hA66 _ => ?_)
    refine sq (opk_val hA66 rfl (r_build (vs := #[(0, .int .i64 4), (2, .string (Bs (List.take ((r_43.tdiv 7).tmod 4).toNat ([120, 121, 122] : Str))))]) (cells := #[.int .i64 4, .string (Bs ([] : Str)), .string (Bs (List.take ((r_43.tdiv 7).tmod 4).toNat ([120, 121, 122] : Str))), Sl.v Sl.nil, Sl.v Sl.nil]) (map_arr2 (ml2_cons rfl (ml2_cons (hA66.get rfl) (ml2_nil)))) ti_29 Try.underlying29 pl_29 (by kernel_rfl)) fun a69 hA69 _ => ?_)
    refine sq (opk_store hA69 hB51 (r_store (vs := [.int .i64 4, .string (Bs ([] : Str)), .string (Bs (List.take ((r_43.tdiv 7).tmod 4).toNat ([120, 121, 122] : Str))), Sl.v Sl.nil, Sl.v Sl.nil]) (hA69.get rfl) (hA69.get rfl) rfl ti_29 hB51 rfl (ones_all [.int .i64 4, .string (Bs ([] : Str)), .string (Bs (List.take ((r_43.tdiv 7).tmod 4).toNat ([120, 121, 122] : Str))), Sl.v Sl.nil, Sl.v Sl.nil] rfl)) fun a71 w70 hS72 hB73 hA71 => ?_)
    have hB74 : Box w70 B_5 29 [.int .i64 4, .string (Bs ([] : Str)), .string (Bs (List.take ((r_43.tdiv 7).tmod 4).toNat ([120, 121, 122] : Str))), Sl.v Sl.nil, Sl.v Sl.nil] := hB73
    have hC75 : Chg [B_5] w45 w70 := hS72
    refine sq_end ?_
    have hA76 := hA71.keep [(8, .pointer (some (⟨B_5, 0, none⟩ : Addr)))] ⟨rfl, trivial⟩
    refine then_normal ?_
    refine wp_ret ?_
    refine block_ret ?_
    refine then_ret ?_
    have ht77 := ht68 w70    hC75
    exact res_all (vs := [.agg #[.int .i64 4, .string (Bs ([] : Str)), .string (Bs (List.take ((r_43.tdiv 7).tmod 4).toNat ([120, 121, 122] : Str))), Sl.v Sl.nil, Sl.v Sl.nil]]) rfl hA76 ⟨res_of_cell hA76 rfl hB74 Try.underlying29 rfl ti_29, trivial⟩ ht77
  · have ht60 := ht46.2 (of_decide_eq_false hc)
    clear hc
    refine wp_seq ?_
    refine wp_region_lit ?_
    refine sq (opk_val hA58 rfl (r_move (hA58.get rfl)) fun a78 hA78 _ => ?_)
    refine sq (opk_val hA78 rfl (r_rem (hA78.get rfl) rfl (by decide)) fun a79 hA79 _ => ?_)
    refine sq (opk_val hA79 rfl (r_lss (hA79.get rfl) rfl) fun a80 hA80 _ => ?_)
    refine sq (opk_val hA80 rfl (r_move (hA80.get rfl)) fun a81 hA81 _ => ?_)
    refine sq (opk_gval hA81 rfl rfl (g := true) (e := (decide ((r_43.tmod 7) < 3))) rfl (fun hg => r_move (hA81.get rfl)) fun a82 hA82 _ => ?_)
    refine sq (opk_gval hA82 rfl rfl (g := true) (e := (decide ((r_43.tmod 7) < 3))) rfl (fun hg => r_gtr (cv_get (hA82.get rfl) hg) rfl) fun a83 hA83 _ => ?_)
    refine sq (opk_val hA83 rfl (r_pick_or (g := (true && ((decide ((r_43.tmod 7) < 3)) == false))) (hA83.get rfl) (hA83.get rfl) (fun he => g_mkf rfl he)) fun a84 hA84 _ => ?_)
    refine sq (opk_val hA84 rfl (r_assign (hA84.get rfl)) fun a85 hA85 _ => ?_)
    refine sq_end ?_
    have hA86 := hA85.keep [(0, Sl.v l_1), (1, .pointer (some at_2)), (2, .pointer (some n_3)), (3, .int .i64 deep_4), (8, .pointer (some (⟨B_5, 0, none⟩ : Addr))), (9, .int .i64 r_43), (29, .bool ((decide ((r_43.tmod 7) < 3)) || (decide (5 < deep_4))))] ⟨rfl, rfl, rfl, rfl, rfl, rfl, rfl, trivial⟩
    refine then_normal ?_
    refine wp_cond_split (hA86.get rfl) (fun hc => ?_) (fun hc => ?_)
    · have ht87 := ht60.1 ((b_or_t hc).imp (fun h => (of_decide_eq_true h)) (fun h => (of_decide_eq_true h)))
      clear hc
      refine wp_seq ?_
      refine wp_region_lit ?_
      refine sq (opk_val hA86 rfl (r_move (hA86.get rfl)) fun a89 hA89 _ => ?_)
      obtain ⟨hS91, ht92⟩ := ht87
      refine sq (opk_val hA89 rfl (r_quoI (hA89.get rfl) rfl (by decide) hS91) fun a90 hA90 _ => ?_)
      refine sq (opk_val hA90 rfl (r_rem (hA90.get rfl) rfl (by decide)) fun a93 hA93 _ => ?_)
      refine sq (opk_val hA93 rfl (r_move (hA93.get rfl)) fun a94 hA94 _ => ?_)
      obtain ⟨hS96, ht97⟩ := ht92
      refine sq (opk_val hA94 rfl (r_quoI (hA94.get rfl) rfl (by decide) hS96) fun a95 hA95 _ => ?_)
      refine sq (opk_val hA95 rfl (r_rem (hA95.get rfl) rfl (by decide)) fun a98 hA98 _ => ?_)
      obtain ⟨hS100, ht101⟩ := ht97
      refine sq (opk_val hA98 rfl (r_addI (hA98.get rfl) rfl hS100) fun a99 hA99 _ => ?_)
      obtain ⟨hS103, ht104⟩ := ht101
      refine sq (opk_val hA99 rfl (r_sslice2 rfl (hA99.get rfl) (hA99.get rfl) Try.underlying9 hS103) fun a102 hA102 _ => ?_)
      refine sq (opk_val hA102 rfl (r_build (vs := #[(0, .int .i64 3), (2, .string (Bs ((List.drop ((r_43.tdiv 7).tmod 6).toNat ([97, 98, 99, 100, 101, 102] : Str)).take ((((r_43.tdiv 7).tmod 6) + 1).toNat - ((r_43.tdiv 7).tmod 6).toNat))))]) (cells := #[.int .i64 3, .string (Bs ([] : Str)), .string (Bs ((List.drop ((r_43.tdiv 7).tmod 6).toNat ([97, 98, 99, 100, 101, 102] : Str)).take ((((r_43.tdiv 7).tmod 6) + 1).toNat - ((r_43.tdiv 7).tmod 6).toNat))), Sl.v Sl.nil, Sl.v Sl.nil]) (map_arr2 (ml2_cons rfl (ml2_cons (hA102.get rfl) (ml2_nil)))) ti_29 Try.underlying29 pl_29 (by kernel_rfl)) fun a105 hA105 _ => ?_)
      refine sq (opk_store hA105 hB51 (r_store (vs := [.int .i64 3, .string (Bs ([] : Str)), .string (Bs ((List.drop ((r_43.tdiv 7).tmod 6).toNat ([97, 98, 99, 100, 101, 102] : Str)).take ((((r_43.tdiv 7).tmod 6) + 1).toNat - ((r_43.tdiv 7).tmod 6).toNat))), Sl.v Sl.nil, Sl.v Sl.nil]) (hA105.get rfl) (hA105.get rfl) rfl ti_29 hB51 rfl (ones_all [.int .i64 3, .string (Bs ([] : Str)), .string (Bs ((List.drop ((r_43.tdiv 7).tmod 6).toNat ([97, 98, 99, 100, 101, 102] : Str)).take ((((r_43.tdiv 7).tmod 6) + 1).toNat - ((r_43.tdiv 7).tmod 6).toNat))), Sl.v Sl.nil, Sl.v Sl.nil] rfl)) fun a107 w106 hS108 hB109 hA107 => ?_)
      have hB110 : Box w106 B_5 29 [.int .i64 3, .string (Bs ([] : Str)), .string (Bs ((List.drop ((r_43.tdiv 7).tmod 6).toNat ([97, 98, 99, 100, 101, 102] : Str)).take ((((r_43.tdiv 7).tmod 6) + 1).toNat - ((r_43.tdiv 7).tmod 6).toNat))), Sl.v Sl.nil, Sl.v Sl.nil] := hB109
      have hC111 : Chg [B_5] w45 w106 := hS108
      refine sq_end ?_
      have hA112 := hA107.keep [(8, .pointer (some (⟨B_5, 0, none⟩ : Addr)))] ⟨rfl, trivial⟩
      refine then_normal ?_
      refine wp_ret ?_
      refine block_ret ?_
      refine then_ret ?_
      have ht113 := ht104 w106    hC111
      exact res_all (vs := [.agg #[.int .i64 3, .string (Bs ([] : Str)), .string (Bs ((List.drop ((r_43.tdiv 7).tmod 6).toNat ([97, 98, 99, 100, 101, 102] : Str)).take ((((r_43.tdiv 7).tmod 6) + 1).toNat - ((r_43.tdiv 7).tmod 6).toNat))), Sl.v Sl.nil, Sl.v Sl.nil]]) rfl hA112 ⟨res_of_cell hA112 rfl hB110 Try.underlying29 rfl ti_29, trivial⟩ ht113
    · have ht88 := ht60.2 ⟨(of_decide_eq_false (b_or_f hc).1), (of_decide_eq_false (b_or_f hc).2)⟩
      clear hc
      refine wp_skip ?_
      refine block_normal ?_
      refine then_normal ?_
      refine wp_seq ?_
      refine wp_region_lit ?_
      refine sq (opk_val hA86 rfl (r_buildA (vs := #[(0, .string (Bs ([98] : Str))), (1, .string (Bs ([112] : Str))), (2, .string (Bs ([100, 105, 118] : Str))), (3, .string (Bs ([108, 105] : Str)))]) (cells := #[.string (Bs ([98] : Str)), .string (Bs ([112] : Str)), .string (Bs ([100, 105, 118] : Str)), .string (Bs ([108, 105] : Str))]) (map_arr2 (ml2_cons rfl (ml2_cons rfl (ml2_cons rfl (ml2_cons rfl (ml2_nil)))))) ti_107 Try.underlying107 ti_9 (by kernel_rfl)) fun a114 hA114 _ => ?_)
      refine sq (opk_val hA114 rfl (r_move (hA114.get rfl)) fun a115 hA115 _ => ?_)
      obtain ⟨hS117, ht118⟩ := ht88
      refine sq (opk_val hA115 rfl (r_quoI (hA115.get rfl) rfl (by decide) hS117) fun a116 hA116 _ => ?_)
      refine sq (opk_val hA116 rfl (r_rem (hA116.get rfl) rfl (by decide)) fun a119 hA119 _ => ?_)
      obtain ⟨hS121, ht122⟩ := ht118
      refine sq (opk_val hA119 rfl (r_aindexS (l := ([([98] : Str), ([112] : Str), ([100, 105, 118] : Str), ([108, 105] : Str)] : List Str)) (hA119.get rfl) rfl (hA119.get rfl) Try.underlying107 Try.underlying9 ti_9 rfl hS121) fun a120 hA120 _ => ?_)
      refine sq (opk_val hA120 rfl (r_build (vs := #[(0, .int .i64 2), (1, .string (Bs (([([98] : Str), ([112] : Str), ([100, 105, 118] : Str), ([108, 105] : Str)] : List Str).getD ((r_43.tdiv 7).tmod 4).toNat [])))]) (cells := #[.int .i64 2, .string (Bs (([([98] : Str), ([112] : Str), ([100, 105, 118] : Str), ([108, 105] : Str)] : List Str).getD ((r_43.tdiv 7).tmod 4).toNat [])), .string (Bs ([] : Str)), Sl.v Sl.nil, Sl.v Sl.nil]) (map_arr2 (ml2_cons rfl (ml2_cons (hA120.get rfl) (ml2_nil)))) ti_29 Try.underlying29 pl_29 (by kernel_rfl)) fun a123 hA123 _ => ?_)
      refine sq (opk_new (fun B => .pointer (some ⟨B, 0, none⟩)) hA123 rfl (r_alloc (cs := [.int .i64 0, .string (Bs ([] : Str)), .string (Bs ([] : Str)), Sl.v Sl.nil, Sl.v Sl.nil]) ti_29 rfl) fun a126 w125 B_124 hE127 hN128 hB129 hA126 _ => ?_)
      have hne130 : B_5 ≠ B_124 := Nat.ne_of_lt (Nat.lt_of_lt_of_le hB51.lt hN128.ge)
      have hN131 : New w45 B_124 w125 := hN128
      have hB132 := hB51.ext hE127
      have hC133 : Chg [] w45 w125 := hE127
      refine sq (opk_store hA126 hB129 (r_store (vs := [.int .i64 2, .string (Bs (([([98] : Str), ([112] : Str), ([100, 105, 118] : Str), ([108, 105] : Str)] : List Str).getD ((r_43.tdiv 7).tmod 4).toNat [])), .string (Bs ([] : Str)), Sl.v Sl.nil, Sl.v Sl.nil]) (hA126.get rfl) (hA126.get rfl) rfl ti_29 hB129 rfl (ones_all [.int .i64 2, .string (Bs (([([98] : Str), ([112] : Str), ([100, 105, 118] : Str), ([108, 105] : Str)] : List Str).getD ((r_43.tdiv 7).tmod 4).toNat [])), .string (Bs ([] : Str)), Sl.v Sl.nil, Sl.v Sl.nil] rfl)) fun a135 w134 hS136 hB137 hA135 => ?_)
      have hB138 : Box w134 B_124 29 [.int .i64 2, .string (Bs (([([98] : Str), ([112] : Str), ([100, 105, 118] : Str), ([108, 105] : Str)] : List Str).getD ((r_43.tdiv 7).tmod 4).toNat [])), .string (Bs ([] : Str)), Sl.v Sl.nil, Sl.v Sl.nil] := hB137
      have hB139 := hB132.keep hS136 (by simpa using hne130)
      have hC140 := hC133.storeNew hN131 hS136
      have hN141 := hN131.up hS136.size
      refine sq_end ?_
      have hA142 := hA135.keep [(0, Sl.v l_1), (1, .pointer (some at_2)), (2, .pointer (some n_3)), (3, .int .i64 deep_4), (8, .pointer (some (⟨B_5, 0, none⟩ : Addr))), (9, .int .i64 r_43), (10, .pointer (some (⟨B_124, 0, none⟩ : Addr)))] ⟨rfl, rfl, rfl, rfl, rfl, rfl, rfl, trivial⟩
      refine then_normal ?_
      refine wp_seq ?_
      refine wp_seq ?_
      refine wp_region_lit ?_
      refine sq (opk_val hA142 rfl (r_move (hA142.get rfl)) fun a143 hA143 _ => ?_)
      obtain ⟨hS145, ht146⟩ := ht122
      refine sq (opk_val hA143 rfl (r_quoI (hA143.get rfl) rfl (by decide) hS145) fun a144 hA144 _ => ?_)
      refine sq (opk_val hA144 rfl (r_rem (hA144.get rfl) rfl (by decide)) fun a147 hA147 _ => ?_)
      refine sq (opk_val hA147 rfl (r_eql (hA147.get rfl) rfl) fun a148 hA148 _ => ?_)
      refine sq_end ?_
      have hA149 := hA148.keep [(0, Sl.v l_1), (1, .pointer (some at_2)), (2, .pointer (some n_3)), (3, .int .i64 deep_4), (8, .pointer (some (⟨B_5, 0, none⟩ : Addr))), (9, .int .i64 r_43), (10, .pointer (some (⟨B_124, 0, none⟩ : Addr))), (55, .bool (decide (((r_43.tdiv 28).tmod 3) = 0)))] ⟨rfl, rfl, rfl, rfl, rfl, rfl, rfl, rfl, trivial⟩
      refine then_normal ?_
      have ht150 := ht146 w134 B_124 hN141  hC140
      obtain ⟨J_232, ht233, hr234⟩ := ht150
      refine wp_meet (fun a w => ∃ c_230 : Sl, Ag 109 a [(0, Sl.v l_1), (1, .pointer (some at_2)), (2, .pointer (some n_3)), (3, .int .i64 deep_4), (8, .pointer (some (⟨B_5, 0, none⟩ : Addr))), (9, .int .i64 r_43), (10, .pointer (some (⟨B_124, 0, none⟩ : Addr)))] ∧ Box w B_5 29 [.int .i64 0, .string (Bs ([] : Str)), .string (Bs ([] : Str)), Sl.v Sl.nil, Sl.v Sl.nil] ∧ Box w B_124 29 [.int .i64 2, .string (Bs (([([98] : Str), ([112] : Str), ([100, 105, 118] : Str), ([108, 105] : Str)] : List Str).getD ((r_43.tdiv 7).tmod 4).toNat [])), .string (Bs ([] : Str)), Sl.v c_230, Sl.v Sl.nil] ∧ J_232 c_230 w) ?_ ?_
      · refine wp_cond_split (hA149.get rfl) (fun hc => ?_) (fun hc => ?_)
        · have ht235 := ht233.1 (of_decide_eq_true hc)
          clear hc
          refine draw' (by kernel_rfl) fun w237 hE238 => ?_
          have hB239 := hB139.ext hE238
          have hB240 := hB138.ext hE238
          have hC241 : Chg [] w134 w237 := hE238
          have ht242 := ht235 w237    hC241
          obtain ⟨hS245, ht246⟩ := ht242
          obtain ⟨hS249, ht250⟩ := ht246
          obtain ⟨hS253, ht254⟩ := ht250
          obtain ⟨hS257, ht258⟩ := ht254
          refine par (D := [[], [0], [], [2], [2, 3], [], [5], [5, 6], [5, 6, 7], [2, 3, 4, 5, 6, 7, 8], [2, 3, 4, 5, 6, 7, 8, 9], [2, 3, 4, 5, 6, 7, 8, 9, 10], [0, 1, 2, 3, 4, 5, 6, 7, 8, 9, 10, 11], [0, 1, 2, 3, 4, 5, 6, 7, 8, 9, 10, 11, 12], [0, 1, 2, 3, 4, 5, 6, 7, 8, 9, 10, 11, 12, 13]]) (S := [0, 1, 2, 3, 4, 5, 6, 7, 8, 9, 10, 11]) (F := []) (V := VL [(0, fun v _ => v = .pointer (some (⟨B_124, 3, none⟩ : Addr))), (1, fun v _ => v = Sl.v Sl.nil), (2, fun v _ => v = .int .i64 r_43), (3, fun v _ => v = .int .i64 (r_43.tdiv 84)), (4, fun v _ => v = .int .i64 ((r_43.tdiv 84).tmod 4)), (5, fun v _ => v = .int .i64 r_43), (6, fun v _ => v = .int .i64 (r_43.tdiv 84)), (7, fun v _ => v = .int .i64 ((r_43.tdiv 84).tmod 4)), (8, fun v _ => v = .int .i64 (((r_43.tdiv 84).tmod 4) + 1)), (9, fun v _ => v = .string (Bs ((List.drop ((r_43.tdiv 84).tmod 4).toNat ([48, 49, 50, 51] : Str)).take ((((r_43.tdiv 84).tmod 4) + 1).toNat - ((r_43.tdiv 84).tmod 4).toNat)))), (10, fun v _ => v = .agg #[.string (Bs ([105, 100] : Str)), .string (Bs ((List.drop ((r_43.tdiv 84).tmod 4).toNat ([48, 49, 50, 51] : Str)).take ((((r_43.tdiv 84).tmod 4) + 1).toNat - ((r_43.tdiv 84).tmod 4).toNat)))]), (11, fun v w' => ∃ B_261 : Nat, w237.heap.size ≤ B_261 ∧ Box w' B_261 65 [.string (Bs ([105, 100] : Str)), .string (Bs ((List.drop ((r_43.tdiv 84).tmod 4).toNat ([48, 49, 50, 51] : Str)).take ((((r_43.tdiv 84).tmod 4) + 1).toNat - ((r_43.tdiv 84).tmod 4).toNat)))] ∧ v = Sl.v (Sl.mk (some ⟨B_261, 0, none⟩) 1 1))]) hA149 (by kernel_rfl) ⟨fun _ _ _ _ h => by first | exact h | (change _ = _ at h; change _ = _; exact h), fun _ _ _ _ h => by first | exact h | (change _ = _ at h; change _ = _; exact h), fun _ _ _ _ h => by first | exact h | (change _ = _ at h; change _ = _; exact h), fun _ _ _ _ h => by first | exact h | (change _ = _ at h; change _ = _; exact h), fun _ _ _ _ h => by first | exact h | (change _ = _ at h; change _ = _; exact h), fun _ _ _ _ h => by first | exact h | (change _ = _ at h; change _ = _; exact h), fun _ _ _ _ h => by first | exact h | (change _ = _ at h; change _ = _; exact h), fun _ _ _ _ h => by first | exact h | (change _ = _ at h; change _ = _; exact h), fun _ _ _ _ h => by first | exact h | (change _ = _ at h; change _ = _; exact h), fun _ _ _ _ h => by first | exact h | (change _ = _ at h; change _ = _; exact h), fun _ _ _ _ h => by first | exact h | (change _ = _ at h; change _ = _; exact h), fun _ _ _ hE ⟨B_261, h0_, h1_, e⟩ => ⟨B_261, h0_, (h1_.ext hE), e⟩, trivial⟩ ⟨?_, ?_, ?_, ?_, ?_, ?_, ?_, ?_, ?_, ?_, ?_, ?_, trivial⟩ ?_
          · intro a w hT
            have hAp := hT.ag hA149 [(10, .pointer (some (⟨B_124, 0, none⟩ : Addr)))] ⟨rfl, trivial⟩ (by kernel_rfl)
            exact opk_val hAp rfl (r_fieldAddr (hAp.get rfl) Try.underlying29 rfl ti_26 (by decide)) fun _ _ e => ⟨_, e, Chg.refl _ _, fun _ => Eq.refl _⟩
          · intro a w hT
            have hAp := hT.ag hA149 [] trivial (by kernel_rfl)
            have e243 : a.tmps.getD 56 undef = .pointer (some (⟨B_124, 3, none⟩ : Addr)) := hT.vals 0 rfl 56 rfl
            have hAp := hAp.add e243
            exact opk_val hAp rfl (r_load1 Try.underlying26 rfl (hAp.get rfl) ((hB240.ext hT.chg).cell 3 _ rfl)) fun _ _ e => ⟨_, e, Chg.refl _ _, fun _ => Eq.refl _⟩
          · intro a w hT
            have hAp := hT.ag hA149 [(9, .int .i64 r_43)] ⟨rfl, trivial⟩ (by kernel_rfl)
            exact opk_val hAp rfl (r_move (hAp.get rfl)) fun _ _ e => ⟨_, e, Chg.refl _ _, fun _ => Eq.refl _⟩
          · intro a w hT
            have hAp := hT.ag hA149 [] trivial (by kernel_rfl)
            have e244 : a.tmps.getD 58 undef = .int .i64 r_43 := hT.vals 2 rfl 58 rfl
            have hAp := hAp.add e244
            exact opk_val hAp rfl (r_quoI (hAp.get rfl) rfl (by decide) hS245) fun _ _ e => ⟨_, e, Chg.refl _ _, fun _ => Eq.refl _⟩
          · intro a w hT
            have hAp := hT.ag hA149 [] trivial (by kernel_rfl)
            have e247 : a.tmps.getD 59 undef = .int .i64 (r_43.tdiv 84) := hT.vals 3 rfl 59 rfl
            have hAp := hAp.add e247
            exact opk_val hAp rfl (r_rem (hAp.get rfl) rfl (by decide)) fun _ _ e => ⟨_, e, Chg.refl _ _, fun _ => Eq.refl _⟩
          · intro a w hT
            have hAp := hT.ag hA149 [(9, .int .i64 r_43)] ⟨rfl, trivial⟩ (by kernel_rfl)
            exact opk_val hAp rfl (r_move (hAp.get rfl)) fun _ _ e => ⟨_, e, Chg.refl _ _, fun _ => Eq.refl _⟩
          · intro a w hT
            have hAp := hT.ag hA149 [] trivial (by kernel_rfl)
            have e248 : a.tmps.getD 61 undef = .int .i64 r_43 := hT.vals 5 rfl 61 rfl
            have hAp := hAp.add e248
            exact opk_val hAp rfl (r_quoI (hAp.get rfl) rfl (by decide) hS249) fun _ _ e => ⟨_, e, Chg.refl _ _, fun _ => Eq.refl _⟩
          · intro a w hT
            have hAp := hT.ag hA149 [] trivial (by kernel_rfl)
            have e251 : a.tmps.getD 62 undef = .int .i64 (r_43.tdiv 84) := hT.vals 6 rfl 62 rfl
            have hAp := hAp.add e251
            exact opk_val hAp rfl (r_rem (hAp.get rfl) rfl (by decide)) fun _ _ e => ⟨_, e, Chg.refl _ _, fun _ => Eq.refl _⟩
          · intro a w hT
            have hAp := hT.ag hA149 [] trivial (by kernel_rfl)
            have e252 : a.tmps.getD 63 undef = .int .i64 ((r_43.tdiv 84).tmod 4) := hT.vals 7 rfl 63 rfl
            have hAp := hAp.add e252
            exact opk_val hAp rfl (r_addI (hAp.get rfl) rfl hS253) fun _ _ e => ⟨_, e, Chg.refl _ _, fun _ => Eq.refl _⟩
          · intro a w hT
            have hAp := hT.ag hA149 [] trivial (by kernel_rfl)
            have e255 : a.tmps.getD 60 undef = .int .i64 ((r_43.tdiv 84).tmod 4) := hT.vals 4 rfl 60 rfl
            have hAp := hAp.add e255
            have e256 : a.tmps.getD 64 undef = .int .i64 (((r_43.tdiv 84).tmod 4) + 1) := hT.vals 8 rfl 64 rfl
            have hAp := hAp.add e256
            exact opk_val hAp rfl (r_sslice2 rfl (hAp.get rfl) (hAp.get rfl) Try.underlying9 hS257) fun _ _ e => ⟨_, e, Chg.refl _ _, fun _ => Eq.refl _⟩
          · intro a w hT
            have hAp := hT.ag hA149 [] trivial (by kernel_rfl)
            have e259 : a.tmps.getD 65 undef = .string (Bs ((List.drop ((r_43.tdiv 84).tmod 4).toNat ([48, 49, 50, 51] : Str)).take ((((r_43.tdiv 84).tmod 4) + 1).toNat - ((r_43.tdiv 84).tmod 4).toNat))) := hT.vals 9 rfl 65 rfl
            have hAp := hAp.add e259
            exact opk_val hAp rfl (r_build (vs := #[(0, .string (Bs ([105, 100] : Str))), (1, .string (Bs ((List.drop ((r_43.tdiv 84).tmod 4).toNat ([48, 49, 50, 51] : Str)).take ((((r_43.tdiv 84).tmod 4) + 1).toNat - ((r_43.tdiv 84).tmod 4).toNat))))]) (cells := #[.string (Bs ([105, 100] : Str)), .string (Bs ((List.drop ((r_43.tdiv 84).tmod 4).toNat ([48, 49, 50, 51] : Str)).take ((((r_43.tdiv 84).tmod 4) + 1).toNat - ((r_43.tdiv 84).tmod 4).toNat)))]) (map_arr2 (ml2_cons rfl (ml2_cons (hAp.get rfl) (ml2_nil)))) ti_65 Try.underlying65 pl_65 (by kernel_rfl)) fun _ _ e => ⟨_, e, Chg.refl _ _, fun _ => Eq.refl _⟩
          · intro a w hT
            have hAp := hT.ag hA149 [] trivial (by kernel_rfl)
            have e260 : a.tmps.getD 66 undef = .agg #[.string (Bs ([105, 100] : Str)), .string (Bs ((List.drop ((r_43.tdiv 84).tmod 4).toNat ([48, 49, 50, 51] : Str)).take ((((r_43.tdiv 84).tmod 4) + 1).toNat - ((r_43.tdiv 84).tmod 4).toNat)))] := hT.vals 10 rfl 66 rfl
            have hAp := hAp.add e260
            exact opk_new (fun B => .slice (some ⟨B, 0, none⟩) 1 1) hAp rfl (r_buildSlice (vs := #[(0, .agg #[.string (Bs ([105, 100] : Str)), .string (Bs ((List.drop ((r_43.tdiv 84).tmod 4).toNat ([48, 49, 50, 51] : Str)).take ((((r_43.tdiv 84).tmod 4) + 1).toNat - ((r_43.tdiv 84).tmod 4).toNat)))])]) (cs := [.string (Bs ([105, 100] : Str)), .string (Bs ((List.drop ((r_43.tdiv 84).tmod 4).toNat ([48, 49, 50, 51] : Str)).take ((((r_43.tdiv 84).tmod 4) + 1).toNat - ((r_43.tdiv 84).tmod 4).toNat)))]) (map_arr2 (ml2_cons (hAp.get rfl) (ml2_nil))) Try.underlying26 ti_65 rfl rfl (by kernel_rfl)) fun _ w262 B_261 hE263 hN264 hB265 _ e => ⟨_, e, hE263, fun _ => ⟨B_261, Nat.le_trans hT.chg.size hN264.ge, hB265, rfl⟩⟩
          · intro a266 w267 hE268 hag269 hv270
            have hA266 := hag269 [(0, Sl.v l_1), (1, .pointer (some at_2)), (2, .pointer (some n_3)), (3, .int .i64 deep_4), (8, .pointer (some (⟨B_5, 0, none⟩ : Addr))), (9, .int .i64 r_43), (10, .pointer (some (⟨B_124, 0, none⟩ : Addr)))] ⟨rfl, rfl, rfl, rfl, rfl, rfl, rfl, trivial⟩ (by kernel_rfl)
            have e272 : a266.tmps.getD 57 undef = Sl.v Sl.nil := hv270 1 rfl 57 rfl
            have hA273 := hA266.add e272
            obtain ⟨B_261, hf276, hf277, e274⟩ := hv270 11 rfl 67 rfl
            have hA275 := hA273.add e274
            have hB278 := hB239.ext hE268
            have hB279 := hB240.ext hE268
            have hC280 : Chg [] w237 w267 := hE268
            have ht281 := ht258 w267 B_261 hE268 hf276 hf277
            have hne282 : B_5 ≠ B_261 := Nat.ne_of_lt (Nat.lt_of_lt_of_le hB239.lt hf276)
            have hne283 : B_124 ≠ B_261 := Nat.ne_of_lt (Nat.lt_of_lt_of_le hB240.lt hf276)
            have ht284 := ht281 hf277
            refine one (D := [[], [0], [], [2], [2, 3], [], [5], [5, 6], [5, 6, 7], [2, 3, 4, 5, 6, 7, 8], [2, 3, 4, 5, 6, 7, 8, 9], [2, 3, 4, 5, 6, 7, 8, 9, 10], [0, 1, 2, 3, 4, 5, 6, 7, 8, 9, 10, 11], [0, 1, 2, 3, 4, 5, 6, 7, 8, 9, 10, 11, 12], [0, 1, 2, 3, 4, 5, 6, 7, 8, 9, 10, 11, 12, 13]]) (i := 12) rfl (by kernel_rfl) (opk_run hA275 rfl (fun _ _ hr => r_append (hA275.get rfl) (hA275.get rfl) hr) ht284 fun a285 v291 w286 hA285 _ hn288 hz289 hK290 => ?_)
            obtain ⟨r_292, rfl, ht287⟩ := hK290
            have hB293 := hB278.kept hn288 (.head _)
            have hB294 := hB279.kept hn288 (.tail _ (.head _))
            refine par (D := [[], [0], [], [2], [2, 3], [], [5], [5, 6], [5, 6, 7], [2, 3, 4, 5, 6, 7, 8], [2, 3, 4, 5, 6, 7, 8, 9], [2, 3, 4, 5, 6, 7, 8, 9, 10], [0, 1, 2, 3, 4, 5, 6, 7, 8, 9, 10, 11], [0, 1, 2, 3, 4, 5, 6, 7, 8, 9, 10, 11, 12], [0, 1, 2, 3, 4, 5, 6, 7, 8, 9, 10, 11, 12, 13]]) (S := [13]) (F := []) (V := VL [(13, fun v _ => v = .pointer (some (⟨B_124, 3, none⟩ : Addr)))]) hA285 (by kernel_rfl) ⟨fun _ _ _ _ h => by first | exact h | (change _ = _ at h; change _ = _; exact h), trivial⟩ ⟨?_, trivial⟩ ?_
            · intro a w hT
              have hAp := hT.ag hA285 [(10, .pointer (some (⟨B_124, 0, none⟩ : Addr)))] ⟨rfl, trivial⟩ (by kernel_rfl)
              exact opk_val hAp rfl (r_fieldAddr (hAp.get rfl) Try.underlying29 rfl ti_26 (by decide)) fun _ _ e => ⟨_, e, Chg.refl _ _, fun _ => Eq.refl _⟩
            · intro a295 w296 hE297 hag298 hv299
              have hA295 := hag298 [(0, Sl.v l_1), (1, .pointer (some at_2)), (2, .pointer (some n_3)), (3, .int .i64 deep_4), (8, .pointer (some (⟨B_5, 0, none⟩ : Addr))), (9, .int .i64 r_43), (10, .pointer (some (⟨B_124, 0, none⟩ : Addr))), (68, Sl.v r_292)] ⟨rfl, rfl, rfl, rfl, rfl, rfl, rfl, rfl, trivial⟩ (by kernel_rfl)
              have e301 : a295.tmps.getD 69 undef = .pointer (some (⟨B_124, 3, none⟩ : Addr)) := hv299 13 rfl 69 rfl
              have hA302 := hA295.add e301
              have hB303 := hB293.ext hE297
              have hB304 := hB294.ext hE297
              have hC305 : Chg [] w286 w296 := hE297
              refine one (D := [[], [0], [], [2], [2, 3], [], [5], [5, 6], [5, 6, 7], [2, 3, 4, 5, 6, 7, 8], [2, 3, 4, 5, 6, 7, 8, 9], [2, 3, 4, 5, 6, 7, 8, 9, 10], [0, 1, 2, 3, 4, 5, 6, 7, 8, 9, 10, 11], [0, 1, 2, 3, 4, 5, 6, 7, 8, 9, 10, 11, 12], [0, 1, 2, 3, 4, 5, 6, 7, 8, 9, 10, 11, 12, 13]]) (i := 14) rfl (by kernel_rfl) (opk_store hA302 hB304 (r_store (vs := [Sl.v r_292]) (hA302.get rfl) (hA302.get rfl) rfl ti_26 hB304 rfl (ones_all [Sl.v r_292] rfl)) fun a307 w306 hS308 hB309 hA307 => ?_)
              have hB310 : Box w306 B_124 29 [.int .i64 2, .string (Bs (([([98] : Str), ([112] : Str), ([100, 105, 118] : Str), ([108, 105] : Str)] : List Str).getD ((r_43.tdiv 7).tmod 4).toNat [])), .string (Bs ([] : Str)), Sl.v r_292, Sl.v Sl.nil] := hB309
              have hB311 := hB303.keep hS308 (by simpa using hne130)
              have hC312 := hC305.storeOld hS308
              refine PR_end (by kernel_rfl) ?_
              have hA313 := hA307.keep [(0, Sl.v l_1), (1, .pointer (some at_2)), (2, .pointer (some n_3)), (3, .int .i64 deep_4), (8, .pointer (some (⟨B_5, 0, none⟩ : Addr))), (9, .int .i64 r_43), (10, .pointer (some (⟨B_124, 0, none⟩ : Addr)))] ⟨rfl, rfl, rfl, rfl, rfl, rfl, rfl, trivial⟩
              have ht314 := ht287 w306    hC312
              have hA315 := hA313.keep [(0, Sl.v l_1), (1, .pointer (some at_2)), (2, .pointer (some n_3)), (3, .int .i64 deep_4), (8, .pointer (some (⟨B_5, 0, none⟩ : Addr))), (9, .int .i64 r_43), (10, .pointer (some (⟨B_124, 0, none⟩ : Addr)))] ⟨rfl, rfl, rfl, rfl, rfl, rfl, rfl, trivial⟩
              exact then_normal ⟨r_292, hA315, hB311, hB310, ht314⟩
        · have ht236 := ht233.2 (of_decide_eq_false hc)
          clear hc
          refine wp_skip ?_
          have hA316 := hA149.keep [(0, Sl.v l_1), (1, .pointer (some at_2)), (2, .pointer (some n_3)), (3, .int .i64 deep_4), (8, .pointer (some (⟨B_5, 0, none⟩ : Addr))), (9, .int .i64 r_43), (10, .pointer (some (⟨B_124, 0, none⟩ : Addr)))] ⟨rfl, rfl, rfl, rfl, rfl, rfl, rfl, trivial⟩
          exact then_normal ⟨Sl.nil, hA316, hB139, hB138, ht236⟩
      · intro a317 w231 hm
        obtain ⟨c_230, hA317, hB318, hB319, hJ876⟩ := hm
        have ht320 := hr234 c_230 w231 hJ876
        refine then_normal ?_
        refine wp_seq ?_
        refine wp_seq ?_
        refine wp_region_lit ?_
        refine sq (opk_val hA317 rfl (r_move (hA317.get rfl)) fun a321 hA321 _ => ?_)
        obtain ⟨hS323, ht324⟩ := ht320
        refine sq (opk_val hA321 rfl (r_quoI (hA321.get rfl) rfl (by decide) hS323) fun a322 hA322 _ => ?_)
        refine sq (opk_val hA322 rfl (r_rem (hA322.get rfl) rfl (by decide)) fun a325 hA325 _ => ?_)
        refine sq (opk_val hA325 rfl (r_eql (hA325.get rfl) rfl) fun a326 hA326 _ => ?_)
        refine sq_end ?_
        have hA327 := hA326.keep [(0, Sl.v l_1), (1, .pointer (some at_2)), (2, .pointer (some n_3)), (3, .int .i64 deep_4), (8, .pointer (some (⟨B_5, 0, none⟩ : Addr))), (9, .int .i64 r_43), (10, .pointer (some (⟨B_124, 0, none⟩ : Addr))), (73, .bool (decide (((r_43.tdiv 28).tmod 5) = 0)))] ⟨rfl, rfl, rfl, rfl, rfl, rfl, rfl, rfl, trivial⟩
        refine then_normal ?_
        obtain ⟨J_401, ht402, hr403⟩ := ht324
        refine wp_meet (fun a w => ∃ c_399 : Sl, Ag 109 a [(0, Sl.v l_1), (1, .pointer (some at_2)), (2, .pointer (some n_3)), (3, .int .i64 deep_4), (8, .pointer (some (⟨B_5, 0, none⟩ : Addr))), (9, .int .i64 r_43), (10, .pointer (some (⟨B_124, 0, none⟩ : Addr)))] ∧ Box w B_5 29 [.int .i64 0, .string (Bs ([] : Str)), .string (Bs ([] : Str)), Sl.v Sl.nil, Sl.v Sl.nil] ∧ Box w B_124 29 [.int .i64 2, .string (Bs (([([98] : Str), ([112] : Str), ([100, 105, 118] : Str), ([108, 105] : Str)] : List Str).getD ((r_43.tdiv 7).tmod 4).toNat [])), .string (Bs ([] : Str)), Sl.v c_399, Sl.v Sl.nil] ∧ J_401 c_399 w) ?_ ?_
        · refine wp_cond_split (hA327.get rfl) (fun hc => ?_) (fun hc => ?_)
          · have ht404 := ht402.1 (of_decide_eq_true hc)
            clear hc
            refine draw' (by kernel_rfl) fun w406 hE407 => ?_
            have hB408 := hB318.ext hE407
            have hB409 := hB319.ext hE407
            have hC410 : Chg [] w231 w406 := hE407
            have ht411 := ht404 w406    hC410
            obtain ⟨hS414, ht415⟩ := ht411
            obtain ⟨hS418, ht419⟩ := ht415
            refine par (D := [[], [0], [], [2], [2, 3], [2, 3, 4], [2, 3, 4, 5], [2, 3, 4, 5, 6], [0, 1, 2, 3, 4, 5, 6, 7], [0, 1, 2, 3, 4, 5, 6, 7, 8], [0, 1, 2, 3, 4, 5, 6, 7, 8, 9]]) (S := [0, 1, 2, 3, 4, 5, 6, 7]) (F := []) (V := VL [(0, fun v _ => v = .pointer (some (⟨B_124, 3, none⟩ : Addr))), (1, fun v _ => v = Sl.v c_230), (2, fun v _ => v = .int .i64 r_43), (3, fun v _ => v = .int .i64 (r_43.tdiv 84)), (4, fun v _ => v = .int .i64 ((r_43.tdiv 84).tmod 3)), (5, fun v _ => v = .string (Bs (List.take ((r_43.tdiv 84).tmod 3).toNat ([117, 118] : Str)))), (6, fun v _ => v = .agg #[.string (Bs ([120] : Str)), .string (Bs (List.take ((r_43.tdiv 84).tmod 3).toNat ([117, 118] : Str)))]), (7, fun v w' => ∃ B_422 : Nat, w406.heap.size ≤ B_422 ∧ Box w' B_422 65 [.string (Bs ([120] : Str)), .string (Bs (List.take ((r_43.tdiv 84).tmod 3).toNat ([117, 118] : Str)))] ∧ v = Sl.v (Sl.mk (some ⟨B_422, 0, none⟩) 1 1))]) hA327 (by kernel_rfl) ⟨fun _ _ _ _ h => by first | exact h | (change _ = _ at h; change _ = _; exact h), fun _ _ _ _ h => by first | exact h | (change _ = _ at h; change _ = _; exact h), fun _ _ _ _ h => by first | exact h | (change _ = _ at h; change _ = _; exact h), fun _ _ _ _ h => by first | exact h | (change _ = _ at h; change _ = _; exact h), fun _ _ _ _ h => by first | exact h | (change _ = _ at h; change _ = _; exact h), fun _ _ _ _ h => by first | exact h | (change _ = _ at h; change _ = _; exact h), fun _ _ _ _ h => by first | exact h | (change _ = _ at h; change _ = _; exact h), fun _ _ _ hE ⟨B_422, h0_, h1_, e⟩ => ⟨B_422, h0_, (h1_.ext hE), e⟩, trivial⟩ ⟨?_, ?_, ?_, ?_, ?_, ?_, ?_, ?_, trivial⟩ ?_
            · intro a w hT
              have hAp := hT.ag hA327 [(10, .pointer (some (⟨B_124, 0, none⟩ : Addr)))] ⟨rfl, trivial⟩ (by kernel_rfl)
              exact opk_val hAp rfl (r_fieldAddr (hAp.get rfl) Try.underlying29 rfl ti_26 (by decide)) fun _ _ e => ⟨_, e, Chg.refl _ _, fun _ => Eq.refl _⟩
            · intro a w hT
              have hAp := hT.ag hA327 [] trivial (by kernel_rfl)
              have e412 : a.tmps.getD 74 undef = .pointer (some (⟨B_124, 3, none⟩ : Addr)) := hT.vals 0 rfl 74 rfl
              have hAp := hAp.add e412
              exact opk_val hAp rfl (r_load1 Try.underlying26 rfl (hAp.get rfl) ((hB409.ext hT.chg).cell 3 _ rfl)) fun _ _ e => ⟨_, e, Chg.refl _ _, fun _ => Eq.refl _⟩
            · intro a w hT
              have hAp := hT.ag hA327 [(9, .int .i64 r_43)] ⟨rfl, trivial⟩ (by kernel_rfl)
              exact opk_val hAp rfl (r_move (hAp.get rfl)) fun _ _ e => ⟨_, e, Chg.refl _ _, fun _ => Eq.refl _⟩
            · intro a w hT
              have hAp := hT.ag hA327 [] trivial (by kernel_rfl)
              have e413 : a.tmps.getD 76 undef = .int .i64 r_43 := hT.vals 2 rfl 76 rfl
              have hAp := hAp.add e413
              exact opk_val hAp rfl (r_quoI (hAp.get rfl) rfl (by decide) hS414) fun _ _ e => ⟨_, e, Chg.refl _ _, fun _ => Eq.refl _⟩
            · intro a w hT
              have hAp := hT.ag hA327 [] trivial (by kernel_rfl)
              have e416 : a.tmps.getD 77 undef = .int .i64 (r_43.tdiv 84) := hT.vals 3 rfl 77 rfl
              have hAp := hAp.add e416
              exact opk_val hAp rfl (r_rem (hAp.get rfl) rfl (by decide)) fun _ _ e => ⟨_, e, Chg.refl _ _, fun _ => Eq.refl _⟩
            · intro a w hT
              have hAp := hT.ag hA327 [] trivial (by kernel_rfl)
              have e417 : a.tmps.getD 78 undef = .int .i64 ((r_43.tdiv 84).tmod 3) := hT.vals 4 rfl 78 rfl
              have hAp := hAp.add e417
              exact opk_val hAp rfl (r_ssliceH rfl (hAp.get rfl) Try.underlying9 hS418) fun _ _ e => ⟨_, e, Chg.refl _ _, fun _ => Eq.refl _⟩
            · intro a w hT
              have hAp := hT.ag hA327 [] trivial (by kernel_rfl)
              have e420 : a.tmps.getD 79 undef = .string (Bs (List.take ((r_43.tdiv 84).tmod 3).toNat ([117, 118] : Str))) := hT.vals 5 rfl 79 rfl
              have hAp := hAp.add e420
              exact opk_val hAp rfl (r_build (vs := #[(0, .string (Bs ([120] : Str))), (1, .string (Bs (List.take ((r_43.tdiv 84).tmod 3).toNat ([117, 118] : Str))))]) (cells := #[.string (Bs ([120] : Str)), .string (Bs (List.take ((r_43.tdiv 84).tmod 3).toNat ([117, 118] : Str)))]) (map_arr2 (ml2_cons rfl (ml2_cons (hAp.get rfl) (ml2_nil)))) ti_65 Try.underlying65 pl_65 (by kernel_rfl)) fun _ _ e => ⟨_, e, Chg.refl _ _, fun _ => Eq.refl _⟩
            · intro a w hT
              have hAp := hT.ag hA327 [] trivial (by kernel_rfl)
              have e421 : a.tmps.getD 80 undef = .agg #[.string (Bs ([120] : Str)), .string (Bs (List.take ((r_43.tdiv 84).tmod 3).toNat ([117, 118] : Str)))] := hT.vals 6 rfl 80 rfl
              have hAp := hAp.add e421
              exact opk_new (fun B => .slice (some ⟨B, 0, none⟩) 1 1) hAp rfl (r_buildSlice (vs := #[(0, .agg #[.string (Bs ([120] : Str)), .string (Bs (List.take ((r_43.tdiv 84).tmod 3).toNat ([117, 118] : Str)))])]) (cs := [.string (Bs ([120] : Str)), .string (Bs (List.take ((r_43.tdiv 84).tmod 3).toNat ([117, 118] : Str)))]) (map_arr2 (ml2_cons (hAp.get rfl) (ml2_nil))) Try.underlying26 ti_65 rfl rfl (by kernel_rfl)) fun _ w423 B_422 hE424 hN425 hB426 _ e => ⟨_, e, hE424, fun _ => ⟨B_422, Nat.le_trans hT.chg.size hN425.ge, hB426, rfl⟩⟩
            · intro a427 w428 hE429 hag430 hv431
              have hA427 := hag430 [(0, Sl.v l_1), (1, .pointer (some at_2)), (2, .pointer (some n_3)), (3, .int .i64 deep_4), (8, .pointer (some (⟨B_5, 0, none⟩ : Addr))), (9, .int .i64 r_43), (10, .pointer (some (⟨B_124, 0, none⟩ : Addr)))] ⟨rfl, rfl, rfl, rfl, rfl, rfl, rfl, trivial⟩ (by kernel_rfl)
              have e433 : a427.tmps.getD 75 undef = Sl.v c_230 := hv431 1 rfl 75 rfl
              have hA434 := hA427.add e433
              obtain ⟨B_422, hf437, hf438, e435⟩ := hv431 7 rfl 81 rfl
              have hA436 := hA434.add e435
              have hB439 := hB408.ext hE429
              have hB440 := hB409.ext hE429
              have hC441 : Chg [] w406 w428 := hE429
              have ht442 := ht419 w428 B_422 hE429 hf437 hf438
              have hne443 : B_5 ≠ B_422 := Nat.ne_of_lt (Nat.lt_of_lt_of_le hB408.lt hf437)
              have hne444 : B_124 ≠ B_422 := Nat.ne_of_lt (Nat.lt_of_lt_of_le hB409.lt hf437)
              have ht445 := ht442 hf438
              refine one (D := [[], [0], [], [2], [2, 3], [2, 3, 4], [2, 3, 4, 5], [2, 3, 4, 5, 6], [0, 1, 2, 3, 4, 5, 6, 7], [0, 1, 2, 3, 4, 5, 6, 7, 8], [0, 1, 2, 3, 4, 5, 6, 7, 8, 9]]) (i := 8) rfl (by kernel_rfl) (opk_run hA436 rfl (fun _ _ hr => r_append (hA436.get rfl) (hA436.get rfl) hr) ht445 fun a446 v452 w447 hA446 _ hn449 hz450 hK451 => ?_)
              obtain ⟨r_453, rfl, ht448⟩ := hK451
              have hB454 := hB439.kept hn449 (.head _)
              have hB455 := hB440.kept hn449 (.tail _ (.head _))
              refine par (D := [[], [0], [], [2], [2, 3], [2, 3, 4], [2, 3, 4, 5], [2, 3, 4, 5, 6], [0, 1, 2, 3, 4, 5, 6, 7], [0, 1, 2, 3, 4, 5, 6, 7, 8], [0, 1, 2, 3, 4, 5, 6, 7, 8, 9]]) (S := [9]) (F := []) (V := VL [(9, fun v _ => v = .pointer (some (⟨B_124, 3, none⟩ : Addr)))]) hA446 (by kernel_rfl) ⟨fun _ _ _ _ h => by first | exact h | (change _ = _ at h; change _ = _; exact h), trivial⟩ ⟨?_, trivial⟩ ?_
              · intro a w hT
                have hAp := hT.ag hA446 [(10, .pointer (some (⟨B_124, 0, none⟩ : Addr)))] ⟨rfl, trivial⟩ (by kernel_rfl)
                exact opk_val hAp rfl (r_fieldAddr (hAp.get rfl) Try.underlying29 rfl ti_26 (by decide)) fun _ _ e => ⟨_, e, Chg.refl _ _, fun _ => Eq.refl _⟩
              · intro a456 w457 hE458 hag459 hv460
                have hA456 := hag459 [(0, Sl.v l_1), (1, .pointer (some at_2)), (2, .pointer (some n_3)), (3, .int .i64 deep_4), (8, .pointer (some (⟨B_5, 0, none⟩ : Addr))), (9, .int .i64 r_43), (10, .pointer (some (⟨B_124, 0, none⟩ : Addr))), (82, Sl.v r_453)] ⟨rfl, rfl, rfl, rfl, rfl, rfl, rfl, rfl, trivial⟩ (by kernel_rfl)
                have e462 : a456.tmps.getD 83 undef = .pointer (some (⟨B_124, 3, none⟩ : Addr)) := hv460 9 rfl 83 rfl
                have hA463 := hA456.add e462
                have hB464 := hB454.ext hE458
                have hB465 := hB455.ext hE458
                have hC466 : Chg [] w447 w457 := hE458
                refine one (D := [[], [0], [], [2], [2, 3], [2, 3, 4], [2, 3, 4, 5], [2, 3, 4, 5, 6], [0, 1, 2, 3, 4, 5, 6, 7], [0, 1, 2, 3, 4, 5, 6, 7, 8], [0, 1, 2, 3, 4, 5, 6, 7, 8, 9]]) (i := 10) rfl (by kernel_rfl) (opk_store hA463 hB465 (r_store (vs := [Sl.v r_453]) (hA463.get rfl) (hA463.get rfl) rfl ti_26 hB465 rfl (ones_all [Sl.v r_453] rfl)) fun a468 w467 hS469 hB470 hA468 => ?_)
                have hB471 : Box w467 B_124 29 [.int .i64 2, .string (Bs (([([98] : Str), ([112] : Str), ([100, 105, 118] : Str), ([108, 105] : Str)] : List Str).getD ((r_43.tdiv 7).tmod 4).toNat [])), .string (Bs ([] : Str)), Sl.v r_453, Sl.v Sl.nil] := hB470
                have hB472 := hB464.keep hS469 (by simpa using hne130)
                have hC473 := hC466.storeOld hS469
                refine PR_end (by kernel_rfl) ?_
                have hA474 := hA468.keep [(0, Sl.v l_1), (1, .pointer (some at_2)), (2, .pointer (some n_3)), (3, .int .i64 deep_4), (8, .pointer (some (⟨B_5, 0, none⟩ : Addr))), (9, .int .i64 r_43), (10, .pointer (some (⟨B_124, 0, none⟩ : Addr)))] ⟨rfl, rfl, rfl, rfl, rfl, rfl, rfl, trivial⟩
                have ht475 := ht448 w467    hC473
                have hA476 := hA474.keep [(0, Sl.v l_1), (1, .pointer (some at_2)), (2, .pointer (some n_3)), (3, .int .i64 deep_4), (8, .pointer (some (⟨B_5, 0, none⟩ : Addr))), (9, .int .i64 r_43), (10, .pointer (some (⟨B_124, 0, none⟩ : Addr)))] ⟨rfl, rfl, rfl, rfl, rfl, rfl, rfl, trivial⟩
                exact then_normal ⟨r_453, hA476, hB472, hB471, ht475⟩
          · have ht405 := ht402.2 (of_decide_eq_false hc)
            clear hc
            refine wp_skip ?_
            have hA477 := hA327.keep [(0, Sl.v l_1), (1, .pointer (some at_2)), (2, .pointer (some n_3)), (3, .int .i64 deep_4), (8, .pointer (some (⟨B_5, 0, none⟩ : Addr))), (9, .int .i64 r_43), (10, .pointer (some (⟨B_124, 0, none⟩ : Addr)))] ⟨rfl, rfl, rfl, rfl, rfl, rfl, rfl, trivial⟩
            exact then_normal ⟨c_230, hA477, hB318, hB319, ht405⟩
        · intro a478 w400 hm
          obtain ⟨c_399, hA478, hB479, hB480, hJ875⟩ := hm
          have ht481 := hr403 c_399 w400 hJ875
          refine then_normal ?_
          refine wp_seq ?_
          refine wp_seq ?_
          refine wp_region_lit ?_
          refine sq (opk_val hA478 rfl (r_move (hA478.get rfl)) fun a482 hA482 _ => ?_)
          obtain ⟨hS484, ht485⟩ := ht481
          refine sq (opk_val hA482 rfl (r_quoI (hA482.get rfl) rfl (by decide) hS484) fun a483 hA483 _ => ?_)
          refine sq (opk_val hA483 rfl (r_rem (hA483.get rfl) rfl (by decide)) fun a486 hA486 _ => ?_)
          refine sq (opk_val hA486 rfl (r_assign (hA486.get rfl)) fun a487 hA487 _ => ?_)
          refine sq_end ?_
          have hA488 := hA487.keep [(0, Sl.v l_1), (1, .pointer (some at_2)), (2, .pointer (some n_3)), (3, .int .i64 deep_4), (8, .pointer (some (⟨B_5, 0, none⟩ : Addr))), (10, .pointer (some (⟨B_124, 0, none⟩ : Addr))), (11, .int .i64 ((r_43.tdiv 512).tmod 4))] ⟨rfl, rfl, rfl, rfl, rfl, rfl, rfl, trivial⟩
          refine then_normal ?_
          refine wp_block ?_
          obtain ⟨J_616, mu_617, h0742, ht741⟩ := ht485
          refine wp_loop_st (σ := Int × Sl × World) (fun s a w => Ag 109 a [(0, Sl.v l_1), (1, .pointer (some at_2)), (2, .pointer (some n_3)), (3, .int .i64 deep_4), (8, .pointer (some (⟨B_5, 0, none⟩ : Addr))), (10, .pointer (some (⟨B_124, 0, none⟩ : Addr))), (11, .int .i64 s.1)] ∧ Box w B_5 29 [.int .i64 0, .string (Bs ([] : Str)), .string (Bs ([] : Str)), Sl.v Sl.nil, Sl.v Sl.nil] ∧ Box w B_124 29 [.int .i64 2, .string (Bs (([([98] : Str), ([112] : Str), ([100, 105, 118] : Str), ([108, 105] : Str)] : List Str).getD ((r_43.tdiv 7).tmod 4).toNat [])), .string (Bs ([] : Str)), Sl.v c_399, Sl.v s.2.1] ∧ w = s.2.2 ∧ J_616 s.1 s.2.1 s.2.2) (fun s => mu_617 s.1 s.2.1 s.2.2) ((r_43.tdiv 512).tmod 4, Sl.nil, w400) ⟨hA488.keep [(0, Sl.v l_1), (1, .pointer (some at_2)), (2, .pointer (some n_3)), (3, .int .i64 deep_4), (8, .pointer (some (⟨B_5, 0, none⟩ : Addr))), (10, .pointer (some (⟨B_124, 0, none⟩ : Addr))), (11, .int .i64 ((r_43.tdiv 512).tmod 4))] ⟨rfl, rfl, rfl, rfl, rfl, rfl, rfl, trivial⟩, hB479, hB480, rfl, h0742⟩ ?_
          rintro ⟨k_613, c_614, w615⟩ a738 w_ ⟨hA738, hB739, hB740, hw_, hJ744⟩
          have hw_ : w615 = w_ := hw_.symm
          subst hw_
          have ht743 := ht741 k_613 c_614 _ hJ744
          refine wp_seq ?_
          refine wp_seq ?_
          refine wp_region_lit ?_
          refine sq (opk_val hA738 rfl (r_move (hA738.get rfl)) fun a745 hA745 _ => ?_)
          refine sq (opk_val hA745 rfl (r_gtr (hA745.get rfl) rfl) fun a746 hA746 _ => ?_)
          refine sq (opk_val hA746 rfl (r_move (hA746.get rfl)) fun a747 hA747 _ => ?_)
          refine sq (opk_gval hA747 rfl rfl (g := true) (e := (decide (0 < k_613))) rfl (fun hg => r_move (hA747.get rfl)) fun a748 hA748 _ => ?_)
          refine sq (opk_gval hA748 rfl rfl (g := true) (e := (decide (0 < k_613))) rfl (fun hg => r_nilCheck (cv_get (hA748.get rfl) hg)) fun a749 hA749 _ => ?_)
          obtain ⟨x_751, hx752, ht753⟩ := ht743
          refine sq (opk_gval hA749 rfl rfl (g := true) (e := (decide (0 < k_613))) rfl (fun hg => r_load1 Try.underlying3 rfl (cv_get (hA749.get rfl) hg) (hx752 (of_decide_eq_true (g_t hg)))) fun a750 hA750 _ => ?_)
          refine sq (opk_gval hA750 rfl rfl (g := true) (e := (decide (0 < k_613))) rfl (fun hg => r_lss (cv_get (hA750.get rfl) hg) rfl) fun a754 hA754 _ => ?_)
          refine sq (opk_val hA754 rfl (r_pick_and (g := (true && ((decide (0 < k_613)) == true))) (hA754.get rfl) (hA754.get rfl) (fun he => g_mkt rfl he)) fun a755 hA755 _ => ?_)
          refine sq_end ?_
          have hA756 := hA755.keep [(0, Sl.v l_1), (1, .pointer (some at_2)), (2, .pointer (some n_3)), (3, .int .i64 deep_4), (8, .pointer (some (⟨B_5, 0, none⟩ : Addr))), (10, .pointer (some (⟨B_124, 0, none⟩ : Addr))), (11, .int .i64 k_613), (94, .bool ((decide (0 < k_613)) && (decide (x_751 < 40))))] ⟨rfl, rfl, rfl, rfl, rfl, rfl, rfl, rfl, trivial⟩
          refine then_normal ?_
          refine wp_cond_split (hA756.get rfl) (fun hc => ?_) (fun hc => ?_)
          · have ht757 := ht753.1 ⟨(of_decide_eq_true (b_and_t hc).1), (of_decide_eq_true (b_and_t hc).2)⟩
            clear hc
            refine wp_skip ?_
            refine then_normal ?_
            refine wp_seq ?_
            refine wp_block ?_
            refine draw' (by kernel_rfl) fun w759 hE760 => ?_
            have hB761 := hB739.ext hE760
            have hB762 := hB740.ext hE760
            have hC763 : Chg [] w615 w759 := hE760
            have ht764 := ht757 w759    hC763
            obtain ⟨hS765, ht766⟩ := ht764
            refine startF (D := [[], [0], [], [], [], [], [5], [2, 3, 4, 5, 6], [2, 3, 4, 5, 6, 7], [0, 1, 2, 3, 4, 5, 6, 7, 8], [0, 1, 2, 3, 4, 5, 6, 7, 8, 9], [0, 1, 2, 3, 4, 5, 6, 7, 8, 9, 10]]) (Fs := [0, 1, 2, 3, 4, 5, 6]) (Ef := [(0, fun v _ => v = .pointer (some (⟨B_124, 4, none⟩ : Addr))), (1, fun v _ => v = Sl.v c_614), (2, fun v _ => v = Sl.v l_1), (3, fun v _ => v = .pointer (some at_2)), (4, fun v _ => v = .pointer (some n_3)), (5, fun v _ => v = .int .i64 deep_4), (6, fun v _ => v = .int .i64 (deep_4 + 1))]) (by kernel_rfl) ?_
            refine oneF (c := 7) hA756 rfl (by kernel_rfl) (constF ⟨fun _ _ _ h => by first | exact h | (change _ = _ at h; change _ = _; exact h), fun _ _ _ h => by first | exact h | (change _ = _ at h; change _ = _; exact h), fun _ _ _ h => by first | exact h | (change _ = _ at h; change _ = _; exact h), fun _ _ _ h => by first | exact h | (change _ = _ at h; change _ = _; exact h), fun _ _ _ h => by first | exact h | (change _ = _ at h; change _ = _; exact h), fun _ _ _ h => by first | exact h | (change _ = _ at h; change _ = _; exact h), fun _ _ _ h => by first | exact h | (change _ = _ at h; change _ = _; exact h), trivial⟩) ⟨?_, ?_, ?_, ?_, ?_, ?_, ?_, trivial⟩ ?_
            · intro a hT
              have hAp := hT.ag hA756 [(10, .pointer (some (⟨B_124, 0, none⟩ : Addr)))] ⟨rfl, trivial⟩ (by kernel_rfl)
              exact opk_val hAp rfl (r_fieldAddr (hAp.get rfl) Try.underlying29 rfl ti_27 (by decide)) fun _ _ e => ⟨_, e, rfl, fun _ => Eq.refl _⟩
            · intro a hT
              have hAp := hT.ag hA756 [] trivial (by kernel_rfl)
              have e767 : a.tmps.getD 97 undef = .pointer (some (⟨B_124, 4, none⟩ : Addr)) := hT.vals 0 rfl 97 rfl
              have hAp := hAp.add e767
              exact opk_val hAp rfl (r_load1 Try.underlying27 rfl (hAp.get rfl) ((hB762.ext hT.chg).cell 4 _ rfl)) fun _ _ e => ⟨_, e, rfl, fun _ => Eq.refl _⟩
            · intro a hT
              have hAp := hT.ag hA756 [(0, Sl.v l_1)] ⟨rfl, trivial⟩ (by kernel_rfl)
              exact opk_val hAp rfl (r_move (hAp.get rfl)) fun _ _ e => ⟨_, e, rfl, fun _ => Eq.refl _⟩
            · intro a hT
              have hAp := hT.ag hA756 [(1, .pointer (some at_2))] ⟨rfl, trivial⟩ (by kernel_rfl)
              exact opk_val hAp rfl (r_move (hAp.get rfl)) fun _ _ e => ⟨_, e, rfl, fun _ => Eq.refl _⟩
            · intro a hT
              have hAp := hT.ag hA756 [(2, .pointer (some n_3))] ⟨rfl, trivial⟩ (by kernel_rfl)
              exact opk_val hAp rfl (r_move (hAp.get rfl)) fun _ _ e => ⟨_, e, rfl, fun _ => Eq.refl _⟩
            · intro a hT
              have hAp := hT.ag hA756 [(3, .int .i64 deep_4)] ⟨rfl, trivial⟩ (by kernel_rfl)
              exact opk_val hAp rfl (r_move (hAp.get rfl)) fun _ _ e => ⟨_, e, rfl, fun _ => Eq.refl _⟩
            · intro a hT
              have hAp := hT.ag hA756 [] trivial (by kernel_rfl)
              have e768 : a.tmps.getD 102 undef = .int .i64 deep_4 := hT.vals 5 rfl 102 rfl
              have hAp := hAp.add e768
              exact opk_val hAp rfl (r_addI (hAp.get rfl) rfl hS765) fun _ _ e => ⟨_, e, rfl, fun _ => Eq.refl _⟩
            · intro a769 hT
              have hA769 := hT.ag hA756 [(0, Sl.v l_1), (1, .pointer (some at_2)), (2, .pointer (some n_3)), (3, .int .i64 deep_4), (8, .pointer (some (⟨B_5, 0, none⟩ : Addr))), (10, .pointer (some (⟨B_124, 0, none⟩ : Addr))), (11, .int .i64 k_613), (94, .bool ((decide (0 < k_613)) && (decide (x_751 < 40))))] ⟨rfl, rfl, rfl, rfl, rfl, rfl, rfl, rfl, trivial⟩ (by kernel_rfl)
              have e770 : a769.tmps.getD 99 undef = Sl.v l_1 := hT.vals 2 rfl 99 rfl
              have hA771 := hA769.add e770
              have e772 : a769.tmps.getD 100 undef = .pointer (some at_2) := hT.vals 3 rfl 100 rfl
              have hA773 := hA771.add e772
              have e774 : a769.tmps.getD 101 undef = .pointer (some n_3) := hT.vals 4 rfl 101 rfl
              have hA775 := hA773.add e774
              have e776 : a769.tmps.getD 103 undef = .int .i64 (deep_4 + 1) := hT.vals 6 rfl 103 rfl
              have hA777 := hA775.add e776
              refine (opk_call hA777 rfl (r_call (args := #[Sl.v l_1, .pointer (some at_2), .pointer (some n_3), .int .i64 (deep_4 + 1)]) Try.func55 (by decide) rfl (map_arr (ml_cons (hA777.get rfl) (ml_cons (hA777.get rfl) (ml_cons (hA777.get rfl) (ml_cons (hA777.get rfl) ml_nil))))) rfl) ht766 fun a779 v785 w780 hA779 heq863 hn782 hz783 hK784 => ?_)
              refine ⟨_, heq863, ?_⟩
              obtain ⟨r_778_Kind, r_778_Name, r_778_Text, r_778_Attrs, r_778_Kids, rfl, ht781⟩ := hK784
              have hB786 := hB761.kept hn782 (.head _)
              have hB787 := hB762.kept hn782 (.tail _ (.head _))
              refine parF (D := [[], [0], [], [], [], [], [5], [2, 3, 4, 5, 6], [2, 3, 4, 5, 6, 7], [0, 1, 2, 3, 4, 5, 6, 7, 8], [0, 1, 2, 3, 4, 5, 6, 7, 8, 9], [0, 1, 2, 3, 4, 5, 6, 7, 8, 9, 10]]) (S := [8]) (F := []) (KE := [8]) (E := [(8, fun v w' => ∃ B_788 : Nat, w780.heap.size ≤ B_788 ∧ Box w' B_788 29 [.int .i64 r_778_Kind, .string (Bs r_778_Name), .string (Bs r_778_Text), Sl.v r_778_Attrs, Sl.v r_778_Kids] ∧ v = Sl.v (Sl.mk (some ⟨B_788, 0, none⟩) 1 1))]) hA779 rfl (by kernel_rfl) ⟨fun _ _ _ hE ⟨B_788, h0_, h1_, e⟩ => ⟨B_788, h0_, (h1_.ext hE), e⟩, fun _ _ _ _ h => by first | exact h | (change _ = _ at h; change _ = _; exact h), fun _ _ _ _ h => by first | exact h | (change _ = _ at h; change _ = _; exact h), fun _ _ _ _ h => by first | exact h | (change _ = _ at h; change _ = _; exact h), fun _ _ _ _ h => by first | exact h | (change _ = _ at h; change _ = _; exact h), fun _ _ _ _ h => by first | exact h | (change _ = _ at h; change _ = _; exact h), fun _ _ _ _ h => by first | exact h | (change _ = _ at h; change _ = _; exact h), fun _ _ _ _ h => by first | exact h | (change _ = _ at h; change _ = _; exact h), trivial⟩ ⟨?_, ?_, ?_, ?_, ?_, ?_, ?_, ?_, trivial⟩ ?_
              · intro a w hT
                have hAp := hT.ag hA779 [(104, .agg #[.int .i64 r_778_Kind, .string (Bs r_778_Name), .string (Bs r_778_Text), Sl.v r_778_Attrs, Sl.v r_778_Kids])] ⟨rfl, trivial⟩ (by kernel_rfl)
                exact opk_new (fun B => .slice (some ⟨B, 0, none⟩) 1 1) hAp rfl (r_buildSlice (vs := #[(0, .agg #[.int .i64 r_778_Kind, .string (Bs r_778_Name), .string (Bs r_778_Text), Sl.v r_778_Attrs, Sl.v r_778_Kids])]) (cs := [.int .i64 r_778_Kind, .string (Bs r_778_Name), .string (Bs r_778_Text), Sl.v r_778_Attrs, Sl.v r_778_Kids]) (map_arr2 (ml2_cons (hAp.get rfl) (ml2_nil))) Try.underlying27 ti_29 rfl rfl (by kernel_rfl)) fun _ w789 B_788 hE790 hN791 hB792 _ e => ⟨_, e, hE790, fun _ => ⟨B_788, Nat.le_trans hT.chg.size hN791.ge, hB792, rfl⟩⟩
              · intro a w hT
                have hAp := hT.ag hA779 [(10, .pointer (some (⟨B_124, 0, none⟩ : Addr)))] ⟨rfl, trivial⟩ (by kernel_rfl)
                exact opk_val hAp rfl (r_fieldAddr (hAp.get rfl) Try.underlying29 rfl ti_27 (by decide)) fun _ _ e => ⟨_, e, Chg.refl _ _, fun _ => Eq.refl _⟩
              · intro a w hT
                have hAp := hT.ag hA779 [] trivial (by kernel_rfl)
                have e793 : a.tmps.getD 97 undef = .pointer (some (⟨B_124, 4, none⟩ : Addr)) := hT.vals 0 rfl 97 rfl
                have hAp := hAp.add e793
                exact opk_val hAp rfl (r_load1 Try.underlying27 rfl (hAp.get rfl) ((hB787.ext hT.chg).cell 4 _ rfl)) fun _ _ e => ⟨_, e, Chg.refl _ _, fun _ => Eq.refl _⟩
              · intro a w hT
                have hAp := hT.ag hA779 [(0, Sl.v l_1)] ⟨rfl, trivial⟩ (by kernel_rfl)
                exact opk_val hAp rfl (r_move (hAp.get rfl)) fun _ _ e => ⟨_, e, Chg.refl _ _, fun _ => Eq.refl _⟩
              · intro a w hT
                have hAp := hT.ag hA779 [(1, .pointer (some at_2))] ⟨rfl, trivial⟩ (by kernel_rfl)
                exact opk_val hAp rfl (r_move (hAp.get rfl)) fun _ _ e => ⟨_, e, Chg.refl _ _, fun _ => Eq.refl _⟩
              · intro a w hT
                have hAp := hT.ag hA779 [(2, .pointer (some n_3))] ⟨rfl, trivial⟩ (by kernel_rfl)
                exact opk_val hAp rfl (r_move (hAp.get rfl)) fun _ _ e => ⟨_, e, Chg.refl _ _, fun _ => Eq.refl _⟩
              · intro a w hT
                have hAp := hT.ag hA779 [(3, .int .i64 deep_4)] ⟨rfl, trivial⟩ (by kernel_rfl)
                exact opk_val hAp rfl (r_move (hAp.get rfl)) fun _ _ e => ⟨_, e, Chg.refl _ _, fun _ => Eq.refl _⟩
              · intro a w hT
                have hAp := hT.ag hA779 [] trivial (by kernel_rfl)
                have e794 : a.tmps.getD 102 undef = .int .i64 deep_4 := hT.vals 5 rfl 102 rfl
                have hAp := hAp.add e794
                exact opk_val hAp rfl (r_addI (hAp.get rfl) rfl hS765) fun _ _ e => ⟨_, e, Chg.refl _ _, fun _ => Eq.refl _⟩
              · intro a795 w796 hE797 hag798 hv799
                have hA795 := hag798 [(0, Sl.v l_1), (1, .pointer (some at_2)), (2, .pointer (some n_3)), (3, .int .i64 deep_4), (8, .pointer (some (⟨B_5, 0, none⟩ : Addr))), (10, .pointer (some (⟨B_124, 0, none⟩ : Addr))), (11, .int .i64 k_613)] ⟨rfl, rfl, rfl, rfl, rfl, rfl, rfl, trivial⟩ (by kernel_rfl)
                obtain ⟨B_788, hf803, hf804, e801⟩ := hv799 8 rfl 105 rfl
                have hA802 := hA795.add e801
                have hB805 := hB786.ext hE797
                have hB806 := hB787.ext hE797
                have hC807 : Chg [] w780 w796 := hE797
                have ht808 := ht781 w796 B_788 hE797 hf803 hf804
                have hne809 : B_5 ≠ B_788 := Nat.ne_of_lt (Nat.lt_of_lt_of_le hB786.lt hf803)
                have hne810 : B_124 ≠ B_788 := Nat.ne_of_lt (Nat.lt_of_lt_of_le hB787.lt hf803)
                refine joinF hA802 (by kernel_rfl) ⟨fun _ _ _ _ h => by first | exact h | (change _ = _ at h; change _ = _; exact h), fun _ _ _ _ h => by first | exact h | (change _ = _ at h; change _ = _; exact h), fun _ _ _ _ h => by first | exact h | (change _ = _ at h; change _ = _; exact h), fun _ _ _ _ h => by first | exact h | (change _ = _ at h; change _ = _; exact h), fun _ _ _ _ h => by first | exact h | (change _ = _ at h; change _ = _; exact h), fun _ _ _ _ h => by first | exact h | (change _ = _ at h; change _ = _; exact h), fun _ _ _ _ h => by first | exact h | (change _ = _ at h; change _ = _; exact h), trivial⟩ ⟨?_, ?_, ?_, ?_, ?_, ?_, ?_, trivial⟩ ?_
                · intro a w hT
                  have hAp := hT.ag hA802 [(10, .pointer (some (⟨B_124, 0, none⟩ : Addr)))] ⟨rfl, trivial⟩ (by kernel_rfl)
                  exact opk_val hAp rfl (r_fieldAddr (hAp.get rfl) Try.underlying29 rfl ti_27 (by decide)) fun _ _ e => ⟨_, e, Chg.refl _ _, fun _ => Eq.refl _⟩
                · intro a w hT
                  have hAp := hT.ag hA802 [] trivial (by kernel_rfl)
                  have e811 : a.tmps.getD 97 undef = .pointer (some (⟨B_124, 4, none⟩ : Addr)) := hT.vals 0 rfl 97 rfl
                  have hAp := hAp.add e811
                  exact opk_val hAp rfl (r_load1 Try.underlying27 rfl (hAp.get rfl) ((hB806.ext hT.chg).cell 4 _ rfl)) fun _ _ e => ⟨_, e, Chg.refl _ _, fun _ => Eq.refl _⟩
                · intro a w hT
                  have hAp := hT.ag hA802 [(0, Sl.v l_1)] ⟨rfl, trivial⟩ (by kernel_rfl)
                  exact opk_val hAp rfl (r_move (hAp.get rfl)) fun _ _ e => ⟨_, e, Chg.refl _ _, fun _ => Eq.refl _⟩
                · intro a w hT
                  have hAp := hT.ag hA802 [(1, .pointer (some at_2))] ⟨rfl, trivial⟩ (by kernel_rfl)
                  exact opk_val hAp rfl (r_move (hAp.get rfl)) fun _ _ e => ⟨_, e, Chg.refl _ _, fun _ => Eq.refl _⟩
                · intro a w hT
                  have hAp := hT.ag hA802 [(2, .pointer (some n_3))] ⟨rfl, trivial⟩ (by kernel_rfl)
                  exact opk_val hAp rfl (r_move (hAp.get rfl)) fun _ _ e => ⟨_, e, Chg.refl _ _, fun _ => Eq.refl _⟩
                · intro a w hT
                  have hAp := hT.ag hA802 [(3, .int .i64 deep_4)] ⟨rfl, trivial⟩ (by kernel_rfl)
                  exact opk_val hAp rfl (r_move (hAp.get rfl)) fun _ _ e => ⟨_, e, Chg.refl _ _, fun _ => Eq.refl _⟩
                · intro a w hT
                  have hAp := hT.ag hA802 [] trivial (by kernel_rfl)
                  have e812 : a.tmps.getD 102 undef = .int .i64 deep_4 := hT.vals 5 rfl 102 rfl
                  have hAp := hAp.add e812
                  exact opk_val hAp rfl (r_addI (hAp.get rfl) rfl hS765) fun _ _ e => ⟨_, e, Chg.refl _ _, fun _ => Eq.refl _⟩
                · intro a813 w814 hE815 hag816 hv817
                  have hA813 := hag816 [(0, Sl.v l_1), (1, .pointer (some at_2)), (2, .pointer (some n_3)), (3, .int .i64 deep_4), (8, .pointer (some (⟨B_5, 0, none⟩ : Addr))), (10, .pointer (some (⟨B_124, 0, none⟩ : Addr))), (11, .int .i64 k_613), (105, Sl.v (Sl.mk (some ⟨B_788, 0, none⟩) 1 1))] ⟨rfl, rfl, rfl, rfl, rfl, rfl, rfl, rfl, trivial⟩ (by kernel_rfl)
                  have e818 : a813.tmps.getD 98 undef = Sl.v c_614 := hv817 1 rfl 98 rfl
                  have hA819 := hA813.add e818
                  have hB820 := hB805.ext hE815
                  have hB821 := hB806.ext hE815
                  have hB822 := hf804.ext hE815
                  have hC823 : Chg [] w796 w814 := hE815
                  have ht824 := ht808 w814    hC823
                  have ht825 := ht824 hB822
                  refine one (D := [[], [0], [], [], [], [], [5], [2, 3, 4, 5, 6], [2, 3, 4, 5, 6, 7], [0, 1, 2, 3, 4, 5, 6, 7, 8], [0, 1, 2, 3, 4, 5, 6, 7, 8, 9], [0, 1, 2, 3, 4, 5, 6, 7, 8, 9, 10]]) (i := 9) rfl (by kernel_rfl) (opk_run hA819 rfl (fun _ _ hr => r_append (hA819.get rfl) (hA819.get rfl) hr) ht825 fun a826 v832 w827 hA826 _ hn829 hz830 hK831 => ?_)
                  obtain ⟨r_833, rfl, ht828⟩ := hK831
                  have hB834 := hB820.kept hn829 (.head _)
                  have hB835 := hB821.kept hn829 (.tail _ (.head _))
                  refine par (D := [[], [0], [], [], [], [], [5], [2, 3, 4, 5, 6], [2, 3, 4, 5, 6, 7], [0, 1, 2, 3, 4, 5, 6, 7, 8], [0, 1, 2, 3, 4, 5, 6, 7, 8, 9], [0, 1, 2, 3, 4, 5, 6, 7, 8, 9, 10]]) (S := [10]) (F := []) (V := VL [(10, fun v _ => v = .pointer (some (⟨B_124, 4, none⟩ : Addr)))]) hA826 (by kernel_rfl) ⟨fun _ _ _ _ h => by first | exact h | (change _ = _ at h; change _ = _; exact h), trivial⟩ ⟨?_, trivial⟩ ?_
                  · intro a w hT
                    have hAp := hT.ag hA826 [(10, .pointer (some (⟨B_124, 0, none⟩ : Addr)))] ⟨rfl, trivial⟩ (by kernel_rfl)
                    exact opk_val hAp rfl (r_fieldAddr (hAp.get rfl) Try.underlying29 rfl ti_27 (by decide)) fun _ _ e => ⟨_, e, Chg.refl _ _, fun _ => Eq.refl _⟩
                  · intro a836 w837 hE838 hag839 hv840
                    have hA836 := hag839 [(0, Sl.v l_1), (1, .pointer (some at_2)), (2, .pointer (some n_3)), (3, .int .i64 deep_4), (8, .pointer (some (⟨B_5, 0, none⟩ : Addr))), (10, .pointer (some (⟨B_124, 0, none⟩ : Addr))), (11, .int .i64 k_613), (106, Sl.v r_833)] ⟨rfl, rfl, rfl, rfl, rfl, rfl, rfl, rfl, trivial⟩ (by kernel_rfl)
                    have e842 : a836.tmps.getD 107 undef = .pointer (some (⟨B_124, 4, none⟩ : Addr)) := hv840 10 rfl 107 rfl
                    have hA843 := hA836.add e842
                    have hB844 := hB834.ext hE838
                    have hB845 := hB835.ext hE838
                    have hC846 : Chg [] w827 w837 := hE838
                    refine one (D := [[], [0], [], [], [], [], [5], [2, 3, 4, 5, 6], [2, 3, 4, 5, 6, 7], [0, 1, 2, 3, 4, 5, 6, 7, 8], [0, 1, 2, 3, 4, 5, 6, 7, 8, 9], [0, 1, 2, 3, 4, 5, 6, 7, 8, 9, 10]]) (i := 11) rfl (by kernel_rfl) (opk_store hA843 hB845 (r_store (vs := [Sl.v r_833]) (hA843.get rfl) (hA843.get rfl) rfl ti_27 hB845 rfl (ones_all [Sl.v r_833] rfl)) fun a848 w847 hS849 hB850 hA848 => ?_)
                    have hB851 : Box w847 B_124 29 [.int .i64 2, .string (Bs (([([98] : Str), ([112] : Str), ([100, 105, 118] : Str), ([108, 105] : Str)] : List Str).getD ((r_43.tdiv 7).tmod 4).toNat [])), .string (Bs ([] : Str)), Sl.v c_399, Sl.v r_833] := hB850
                    have hB852 := hB844.keep hS849 (by simpa using hne130)
                    have hC853 := hC846.storeOld hS849
                    refine PR_end (by kernel_rfl) ?_
                    have hA854 := hA848.keep [(0, Sl.v l_1), (1, .pointer (some at_2)), (2, .pointer (some n_3)), (3, .int .i64 deep_4), (8, .pointer (some (⟨B_5, 0, none⟩ : Addr))), (10, .pointer (some (⟨B_124, 0, none⟩ : Addr))), (11, .int .i64 k_613)] ⟨rfl, rfl, rfl, rfl, rfl, rfl, rfl, trivial⟩
                    refine block_normal ?_
                    refine then_normal ?_
                    refine wp_region_lit ?_
                    refine sq (opk_val hA854 rfl (r_move (hA854.get rfl)) fun a855 hA855 _ => ?_)
                    obtain ⟨hS857, ht858⟩ := ht828
                    refine sq (opk_val hA855 rfl (r_subI (hA855.get rfl) rfl hS857) fun a856 hA856 _ => ?_)
                    refine sq (opk_val hA856 rfl (r_assign (hA856.get rfl)) fun a859 hA859 _ => ?_)
                    refine sq_end ?_
                    have hA860 := hA859.keep [(0, Sl.v l_1), (1, .pointer (some at_2)), (2, .pointer (some n_3)), (3, .int .i64 deep_4), (8, .pointer (some (⟨B_5, 0, none⟩ : Addr))), (10, .pointer (some (⟨B_124, 0, none⟩ : Addr))), (11, .int .i64 (k_613 - 1))] ⟨rfl, rfl, rfl, rfl, rfl, rfl, rfl, trivial⟩
                    have ht861 := ht858 w847    hC853
                    have hA862 := hA860.keep [(0, Sl.v l_1), (1, .pointer (some at_2)), (2, .pointer (some n_3)), (3, .int .i64 deep_4), (8, .pointer (some (⟨B_5, 0, none⟩ : Addr))), (10, .pointer (some (⟨B_124, 0, none⟩ : Addr))), (11, .int .i64 (k_613 - 1))] ⟨rfl, rfl, rfl, rfl, rfl, rfl, rfl, trivial⟩
                    exact then_normal ⟨(k_613 - 1, r_833, w847), ⟨hA862, hB852, hB851, rfl, ht861.1⟩, ht861.2⟩
          · have ht758 := ht753.2 ((b_and_f hc).imp (fun h => (of_decide_eq_false h)) (fun h => (of_decide_eq_false h)))
            clear hc
            refine wp_exit ?_
            refine then_exit ?_
            refine then_exit ?_
            refine block_hit ?_
            have hA864 := hA756.keep [(8, .pointer (some (⟨B_5, 0, none⟩ : Addr))), (10, .pointer (some (⟨B_124, 0, none⟩ : Addr)))] ⟨rfl, rfl, trivial⟩
            refine then_normal ?_
            refine wp_seq ?_
            refine wp_region_lit ?_
            refine sq (opk_val hA864 rfl (r_loadN (cs := [.int .i64 2, .string (Bs (([([98] : Str), ([112] : Str), ([100, 105, 118] : Str), ([108, 105] : Str)] : List Str).getD ((r_43.tdiv 7).tmod 4).toNat [])), .string (Bs ([] : Str)), Sl.v c_399, Sl.v c_614]) Try.underlying29 rfl ti_29 (hA864.get rfl) (hB740.part 0 _ rfl)) fun a865 hA865 _ => ?_)
            refine sq (opk_store hA865 hB739 (r_store (vs := [.int .i64 2, .string (Bs (([([98] : Str), ([112] : Str), ([100, 105, 118] : Str), ([108, 105] : Str)] : List Str).getD ((r_43.tdiv 7).tmod 4).toNat [])), .string (Bs ([] : Str)), Sl.v c_399, Sl.v c_614]) (hA865.get rfl) (hA865.get rfl) rfl ti_29 hB739 rfl (ones_all [.int .i64 2, .string (Bs (([([98] : Str), ([112] : Str), ([100, 105, 118] : Str), ([108, 105] : Str)] : List Str).getD ((r_43.tdiv 7).tmod 4).toNat [])), .string (Bs ([] : Str)), Sl.v c_399, Sl.v c_614] rfl)) fun a867 w866 hS868 hB869 hA867 => ?_)
            have hB870 : Box w866 B_5 29 [.int .i64 2, .string (Bs (([([98] : Str), ([112] : Str), ([100, 105, 118] : Str), ([108, 105] : Str)] : List Str).getD ((r_43.tdiv 7).tmod 4).toNat [])), .string (Bs ([] : Str)), Sl.v c_399, Sl.v c_614] := hB869
            have hB871 := hB740.keep hS868 (by simpa using hne130.symm)
            have hC872 : Chg [B_5] w615 w866 := hS868
            refine sq_end ?_
            have hA873 := hA867.keep [(8, .pointer (some (⟨B_5, 0, none⟩ : Addr)))] ⟨rfl, trivial⟩
            refine then_normal ?_
            refine wp_ret ?_
            have ht874 := ht758 w866    hC872
            exact res_all (vs := [.agg #[.int .i64 2, .string (Bs (([([98] : Str), ([112] : Str), ([100, 105, 118] : Str), ([108, 105] : Str)] : List Str).getD ((r_43.tdiv 7).tmod 4).toNat [])), .string (Bs ([] : Str)), Sl.v c_399, Sl.v c_614]]) rfl hA873 ⟨res_of_cell hA873 rfl hB870 Try.underlying29 rfl ti_29, trivial⟩ ht874

end Go.Proofs.Ytghmgfkdnolcdaa
