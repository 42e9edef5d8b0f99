/-
  PRINTED BY PROGRAM: for each function its condition (vc), and that this suffices (ok).
-/
import Derived.Test.YteohbfaechfliaaGT
namespace Go.Proofs.Yteohbfaechfliaa
open Go.RowKit
set_option linter.unusedVariables false

/-- The condition of topiary/slots.changed. -/
def slots_changed.vc (a_1_Kind : Int) (a_1_Name : Str) (a_1_Text : Str) (a_1_Attrs : Sl) (a_1_Kids : Sl) (b_2_Kind : Int) (b_2_Name : Str) (b_2_Text : Str) (b_2_Attrs : Sl) (b_2_Kids : Sl) (R : Value → World → Prop) (w : World) : Prop :=
∀ (w60 : World) (B_3 : Nat) (B_11 : Nat) (B_22 : Nat) (B_43 : Nat), New w B_3 w60 → New w B_11 w60 → New w B_22 w60 → New w B_43 w60 → B_3 ≠ B_11 → B_3 ≠ B_22 → B_3 ≠ B_43 → B_11 ≠ B_22 → B_11 ≠ B_43 → B_22 ≠ B_43 → Chg [] w w60 →
∃ (J_225 : Int → Sl → World → Prop) (mu_226 : Int → Sl → World → Nat),
J_225 0 Sl.nil w60 ∧
(∀ (x_222 : Int) (c_223 : Sl) (w224 : World), J_225 x_222 c_223 w224 →
((x_222 < (b_2_Attrs.n : Int)) →
((0 : Int) ≤ x_222 ∧ x_222 < (b_2_Attrs.n : Int)) ∧ ∃ p_380 : Addr, b_2_Attrs.a = some p_380 ∧
∃ (x_386_Name : Str) (x_386_Value : Str), (Cells w224 (p_380.add (x_222.toNat * 2)) [.string (Bs x_386_Name), .string (Bs x_386_Value)]) ∧
∀ (w405 : World) (B_389 : Nat), New w224 B_389 w405 → Chg [] w224 w405 →
CallK Try.prog 65 #[.agg #[.int .i64 a_1_Kind, .string (Bs a_1_Name), .string (Bs a_1_Text), Sl.v a_1_Attrs, Sl.v a_1_Kids], .string (Bs x_386_Name)] w405 [B_3, B_11, B_22, B_43, B_389] (fun v w424 => ∃ (r_0_421 : Str) (r_1_422 : Bool), v = .tuple #[.string (Bs r_0_421), .bool r_1_422] ∧
(((r_1_422 = false) ∨ (r_0_421 ≠ x_386_Value)) →
∀ (w456 : World) (B_455 : Nat), New w424 B_455 w456 → Chg [] w424 w456 →
∀ (_ : Box w456 B_455 47 [.string (Bs x_386_Name), .string (Bs x_386_Value)]),
RunK Try.prog (Builtin.append_ #[23, 23] 23 #[Sl.v c_223, Sl.v (Sl.mk (some ⟨B_455, 0, none⟩) 1 1)]) w456 [B_3, B_11, B_22, B_43, B_389] (fun v w476 => ∃ (r_482 : Sl), v = Sl.v r_482 ∧
(I64 (x_222 + 1)) ∧
∀ (w489 : World), Chg [B_43] w476 w489 →
J_225 (x_222 + 1) r_482 w489 ∧ mu_226 (x_222 + 1) r_482 w489 < mu_226 x_222 c_223 w224)) ∧
(((r_1_422 = true) ∧ (¬ (r_0_421 ≠ x_386_Value))) →
(I64 (x_222 + 1)) ∧
J_225 (x_222 + 1) c_223 w424 ∧ mu_226 (x_222 + 1) c_223 w424 < mu_226 x_222 c_223 w224))) ∧
((¬ (x_222 < (b_2_Attrs.n : Int))) →
∃ (J_651 : Int → Sl → World → Prop) (mu_652 : Int → Sl → World → Nat),
J_651 0 Sl.nil w224 ∧
(∀ (x_648 : Int) (c_649 : Sl) (w650 : World), J_651 x_648 c_649 w650 →
((x_648 < (a_1_Attrs.n : Int)) →
((0 : Int) ≤ x_648 ∧ x_648 < (a_1_Attrs.n : Int)) ∧ ∃ p_790 : Addr, a_1_Attrs.a = some p_790 ∧
∃ (x_796_Name : Str) (x_796_Value : Str), (Cells w650 (p_790.add (x_648.toNat * 2)) [.string (Bs x_796_Name), .string (Bs x_796_Value)]) ∧
∀ (w813 : World) (B_799 : Nat), New w650 B_799 w813 → Chg [] w650 w813 →
CallK Try.prog 65 #[.agg #[.int .i64 b_2_Kind, .string (Bs b_2_Name), .string (Bs b_2_Text), Sl.v b_2_Attrs, Sl.v b_2_Kids], .string (Bs x_796_Name)] w813 [B_11, B_22, B_43, B_799] (fun v w831 => ∃ (r_0_828 : Str) (r_1_829 : Bool), v = .tuple #[.string (Bs r_0_828), .bool r_1_829] ∧
((r_1_829 = false) →
∀ (w857 : World) (B_856 : Nat), New w831 B_856 w857 → Chg [] w831 w857 →
∀ (_ : Box w857 B_856 9 [.string (Bs x_796_Name)]),
RunK Try.prog (Builtin.append_ #[41, 41] 41 #[Sl.v c_649, Sl.v (Sl.mk (some ⟨B_856, 0, none⟩) 1 1)]) w857 [B_11, B_22, B_43, B_799] (fun v w875 => ∃ (r_881 : Sl), v = Sl.v r_881 ∧
(I64 (x_648 + 1)) ∧
∀ (w887 : World), Chg [B_43] w875 w887 →
J_651 (x_648 + 1) r_881 w887 ∧ mu_652 (x_648 + 1) r_881 w887 < mu_652 x_648 c_649 w650)) ∧
((r_1_829 = true) →
(I64 (x_648 + 1)) ∧
J_651 (x_648 + 1) c_649 w831 ∧ mu_652 (x_648 + 1) c_649 w831 < mu_652 x_648 c_649 w650))) ∧
((¬ (x_648 < (a_1_Attrs.n : Int))) →
∀ (w912 : World), Chg [B_22] w650 w912 →
R (.agg #[.bool false, .bool (decide (a_1_Text ≠ b_2_Text)), Sl.v c_223, Sl.v c_649, .int .i64 0, Sl.v Sl.nil]) w912))))
set_option maxHeartbeats 1000000 in
set_option maxRecDepth 10000 in
theorem slots_changed.ok (a_1_Kind : Int) (a_1_Name : Str) (a_1_Text : Str) (a_1_Attrs : Sl) (a_1_Kids : Sl) (b_2_Kind : Int) (b_2_Name : Str) (b_2_Text : Str) (b_2_Attrs : Sl) (b_2_Kids : Sl) {R : Value → World → Prop} {w : World} (ht0 : slots_changed.vc a_1_Kind a_1_Name a_1_Text a_1_Attrs a_1_Kids b_2_Kind b_2_Name b_2_Text b_2_Attrs b_2_Kids R w) : Calls Try.prog 39 #[.agg #[.int .i64 a_1_Kind, .string (Bs a_1_Name), .string (Bs a_1_Text), Sl.v a_1_Attrs, Sl.v a_1_Kids], .agg #[.int .i64 b_2_Kind, .string (Bs b_2_Name), .string (Bs b_2_Text), Sl.v b_2_Attrs, Sl.v b_2_Kids]] w (Ret R) := by
  refine enter [.agg #[.int .i64 a_1_Kind, .string (Bs a_1_Name), .string (Bs a_1_Text), Sl.v a_1_Attrs, Sl.v a_1_Kids], .agg #[.int .i64 b_2_Kind, .string (Bs b_2_Name), .string (Bs b_2_Text), Sl.v b_2_Attrs, Sl.v b_2_Kids]] Try.func39 rfl Try.ntmps39 rfl ?_
  intro a0 hA0
  unfold slots_changed.vc at ht0
  refine wp_seq ?_
  refine wp_region_lit ?_
  refine sq (opk_new (fun B => .pointer (some ⟨B, 0, none⟩)) hA0 rfl (r_box (cs := [.int .i64 a_1_Kind, .string (Bs a_1_Name), .string (Bs a_1_Text), Sl.v a_1_Attrs, Sl.v a_1_Kids]) (hA0.get rfl) rfl) fun a5 w4 B_3 hE6 hN7 hB8 hA5 _ => ?_)
  have hN9 : New w B_3 w4 := hN7
  have hC10 : Chg [] w w4 := hE6
  refine sq (opk_new (fun B => .pointer (some ⟨B, 0, none⟩)) hA5 rfl (r_box (cs := [.int .i64 b_2_Kind, .string (Bs b_2_Name), .string (Bs b_2_Text), Sl.v b_2_Attrs, Sl.v b_2_Kids]) (hA5.get rfl) rfl) fun a13 w12 B_11 hE14 hN15 hB16 hA13 _ => ?_)
  have hne17 : B_3 ≠ B_11 := Nat.ne_of_lt (Nat.lt_of_lt_of_le hB8.lt hN15.ge)
  have hN18 := New.of hC10 hN15
  have hB19 := hB8.ext hE14
  have hC20 := hC10.more hE14
  have hN21 := hN9.up hE14.size
  refine sq (opk_new (fun B => .pointer (some ⟨B, 0, none⟩)) hA13 rfl (r_alloc (cs := [.bool false, .bool false, Sl.v Sl.nil, Sl.v Sl.nil, .int .i64 0, Sl.v Sl.nil]) ti_43 rfl) fun a24 w23 B_22 hE25 hN26 hB27 hA24 _ => ?_)
  have hne28 : B_3 ≠ B_22 := Nat.ne_of_lt (Nat.lt_of_lt_of_le hB19.lt hN26.ge)
  have hne29 : B_11 ≠ B_22 := Nat.ne_of_lt (Nat.lt_of_lt_of_le hB16.lt hN26.ge)
  have hN30 := New.of hC20 hN26
  have hB31 := hB19.ext hE25
  have hB32 := hB16.ext hE25
  have hC33 := hC20.more hE25
  have hN34 := hN21.up hE25.size
  have hN35 := hN18.up hE25.size
  refine sq_end ?_
  have hA36 := hA24.keep [(2, .pointer (some (⟨B_3, 0, none⟩ : Addr))), (3, .pointer (some (⟨B_11, 0, none⟩ : Addr))), (4, .pointer (some (⟨B_22, 0, none⟩ : Addr)))] ⟨rfl, rfl, rfl, trivial⟩
  refine then_normal ?_
  refine wp_seq ?_
  refine wp_region_lit ?_
  refine sq (opk_val hA36 rfl (r_fieldAddr (hA36.get rfl) Try.underlying26 rfl ti_9 (by decide)) fun a37 hA37 _ => ?_)
  refine sq (opk_val hA37 rfl (r_load1 Try.underlying9 rfl (hA37.get rfl) (hB31.cell 2 _ rfl)) fun a38 hA38 _ => ?_)
  refine sq (opk_val hA38 rfl (r_fieldAddr (hA38.get rfl) Try.underlying26 rfl ti_9 (by decide)) fun a39 hA39 _ => ?_)
  refine sq (opk_val hA39 rfl (r_load1 Try.underlying9 rfl (hA39.get rfl) (hB32.cell 2 _ rfl)) fun a40 hA40 _ => ?_)
  refine sq (opk_val hA40 rfl (r_sneq (hA40.get rfl) (hA40.get rfl)) fun a41 hA41 _ => ?_)
  refine sq (opk_val hA41 rfl (r_build (vs := #[(1, .bool (decide (a_1_Text ≠ b_2_Text)))]) (cells := #[.bool false, .bool (decide (a_1_Text ≠ b_2_Text)), Sl.v Sl.nil, Sl.v Sl.nil, .int .i64 0, Sl.v Sl.nil]) (map_arr2 (ml2_cons (hA41.get rfl) (ml2_nil))) ti_43 Try.underlying43 pl_43 (by kernel_rfl)) fun a42 hA42 _ => ?_)
  refine sq (opk_new (fun B => .pointer (some ⟨B, 0, none⟩)) hA42 rfl (r_alloc (cs := [.bool false, .bool false, Sl.v Sl.nil, Sl.v Sl.nil, .int .i64 0, Sl.v Sl.nil]) ti_43 rfl) fun a45 w44 B_43 hE46 hN47 hB48 hA45 _ => ?_)
  have hne49 : B_3 ≠ B_43 := Nat.ne_of_lt (Nat.lt_of_lt_of_le hB31.lt hN47.ge)
  have hne50 : B_11 ≠ B_43 := Nat.ne_of_lt (Nat.lt_of_lt_of_le hB32.lt hN47.ge)
  have hne51 : B_22 ≠ B_43 := Nat.ne_of_lt (Nat.lt_of_lt_of_le hB27.lt hN47.ge)
  have hN52 := New.of hC33 hN47
  have hB53 := hB31.ext hE46
  have hB54 := hB32.ext hE46
  have hB55 := hB27.ext hE46
  have hC56 := hC33.more hE46
  have hN57 := hN34.up hE46.size
  have hN58 := hN35.up hE46.size
  have hN59 := hN30.up hE46.size
  refine sq (opk_store hA45 hB48 (r_store (vs := [.bool false, .bool (decide (a_1_Text ≠ b_2_Text)), Sl.v Sl.nil, Sl.v Sl.nil, .int .i64 0, Sl.v Sl.nil]) (hA45.get rfl) (hA45.get rfl) rfl ti_43 hB48 rfl (ones_all [.bool false, .bool (decide (a_1_Text ≠ b_2_Text)), Sl.v Sl.nil, Sl.v Sl.nil, .int .i64 0, Sl.v Sl.nil] rfl)) fun a61 w60 hS62 hB63 hA61 => ?_)
  have hB64 : Box w60 B_43 43 [.bool false, .bool (decide (a_1_Text ≠ b_2_Text)), Sl.v Sl.nil, Sl.v Sl.nil, .int .i64 0, Sl.v Sl.nil] := hB63
  have hB65 := hB53.keep hS62 (by simpa using hne49)
  have hB66 := hB54.keep hS62 (by simpa using hne50)
  have hB67 := hB55.keep hS62 (by simpa using hne51)
  have hC68 := hC56.storeNew hN52 hS62
  have hN69 := hN57.up hS62.size
  have hN70 := hN58.up hS62.size
  have hN71 := hN59.up hS62.size
  have hN72 := hN52.up hS62.size
  refine sq_end ?_
  have hA73 := hA61.keep [(2, .pointer (some (⟨B_3, 0, none⟩ : Addr))), (3, .pointer (some (⟨B_11, 0, none⟩ : Addr))), (4, .pointer (some (⟨B_22, 0, none⟩ : Addr))), (5, .pointer (some (⟨B_43, 0, none⟩ : Addr)))] ⟨rfl, rfl, rfl, rfl, trivial⟩
  refine then_normal ?_
  refine wp_seq ?_
  refine wp_seq ?_
  refine wp_region_lit ?_
  refine sq (opk_val hA73 rfl (r_fieldAddr (hA73.get rfl) Try.underlying26 rfl ti_23 (by decide)) fun a74 hA74 _ => ?_)
  refine sq (opk_val hA74 rfl (r_load1 Try.underlying23 rfl (hA74.get rfl) (hB66.cell 3 _ rfl)) fun a75 hA75 _ => ?_)
  refine sq (opk_val hA75 rfl (r_len (hA75.get rfl) Try.underlying23) fun a76 hA76 _ => ?_)
  refine sq (opk_val hA76 rfl (r_move rfl) fun a77 hA77 _ => ?_)
  refine sq_end ?_
  have hA78 := hA77.keep [(2, .pointer (some (⟨B_3, 0, none⟩ : Addr))), (3, .pointer (some (⟨B_11, 0, none⟩ : Addr))), (4, .pointer (some (⟨B_22, 0, none⟩ : Addr))), (5, .pointer (some (⟨B_43, 0, none⟩ : Addr))), (21, Sl.v b_2_Attrs), (22, .int .i64 (b_2_Attrs.n : Int)), (23, .int .i64 0)] ⟨rfl, rfl, rfl, rfl, rfl, rfl, rfl, trivial⟩
  refine then_normal ?_
  refine wp_block ?_
  have ht366 := ht0 w60 B_3 B_11 B_22 B_43 hN69 hN70 hN71 hN72 hne17 hne28 hne49 hne29 hne50 hne51 hC68
  obtain ⟨J_225, mu_226, h0373, ht372⟩ := ht366
  refine wp_loop_st (σ := Int × Sl × World) (fun s a w => Ag 74 a [(2, .pointer (some (⟨B_3, 0, none⟩ : Addr))), (3, .pointer (some (⟨B_11, 0, none⟩ : Addr))), (4, .pointer (some (⟨B_22, 0, none⟩ : Addr))), (5, .pointer (some (⟨B_43, 0, none⟩ : Addr))), (21, Sl.v b_2_Attrs), (22, .int .i64 (b_2_Attrs.n : Int)), (23, .int .i64 s.1)] ∧ Box w B_3 26 [.int .i64 a_1_Kind, .string (Bs a_1_Name), .string (Bs a_1_Text), Sl.v a_1_Attrs, Sl.v a_1_Kids] ∧ Box w B_11 26 [.int .i64 b_2_Kind, .string (Bs b_2_Name), .string (Bs b_2_Text), Sl.v b_2_Attrs, Sl.v b_2_Kids] ∧ Box w B_22 43 [.bool false, .bool false, Sl.v Sl.nil, Sl.v Sl.nil, .int .i64 0, Sl.v Sl.nil] ∧ Box w B_43 43 [.bool false, .bool (decide (a_1_Text ≠ b_2_Text)), Sl.v s.2.1, Sl.v Sl.nil, .int .i64 0, Sl.v Sl.nil] ∧ w = s.2.2 ∧ J_225 s.1 s.2.1 s.2.2) (fun s => mu_226 s.1 s.2.1 s.2.2) (0, Sl.nil, w60) ⟨hA78.keep [(2, .pointer (some (⟨B_3, 0, none⟩ : Addr))), (3, .pointer (some (⟨B_11, 0, none⟩ : Addr))), (4, .pointer (some (⟨B_22, 0, none⟩ : Addr))), (5, .pointer (some (⟨B_43, 0, none⟩ : Addr))), (21, Sl.v b_2_Attrs), (22, .int .i64 (b_2_Attrs.n : Int)), (23, .int .i64 0)] ⟨rfl, rfl, rfl, rfl, rfl, rfl, rfl, trivial⟩, hB65, hB66, hB67, hB64, rfl, h0373⟩ ?_
  rintro ⟨x_222, c_223, w224⟩ a367 w_ ⟨hA367, hB368, hB369, hB370, hB371, hw_, hJ375⟩
  have hw_ : w224 = w_ := hw_.symm
  subst hw_
  have ht374 := ht372 x_222 c_223 _ hJ375
  refine wp_seq ?_
  refine wp_region_lit ?_
  refine sq (opk_val hA367 rfl (r_lss (hA367.get rfl) (hA367.get rfl)) fun a376 hA376 _ => ?_)
  refine sq_end ?_
  have hA377 := hA376.keep [(2, .pointer (some (⟨B_3, 0, none⟩ : Addr))), (3, .pointer (some (⟨B_11, 0, none⟩ : Addr))), (4, .pointer (some (⟨B_22, 0, none⟩ : Addr))), (5, .pointer (some (⟨B_43, 0, none⟩ : Addr))), (21, Sl.v b_2_Attrs), (22, .int .i64 (b_2_Attrs.n : Int)), (23, .int .i64 x_222), (24, .bool (decide (x_222 < (b_2_Attrs.n : Int))))] ⟨rfl, rfl, rfl, rfl, rfl, rfl, rfl, rfl, trivial⟩
  refine then_normal ?_
  refine wp_seq ?_
  refine wp_cond_split (hA377.get rfl) (fun hc => ?_) (fun hc => ?_)
  · have ht378 := ht374.1 (of_decide_eq_true hc)
    clear hc
    refine wp_skip ?_
    refine then_normal ?_
    refine wp_seq ?_
    refine wp_block ?_
    refine wp_seq ?_
    refine wp_region_lit ?_
    obtain ⟨hb381, p_380, hp382, ht383⟩ := ht378
    refine sq (opk_val hA377 rfl (r_indexAddr (hA377.get rfl) (hA377.get rfl) Try.underlying23 ti_47 hb381 hp382) fun a384 hA384 _ => ?_)
    obtain ⟨x_386_Name, x_386_Value, hx387, ht388⟩ := ht383
    refine sq (opk_val hA384 rfl (r_loadN Try.underlying47 rfl ti_47 (hA384.get rfl) hx387) fun a385 hA385 _ => ?_)
    refine sq (opk_new (fun B => .pointer (some ⟨B, 0, none⟩)) hA385 rfl (r_alloc (cs := [.string (Bs ([] : Str)), .string (Bs ([] : Str))]) ti_47 rfl) fun a391 w390 B_389 hE392 hN393 hB394 hA391 _ => ?_)
    have hne395 : B_3 ≠ B_389 := Nat.ne_of_lt (Nat.lt_of_lt_of_le hB368.lt hN393.ge)
    have hne396 : B_11 ≠ B_389 := Nat.ne_of_lt (Nat.lt_of_lt_of_le hB369.lt hN393.ge)
    have hne397 : B_22 ≠ B_389 := Nat.ne_of_lt (Nat.lt_of_lt_of_le hB370.lt hN393.ge)
    have hne398 : B_43 ≠ B_389 := Nat.ne_of_lt (Nat.lt_of_lt_of_le hB371.lt hN393.ge)
    have hN399 : New w224 B_389 w390 := hN393
    have hB400 := hB368.ext hE392
    have hB401 := hB369.ext hE392
    have hB402 := hB370.ext hE392
    have hB403 := hB371.ext hE392
    have hC404 : Chg [] w224 w390 := hE392
    refine sq (opk_store hA391 hB394 (r_store (vs := [.string (Bs x_386_Name), .string (Bs x_386_Value)]) (hA391.get rfl) (hA391.get rfl) rfl ti_47 hB394 rfl (ones_all [.string (Bs x_386_Name), .string (Bs x_386_Value)] rfl)) fun a406 w405 hS407 hB408 hA406 => ?_)
    have hB409 : Box w405 B_389 47 [.string (Bs x_386_Name), .string (Bs x_386_Value)] := hB408
    have hB410 := hB400.keep hS407 (by simpa using hne395)
    have hB411 := hB401.keep hS407 (by simpa using hne396)
    have hB412 := hB402.keep hS407 (by simpa using hne397)
    have hB413 := hB403.keep hS407 (by simpa using hne398)
    have hC414 := hC404.storeNew hN399 hS407
    have hN415 := hN399.up hS407.size
    refine sq_end ?_
    have hA416 := hA406.keep [(2, .pointer (some (⟨B_3, 0, none⟩ : Addr))), (3, .pointer (some (⟨B_11, 0, none⟩ : Addr))), (4, .pointer (some (⟨B_22, 0, none⟩ : Addr))), (5, .pointer (some (⟨B_43, 0, none⟩ : Addr))), (7, .pointer (some (⟨B_389, 0, none⟩ : Addr))), (21, Sl.v b_2_Attrs), (22, .int .i64 (b_2_Attrs.n : Int)), (23, .int .i64 x_222)] ⟨rfl, rfl, rfl, rfl, rfl, rfl, rfl, rfl, trivial⟩
    refine then_normal ?_
    refine wp_seq ?_
    refine wp_region_lit ?_
    refine sq (opk_val hA416 rfl (r_loadN (cs := [.int .i64 a_1_Kind, .string (Bs a_1_Name), .string (Bs a_1_Text), Sl.v a_1_Attrs, Sl.v a_1_Kids]) Try.underlying26 rfl ti_26 (hA416.get rfl) (hB410.part 0 _ rfl)) fun a417 hA417 _ => ?_)
    refine sq (opk_val hA417 rfl (r_fieldAddr (hA417.get rfl) Try.underlying47 rfl ti_9 (by decide)) fun a418 hA418 _ => ?_)
    refine sq (opk_val hA418 rfl (r_load1 Try.underlying9 rfl (hA418.get rfl) (hB409.cell 0 _ rfl)) fun a419 hA419 _ => ?_)
    have ht420 := ht388 w405 B_389 hN415  hC414
    refine sq (opk_call hA419 rfl (r_call (args := #[.agg #[.int .i64 a_1_Kind, .string (Bs a_1_Name), .string (Bs a_1_Text), Sl.v a_1_Attrs, Sl.v a_1_Kids], .string (Bs x_386_Name)]) Try.func65 (by decide) rfl (map_arr (ml_cons (hA419.get rfl) (ml_cons (hA419.get rfl) ml_nil))) rfl) ht420 fun a423 v429 w424 hA423 _ hn426 hz427 hK428 => ?_)
    obtain ⟨r_0_421, r_1_422, rfl, ht425⟩ := hK428
    have hB430 := hB410.kept hn426 (.head _)
    have hB431 := hB411.kept hn426 (.tail _ (.head _))
    have hB432 := hB412.kept hn426 (.tail _ (.tail _ (.head _)))
    have hB433 := hB413.kept hn426 (.tail _ (.tail _ (.tail _ (.head _))))
    have hB434 := hB409.kept hn426 (.tail _ (.tail _ (.tail _ (.tail _ (.head _)))))
    refine sq (opk_val hA423 rfl (r_move (hA423.get rfl)) fun a435 hA435 _ => ?_)
    refine sq (opk_val hA435 rfl (r_extract (hA435.get rfl) rfl) fun a436 hA436 _ => ?_)
    refine sq (opk_val hA436 rfl (r_extract (hA436.get rfl) rfl) fun a437 hA437 _ => ?_)
    refine sq (opk_val hA437 rfl (r_assign (hA437.get rfl)) fun a438 hA438 _ => ?_)
    refine sq (opk_val hA438 rfl (r_assign (hA438.get rfl)) fun a439 hA439 _ => ?_)
    refine sq_end ?_
    have hA440 := hA439.keep [(2, .pointer (some (⟨B_3, 0, none⟩ : Addr))), (3, .pointer (some (⟨B_11, 0, none⟩ : Addr))), (4, .pointer (some (⟨B_22, 0, none⟩ : Addr))), (5, .pointer (some (⟨B_43, 0, none⟩ : Addr))), (7, .pointer (some (⟨B_389, 0, none⟩ : Addr))), (8, .string (Bs r_0_421)), (9, .bool r_1_422), (21, Sl.v b_2_Attrs), (22, .int .i64 (b_2_Attrs.n : Int)), (23, .int .i64 x_222)] ⟨rfl, rfl, rfl, rfl, rfl, rfl, rfl, rfl, rfl, rfl, trivial⟩
    refine then_normal ?_
    refine wp_seq ?_
    refine wp_region_lit ?_
    refine sq (opk_val hA440 rfl (r_move (hA440.get rfl)) fun a441 hA441 _ => ?_)
    refine sq (opk_val hA441 rfl (r_not (hA441.get rfl)) fun a442 hA442 _ => ?_)
    refine sq (opk_val hA442 rfl (r_move (hA442.get rfl)) fun a443 hA443 _ => ?_)
    refine sq (opk_gval hA443 rfl rfl (g := true) (e := (!r_1_422)) rfl (fun hg => r_move (hA443.get rfl)) fun a444 hA444 _ => ?_)
    refine sq (opk_gval hA444 rfl rfl (g := true) (e := (!r_1_422)) rfl (fun hg => r_fieldAddr (hA444.get rfl) Try.underlying47 rfl ti_9 (by decide)) fun a445 hA445 _ => ?_)
    refine sq (opk_gval hA445 rfl rfl (g := true) (e := (!r_1_422)) rfl (fun hg => r_load1 Try.underlying9 rfl (cv_get (hA445.get rfl) hg) (hB434.cell 1 _ rfl)) fun a446 hA446 _ => ?_)
    refine sq (opk_gval hA446 rfl rfl (g := true) (e := (!r_1_422)) rfl (fun hg => r_sneq (cv_get (hA446.get rfl) hg) (cv_get (hA446.get rfl) hg)) fun a447 hA447 _ => ?_)
    refine sq (opk_val hA447 rfl (r_pick_or (g := (true && ((!r_1_422) == false))) (hA447.get rfl) (hA447.get rfl) (fun he => g_mkf rfl he)) fun a448 hA448 _ => ?_)
    refine sq_end ?_
    have hA449 := hA448.keep [(2, .pointer (some (⟨B_3, 0, none⟩ : Addr))), (3, .pointer (some (⟨B_11, 0, none⟩ : Addr))), (4, .pointer (some (⟨B_22, 0, none⟩ : Addr))), (5, .pointer (some (⟨B_43, 0, none⟩ : Addr))), (7, .pointer (some (⟨B_389, 0, none⟩ : Addr))), (21, Sl.v b_2_Attrs), (22, .int .i64 (b_2_Attrs.n : Int)), (23, .int .i64 x_222), (41, .bool ((!r_1_422) || (decide (r_0_421 ≠ x_386_Value))))] ⟨rfl, rfl, rfl, rfl, rfl, rfl, rfl, rfl, rfl, trivial⟩
    refine then_normal ?_
    refine wp_cond_split (hA449.get rfl) (fun hc => ?_) (fun hc => ?_)
    · have ht450 := ht425.1 ((b_or_t hc).imp (fun h => (b_not_t h)) (fun h => (of_decide_eq_true h)))
      clear hc
      refine wp_region_lit ?_
      refine sq (opk_val hA449 rfl (r_fieldAddr (hA449.get rfl) Try.underlying43 rfl ti_23 (by decide)) fun a452 hA452 _ => ?_)
      refine sq (opk_val hA452 rfl (r_load1 Try.underlying23 rfl (hA452.get rfl) (hB433.cell 2 _ rfl)) fun a453 hA453 _ => ?_)
      refine sq (opk_val hA453 rfl (r_loadN (cs := [.string (Bs x_386_Name), .string (Bs x_386_Value)]) Try.underlying47 rfl ti_47 (hA453.get rfl) (hB434.part 0 _ rfl)) fun a454 hA454 _ => ?_)
      refine sq (opk_new (fun B => .slice (some ⟨B, 0, none⟩) 1 1) hA454 rfl (r_buildSlice (vs := #[(0, .agg #[.string (Bs x_386_Name), .string (Bs x_386_Value)])]) (cs := [.string (Bs x_386_Name), .string (Bs x_386_Value)]) (map_arr2 (ml2_cons (hA454.get rfl) (ml2_nil))) Try.underlying23 ti_47 rfl rfl (by kernel_rfl)) fun a457 w456 B_455 hE458 hN459 hB460 hA457 _ => ?_)
      have hne461 : B_3 ≠ B_455 := Nat.ne_of_lt (Nat.lt_of_lt_of_le hB430.lt hN459.ge)
      have hne462 : B_11 ≠ B_455 := Nat.ne_of_lt (Nat.lt_of_lt_of_le hB431.lt hN459.ge)
      have hne463 : B_22 ≠ B_455 := Nat.ne_of_lt (Nat.lt_of_lt_of_le hB432.lt hN459.ge)
      have hne464 : B_43 ≠ B_455 := Nat.ne_of_lt (Nat.lt_of_lt_of_le hB433.lt hN459.ge)
      have hne465 : B_389 ≠ B_455 := Nat.ne_of_lt (Nat.lt_of_lt_of_le hB434.lt hN459.ge)
      have hN466 : New w424 B_455 w456 := hN459
      have hB467 := hB430.ext hE458
      have hB468 := hB431.ext hE458
      have hB469 := hB432.ext hE458
      have hB470 := hB433.ext hE458
      have hB471 := hB434.ext hE458
      have hC472 : Chg [] w424 w456 := hE458
      have ht473 := ht450 w456 B_455 hN466  hC472
      have ht474 := ht473 hB460
      refine sq (opk_run hA457 rfl (fun _ _ hr => r_append (hA457.get rfl) (hA457.get rfl) hr) ht474 fun a475 v481 w476 hA475 _ hn478 hz479 hK480 => ?_)
      obtain ⟨r_482, rfl, ht477⟩ := hK480
      have hB483 := hB467.kept hn478 (.head _)
      have hB484 := hB468.kept hn478 (.tail _ (.head _))
      have hB485 := hB469.kept hn478 (.tail _ (.tail _ (.head _)))
      have hB486 := hB470.kept hn478 (.tail _ (.tail _ (.tail _ (.head _))))
      have hB487 := hB471.kept hn478 (.tail _ (.tail _ (.tail _ (.tail _ (.head _)))))
      refine sq (opk_val hA475 rfl (r_fieldAddr (hA475.get rfl) Try.underlying43 rfl ti_23 (by decide)) fun a488 hA488 _ => ?_)
      refine sq (opk_store hA488 hB486 (r_store (vs := [Sl.v r_482]) (hA488.get rfl) (hA488.get rfl) rfl ti_23 hB486 rfl (ones_all [Sl.v r_482] rfl)) fun a490 w489 hS491 hB492 hA490 => ?_)
      have hB493 : Box w489 B_43 43 [.bool false, .bool (decide (a_1_Text ≠ b_2_Text)), Sl.v r_482, Sl.v Sl.nil, .int .i64 0, Sl.v Sl.nil] := hB492
      have hB494 := hB483.keep hS491 (by simpa using hne49)
      have hB495 := hB484.keep hS491 (by simpa using hne50)
      have hB496 := hB485.keep hS491 (by simpa using hne51)
      have hB497 := hB487.keep hS491 (by simpa using hne398.symm)
      have hC498 : Chg [B_43] w476 w489 := hS491
      refine sq_end ?_
      have hA499 := hA490.keep [(2, .pointer (some (⟨B_3, 0, none⟩ : Addr))), (3, .pointer (some (⟨B_11, 0, none⟩ : Addr))), (4, .pointer (some (⟨B_22, 0, none⟩ : Addr))), (5, .pointer (some (⟨B_43, 0, none⟩ : Addr))), (21, Sl.v b_2_Attrs), (22, .int .i64 (b_2_Attrs.n : Int)), (23, .int .i64 x_222)] ⟨rfl, rfl, rfl, rfl, rfl, rfl, rfl, trivial⟩
      refine block_normal ?_
      refine then_normal ?_
      refine wp_region_lit ?_
      obtain ⟨hS501, ht502⟩ := ht477
      refine sq (opk_val hA499 rfl (r_addI (hA499.get rfl) rfl hS501) fun a500 hA500 _ => ?_)
      refine sq (opk_val hA500 rfl (r_move (hA500.get rfl)) fun a503 hA503 _ => ?_)
      refine sq_end ?_
      have hA504 := hA503.keep [(2, .pointer (some (⟨B_3, 0, none⟩ : Addr))), (3, .pointer (some (⟨B_11, 0, none⟩ : Addr))), (4, .pointer (some (⟨B_22, 0, none⟩ : Addr))), (5, .pointer (some (⟨B_43, 0, none⟩ : Addr))), (21, Sl.v b_2_Attrs), (22, .int .i64 (b_2_Attrs.n : Int)), (23, .int .i64 (x_222 + 1))] ⟨rfl, rfl, rfl, rfl, rfl, rfl, rfl, trivial⟩
      have ht505 := ht502 w489    hC498
      have hA506 := hA504.keep [(2, .pointer (some (⟨B_3, 0, none⟩ : Addr))), (3, .pointer (some (⟨B_11, 0, none⟩ : Addr))), (4, .pointer (some (⟨B_22, 0, none⟩ : Addr))), (5, .pointer (some (⟨B_43, 0, none⟩ : Addr))), (21, Sl.v b_2_Attrs), (22, .int .i64 (b_2_Attrs.n : Int)), (23, .int .i64 (x_222 + 1))] ⟨rfl, rfl, rfl, rfl, rfl, rfl, rfl, trivial⟩
      exact then_normal ⟨(x_222 + 1, r_482, w489), ⟨hA506, hB494, hB495, hB496, hB493, rfl, ht505.1⟩, ht505.2⟩
    · have ht451 := ht425.2 ⟨(b_not_f (b_or_f hc).1), (of_decide_eq_false (b_or_f hc).2)⟩
      clear hc
      refine wp_skip ?_
      refine block_normal ?_
      refine then_normal ?_
      refine wp_region_lit ?_
      obtain ⟨hS508, ht509⟩ := ht451
      refine sq (opk_val hA449 rfl (r_addI (hA449.get rfl) rfl hS508) fun a507 hA507 _ => ?_)
      refine sq (opk_val hA507 rfl (r_move (hA507.get rfl)) fun a510 hA510 _ => ?_)
      refine sq_end ?_
      have hA511 := hA510.keep [(2, .pointer (some (⟨B_3, 0, none⟩ : Addr))), (3, .pointer (some (⟨B_11, 0, none⟩ : Addr))), (4, .pointer (some (⟨B_22, 0, none⟩ : Addr))), (5, .pointer (some (⟨B_43, 0, none⟩ : Addr))), (21, Sl.v b_2_Attrs), (22, .int .i64 (b_2_Attrs.n : Int)), (23, .int .i64 (x_222 + 1))] ⟨rfl, rfl, rfl, rfl, rfl, rfl, rfl, trivial⟩
      have hA512 := hA511.keep [(2, .pointer (some (⟨B_3, 0, none⟩ : Addr))), (3, .pointer (some (⟨B_11, 0, none⟩ : Addr))), (4, .pointer (some (⟨B_22, 0, none⟩ : Addr))), (5, .pointer (some (⟨B_43, 0, none⟩ : Addr))), (21, Sl.v b_2_Attrs), (22, .int .i64 (b_2_Attrs.n : Int)), (23, .int .i64 (x_222 + 1))] ⟨rfl, rfl, rfl, rfl, rfl, rfl, rfl, trivial⟩
      exact then_normal ⟨(x_222 + 1, c_223, w424), ⟨hA512, hB430, hB431, hB432, hB433, rfl, ht509.1⟩, ht509.2⟩
  · have ht379 := ht374.2 (of_decide_eq_false hc)
    clear hc
    refine wp_exit ?_
    refine then_exit ?_
    refine then_exit ?_
    refine block_hit ?_
    have hA513 := hA377.keep [(2, .pointer (some (⟨B_3, 0, none⟩ : Addr))), (3, .pointer (some (⟨B_11, 0, none⟩ : Addr))), (4, .pointer (some (⟨B_22, 0, none⟩ : Addr))), (5, .pointer (some (⟨B_43, 0, none⟩ : Addr)))] ⟨rfl, rfl, rfl, rfl, trivial⟩
    refine then_normal ?_
    refine wp_seq ?_
    refine wp_seq ?_
    refine wp_region_lit ?_
    refine sq (opk_val hA513 rfl (r_fieldAddr (hA513.get rfl) Try.underlying26 rfl ti_23 (by decide)) fun a514 hA514 _ => ?_)
    refine sq (opk_val hA514 rfl (r_load1 Try.underlying23 rfl (hA514.get rfl) (hB368.cell 3 _ rfl)) fun a515 hA515 _ => ?_)
    refine sq (opk_val hA515 rfl (r_len (hA515.get rfl) Try.underlying23) fun a516 hA516 _ => ?_)
    refine sq (opk_val hA516 rfl (r_move rfl) fun a517 hA517 _ => ?_)
    refine sq_end ?_
    have hA518 := hA517.keep [(3, .pointer (some (⟨B_11, 0, none⟩ : Addr))), (4, .pointer (some (⟨B_22, 0, none⟩ : Addr))), (5, .pointer (some (⟨B_43, 0, none⟩ : Addr))), (50, Sl.v a_1_Attrs), (51, .int .i64 (a_1_Attrs.n : Int)), (52, .int .i64 0)] ⟨rfl, rfl, rfl, rfl, rfl, rfl, trivial⟩
    refine then_normal ?_
    refine wp_block ?_
    obtain ⟨J_651, mu_652, h0783, ht782⟩ := ht379
    refine wp_loop_st (σ := Int × Sl × World) (fun s a w => Ag 74 a [(3, .pointer (some (⟨B_11, 0, none⟩ : Addr))), (4, .pointer (some (⟨B_22, 0, none⟩ : Addr))), (5, .pointer (some (⟨B_43, 0, none⟩ : Addr))), (50, Sl.v a_1_Attrs), (51, .int .i64 (a_1_Attrs.n : Int)), (52, .int .i64 s.1)] ∧ Box w B_11 26 [.int .i64 b_2_Kind, .string (Bs b_2_Name), .string (Bs b_2_Text), Sl.v b_2_Attrs, Sl.v b_2_Kids] ∧ Box w B_22 43 [.bool false, .bool false, Sl.v Sl.nil, Sl.v Sl.nil, .int .i64 0, Sl.v Sl.nil] ∧ Box w B_43 43 [.bool false, .bool (decide (a_1_Text ≠ b_2_Text)), Sl.v c_223, Sl.v s.2.1, .int .i64 0, Sl.v Sl.nil] ∧ w = s.2.2 ∧ J_651 s.1 s.2.1 s.2.2) (fun s => mu_652 s.1 s.2.1 s.2.2) (0, Sl.nil, w224) ⟨hA518.keep [(3, .pointer (some (⟨B_11, 0, none⟩ : Addr))), (4, .pointer (some (⟨B_22, 0, none⟩ : Addr))), (5, .pointer (some (⟨B_43, 0, none⟩ : Addr))), (50, Sl.v a_1_Attrs), (51, .int .i64 (a_1_Attrs.n : Int)), (52, .int .i64 0)] ⟨rfl, rfl, rfl, rfl, rfl, rfl, trivial⟩, hB369, hB370, hB371, rfl, h0783⟩ ?_
    rintro ⟨x_648, c_649, w650⟩ a778 w_ ⟨hA778, hB779, hB780, hB781, hw_, hJ785⟩
    have hw_ : w650 = w_ := hw_.symm
    subst hw_
    have ht784 := ht782 x_648 c_649 _ hJ785
    refine wp_seq ?_
    refine wp_region_lit ?_
    refine sq (opk_val hA778 rfl (r_lss (hA778.get rfl) (hA778.get rfl)) fun a786 hA786 _ => ?_)
    refine sq_end ?_
    have hA787 := hA786.keep [(3, .pointer (some (⟨B_11, 0, none⟩ : Addr))), (4, .pointer (some (⟨B_22, 0, none⟩ : Addr))), (5, .pointer (some (⟨B_43, 0, none⟩ : Addr))), (50, Sl.v a_1_Attrs), (51, .int .i64 (a_1_Attrs.n : Int)), (52, .int .i64 x_648), (53, .bool (decide (x_648 < (a_1_Attrs.n : Int))))] ⟨rfl, rfl, rfl, rfl, rfl, rfl, rfl, trivial⟩
    refine then_normal ?_
    refine wp_seq ?_
    refine wp_cond_split (hA787.get rfl) (fun hc => ?_) (fun hc => ?_)
    · have ht788 := ht784.1 (of_decide_eq_true hc)
      clear hc
      refine wp_skip ?_
      refine then_normal ?_
      refine wp_seq ?_
      refine wp_block ?_
      refine wp_seq ?_
      refine wp_region_lit ?_
      obtain ⟨hb791, p_790, hp792, ht793⟩ := ht788
      refine sq (opk_val hA787 rfl (r_indexAddr (hA787.get rfl) (hA787.get rfl) Try.underlying23 ti_47 hb791 hp792) fun a794 hA794 _ => ?_)
      obtain ⟨x_796_Name, x_796_Value, hx797, ht798⟩ := ht793
      refine sq (opk_val hA794 rfl (r_loadN Try.underlying47 rfl ti_47 (hA794.get rfl) hx797) fun a795 hA795 _ => ?_)
      refine sq (opk_new (fun B => .pointer (some ⟨B, 0, none⟩)) hA795 rfl (r_alloc (cs := [.string (Bs ([] : Str)), .string (Bs ([] : Str))]) ti_47 rfl) fun a801 w800 B_799 hE802 hN803 hB804 hA801 _ => ?_)
      have hne805 : B_11 ≠ B_799 := Nat.ne_of_lt (Nat.lt_of_lt_of_le hB779.lt hN803.ge)
      have hne806 : B_22 ≠ B_799 := Nat.ne_of_lt (Nat.lt_of_lt_of_le hB780.lt hN803.ge)
      have hne807 : B_43 ≠ B_799 := Nat.ne_of_lt (Nat.lt_of_lt_of_le hB781.lt hN803.ge)
      have hN808 : New w650 B_799 w800 := hN803
      have hB809 := hB779.ext hE802
      have hB810 := hB780.ext hE802
      have hB811 := hB781.ext hE802
      have hC812 : Chg [] w650 w800 := hE802
      refine sq (opk_store hA801 hB804 (r_store (vs := [.string (Bs x_796_Name), .string (Bs x_796_Value)]) (hA801.get rfl) (hA801.get rfl) rfl ti_47 hB804 rfl (ones_all [.string (Bs x_796_Name), .string (Bs x_796_Value)] rfl)) fun a814 w813 hS815 hB816 hA814 => ?_)
      have hB817 : Box w813 B_799 47 [.string (Bs x_796_Name), .string (Bs x_796_Value)] := hB816
      have hB818 := hB809.keep hS815 (by simpa using hne805)
      have hB819 := hB810.keep hS815 (by simpa using hne806)
      have hB820 := hB811.keep hS815 (by simpa using hne807)
      have hC821 := hC812.storeNew hN808 hS815
      have hN822 := hN808.up hS815.size
      refine sq_end ?_
      have hA823 := hA814.keep [(3, .pointer (some (⟨B_11, 0, none⟩ : Addr))), (4, .pointer (some (⟨B_22, 0, none⟩ : Addr))), (5, .pointer (some (⟨B_43, 0, none⟩ : Addr))), (11, .pointer (some (⟨B_799, 0, none⟩ : Addr))), (50, Sl.v a_1_Attrs), (51, .int .i64 (a_1_Attrs.n : Int)), (52, .int .i64 x_648)] ⟨rfl, rfl, rfl, rfl, rfl, rfl, rfl, trivial⟩
      refine then_normal ?_
      refine wp_seq ?_
      refine wp_region_lit ?_
      refine sq (opk_val hA823 rfl (r_loadN (cs := [.int .i64 b_2_Kind, .string (Bs b_2_Name), .string (Bs b_2_Text), Sl.v b_2_Attrs, Sl.v b_2_Kids]) Try.underlying26 rfl ti_26 (hA823.get rfl) (hB818.part 0 _ rfl)) fun a824 hA824 _ => ?_)
      refine sq (opk_val hA824 rfl (r_fieldAddr (hA824.get rfl) Try.underlying47 rfl ti_9 (by decide)) fun a825 hA825 _ => ?_)
      refine sq (opk_val hA825 rfl (r_load1 Try.underlying9 rfl (hA825.get rfl) (hB817.cell 0 _ rfl)) fun a826 hA826 _ => ?_)
      have ht827 := ht798 w813 B_799 hN822  hC821
      refine sq (opk_call hA826 rfl (r_call (args := #[.agg #[.int .i64 b_2_Kind, .string (Bs b_2_Name), .string (Bs b_2_Text), Sl.v b_2_Attrs, Sl.v b_2_Kids], .string (Bs x_796_Name)]) Try.func65 (by decide) rfl (map_arr (ml_cons (hA826.get rfl) (ml_cons (hA826.get rfl) ml_nil))) rfl) ht827 fun a830 v836 w831 hA830 _ hn833 hz834 hK835 => ?_)
      obtain ⟨r_0_828, r_1_829, rfl, ht832⟩ := hK835
      have hB837 := hB818.kept hn833 (.head _)
      have hB838 := hB819.kept hn833 (.tail _ (.head _))
      have hB839 := hB820.kept hn833 (.tail _ (.tail _ (.head _)))
      have hB840 := hB817.kept hn833 (.tail _ (.tail _ (.tail _ (.head _))))
      refine sq (opk_val hA830 rfl (r_move (hA830.get rfl)) fun a841 hA841 _ => ?_)
      refine sq (opk_val hA841 rfl (r_extract (hA841.get rfl) rfl) fun a842 hA842 _ => ?_)
      refine sq (opk_val hA842 rfl (r_extract (hA842.get rfl) rfl) fun a843 hA843 _ => ?_)
      refine sq (opk_val hA843 rfl (r_assign (hA843.get rfl)) fun a844 hA844 _ => ?_)
      refine sq (opk_val hA844 rfl (r_assign (hA844.get rfl)) fun a845 hA845 _ => ?_)
      refine sq_end ?_
      have hA846 := hA845.keep [(3, .pointer (some (⟨B_11, 0, none⟩ : Addr))), (4, .pointer (some (⟨B_22, 0, none⟩ : Addr))), (5, .pointer (some (⟨B_43, 0, none⟩ : Addr))), (11, .pointer (some (⟨B_799, 0, none⟩ : Addr))), (13, .bool r_1_829), (50, Sl.v a_1_Attrs), (51, .int .i64 (a_1_Attrs.n : Int)), (52, .int .i64 x_648)] ⟨rfl, rfl, rfl, rfl, rfl, rfl, rfl, rfl, trivial⟩
      refine then_normal ?_
      refine wp_seq ?_
      refine wp_region_lit ?_
      refine sq (opk_val hA846 rfl (r_move (hA846.get rfl)) fun a847 hA847 _ => ?_)
      refine sq (opk_val hA847 rfl (r_not (hA847.get rfl)) fun a848 hA848 _ => ?_)
      refine sq_end ?_
      have hA849 := hA848.keep [(3, .pointer (some (⟨B_11, 0, none⟩ : Addr))), (4, .pointer (some (⟨B_22, 0, none⟩ : Addr))), (5, .pointer (some (⟨B_43, 0, none⟩ : Addr))), (11, .pointer (some (⟨B_799, 0, none⟩ : Addr))), (50, Sl.v a_1_Attrs), (51, .int .i64 (a_1_Attrs.n : Int)), (52, .int .i64 x_648), (64, .bool (!r_1_829))] ⟨rfl, rfl, rfl, rfl, rfl, rfl, rfl, rfl, trivial⟩
      refine then_normal ?_
      refine wp_cond_split (hA849.get rfl) (fun hc => ?_) (fun hc => ?_)
      · have ht850 := ht832.1 (b_not_t hc)
        clear hc
        refine wp_region_lit ?_
        refine sq (opk_val hA849 rfl (r_fieldAddr (hA849.get rfl) Try.underlying43 rfl ti_41 (by decide)) fun a852 hA852 _ => ?_)
        refine sq (opk_val hA852 rfl (r_load1 Try.underlying41 rfl (hA852.get rfl) (hB839.cell 3 _ rfl)) fun a853 hA853 _ => ?_)
        refine sq (opk_val hA853 rfl (r_fieldAddr (hA853.get rfl) Try.underlying47 rfl ti_9 (by decide)) fun a854 hA854 _ => ?_)
        refine sq (opk_val hA854 rfl (r_load1 Try.underlying9 rfl (hA854.get rfl) (hB840.cell 0 _ rfl)) fun a855 hA855 _ => ?_)
        refine sq (opk_new (fun B => .slice (some ⟨B, 0, none⟩) 1 1) hA855 rfl (r_buildSlice (vs := #[(0, .string (Bs x_796_Name))]) (cs := [.string (Bs x_796_Name)]) (map_arr2 (ml2_cons (hA855.get rfl) (ml2_nil))) Try.underlying41 ti_9 rfl rfl (by kernel_rfl)) fun a858 w857 B_856 hE859 hN860 hB861 hA858 _ => ?_)
        have hne862 : B_11 ≠ B_856 := Nat.ne_of_lt (Nat.lt_of_lt_of_le hB837.lt hN860.ge)
        have hne863 : B_22 ≠ B_856 := Nat.ne_of_lt (Nat.lt_of_lt_of_le hB838.lt hN860.ge)
        have hne864 : B_43 ≠ B_856 := Nat.ne_of_lt (Nat.lt_of_lt_of_le hB839.lt hN860.ge)
        have hne865 : B_799 ≠ B_856 := Nat.ne_of_lt (Nat.lt_of_lt_of_le hB840.lt hN860.ge)
        have hN866 : New w831 B_856 w857 := hN860
        have hB867 := hB837.ext hE859
        have hB868 := hB838.ext hE859
        have hB869 := hB839.ext hE859
        have hB870 := hB840.ext hE859
        have hC871 : Chg [] w831 w857 := hE859
        have ht872 := ht850 w857 B_856 hN866  hC871
        have ht873 := ht872 hB861
        refine sq (opk_run hA858 rfl (fun _ _ hr => r_append (hA858.get rfl) (hA858.get rfl) hr) ht873 fun a874 v880 w875 hA874 _ hn877 hz878 hK879 => ?_)
        obtain ⟨r_881, rfl, ht876⟩ := hK879
        have hB882 := hB867.kept hn877 (.head _)
        have hB883 := hB868.kept hn877 (.tail _ (.head _))
        have hB884 := hB869.kept hn877 (.tail _ (.tail _ (.head _)))
        have hB885 := hB870.kept hn877 (.tail _ (.tail _ (.tail _ (.head _))))
        refine sq (opk_val hA874 rfl (r_fieldAddr (hA874.get rfl) Try.underlying43 rfl ti_41 (by decide)) fun a886 hA886 _ => ?_)
        refine sq (opk_store hA886 hB884 (r_store (vs := [Sl.v r_881]) (hA886.get rfl) (hA886.get rfl) rfl ti_41 hB884 rfl (ones_all [Sl.v r_881] rfl)) fun a888 w887 hS889 hB890 hA888 => ?_)
        have hB891 : Box w887 B_43 43 [.bool false, .bool (decide (a_1_Text ≠ b_2_Text)), Sl.v c_223, Sl.v r_881, .int .i64 0, Sl.v Sl.nil] := hB890
        have hB892 := hB882.keep hS889 (by simpa using hne50)
        have hB893 := hB883.keep hS889 (by simpa using hne51)
        have hB894 := hB885.keep hS889 (by simpa using hne807.symm)
        have hC895 : Chg [B_43] w875 w887 := hS889
        refine sq_end ?_
        have hA896 := hA888.keep [(3, .pointer (some (⟨B_11, 0, none⟩ : Addr))), (4, .pointer (some (⟨B_22, 0, none⟩ : Addr))), (5, .pointer (some (⟨B_43, 0, none⟩ : Addr))), (50, Sl.v a_1_Attrs), (51, .int .i64 (a_1_Attrs.n : Int)), (52, .int .i64 x_648)] ⟨rfl, rfl, rfl, rfl, rfl, rfl, trivial⟩
        refine block_normal ?_
        refine then_normal ?_
        refine wp_region_lit ?_
        obtain ⟨hS898, ht899⟩ := ht876
        refine sq (opk_val hA896 rfl (r_addI (hA896.get rfl) rfl hS898) fun a897 hA897 _ => ?_)
        refine sq (opk_val hA897 rfl (r_move (hA897.get rfl)) fun a900 hA900 _ => ?_)
        refine sq_end ?_
        have hA901 := hA900.keep [(3, .pointer (some (⟨B_11, 0, none⟩ : Addr))), (4, .pointer (some (⟨B_22, 0, none⟩ : Addr))), (5, .pointer (some (⟨B_43, 0, none⟩ : Addr))), (50, Sl.v a_1_Attrs), (51, .int .i64 (a_1_Attrs.n : Int)), (52, .int .i64 (x_648 + 1))] ⟨rfl, rfl, rfl, rfl, rfl, rfl, trivial⟩
        have ht902 := ht899 w887    hC895
        have hA903 := hA901.keep [(3, .pointer (some (⟨B_11, 0, none⟩ : Addr))), (4, .pointer (some (⟨B_22, 0, none⟩ : Addr))), (5, .pointer (some (⟨B_43, 0, none⟩ : Addr))), (50, Sl.v a_1_Attrs), (51, .int .i64 (a_1_Attrs.n : Int)), (52, .int .i64 (x_648 + 1))] ⟨rfl, rfl, rfl, rfl, rfl, rfl, trivial⟩
        exact then_normal ⟨(x_648 + 1, r_881, w887), ⟨hA903, hB892, hB893, hB891, rfl, ht902.1⟩, ht902.2⟩
      · have ht851 := ht832.2 (b_not_f hc)
        clear hc
        refine wp_skip ?_
        refine block_normal ?_
        refine then_normal ?_
        refine wp_region_lit ?_
        obtain ⟨hS905, ht906⟩ := ht851
        refine sq (opk_val hA849 rfl (r_addI (hA849.get rfl) rfl hS905) fun a904 hA904 _ => ?_)
        refine sq (opk_val hA904 rfl (r_move (hA904.get rfl)) fun a907 hA907 _ => ?_)
        refine sq_end ?_
        have hA908 := hA907.keep [(3, .pointer (some (⟨B_11, 0, none⟩ : Addr))), (4, .pointer (some (⟨B_22, 0, none⟩ : Addr))), (5, .pointer (some (⟨B_43, 0, none⟩ : Addr))), (50, Sl.v a_1_Attrs), (51, .int .i64 (a_1_Attrs.n : Int)), (52, .int .i64 (x_648 + 1))] ⟨rfl, rfl, rfl, rfl, rfl, rfl, trivial⟩
        have hA909 := hA908.keep [(3, .pointer (some (⟨B_11, 0, none⟩ : Addr))), (4, .pointer (some (⟨B_22, 0, none⟩ : Addr))), (5, .pointer (some (⟨B_43, 0, none⟩ : Addr))), (50, Sl.v a_1_Attrs), (51, .int .i64 (a_1_Attrs.n : Int)), (52, .int .i64 (x_648 + 1))] ⟨rfl, rfl, rfl, rfl, rfl, rfl, trivial⟩
        exact then_normal ⟨(x_648 + 1, c_649, w831), ⟨hA909, hB837, hB838, hB839, rfl, ht906.1⟩, ht906.2⟩
    · have ht789 := ht784.2 (of_decide_eq_false hc)
      clear hc
      refine wp_exit ?_
      refine then_exit ?_
      refine then_exit ?_
      refine block_hit ?_
      have hA910 := hA787.keep [(4, .pointer (some (⟨B_22, 0, none⟩ : Addr))), (5, .pointer (some (⟨B_43, 0, none⟩ : Addr)))] ⟨rfl, rfl, trivial⟩
      refine then_normal ?_
      refine wp_seq ?_
      refine wp_region_lit ?_
      refine sq (opk_val hA910 rfl (r_loadN (cs := [.bool false, .bool (decide (a_1_Text ≠ b_2_Text)), Sl.v c_223, Sl.v c_649, .int .i64 0, Sl.v Sl.nil]) Try.underlying43 rfl ti_43 (hA910.get rfl) (hB781.part 0 _ rfl)) fun a911 hA911 _ => ?_)
      refine sq (opk_store hA911 hB780 (r_store (vs := [.bool false, .bool (decide (a_1_Text ≠ b_2_Text)), Sl.v c_223, Sl.v c_649, .int .i64 0, Sl.v Sl.nil]) (hA911.get rfl) (hA911.get rfl) rfl ti_43 hB780 rfl (ones_all [.bool false, .bool (decide (a_1_Text ≠ b_2_Text)), Sl.v c_223, Sl.v c_649, .int .i64 0, Sl.v Sl.nil] rfl)) fun a913 w912 hS914 hB915 hA913 => ?_)
      have hB916 : Box w912 B_22 43 [.bool false, .bool (decide (a_1_Text ≠ b_2_Text)), Sl.v c_223, Sl.v c_649, .int .i64 0, Sl.v Sl.nil] := hB915
      have hB917 := hB781.keep hS914 (by simpa using hne51.symm)
      have hC918 : Chg [B_22] w650 w912 := hS914
      refine sq_end ?_
      have hA919 := hA913.keep [(4, .pointer (some (⟨B_22, 0, none⟩ : Addr)))] ⟨rfl, trivial⟩
      refine then_normal ?_
      refine wp_ret ?_
      have ht920 := ht789 w912    hC918
      exact res_all (vs := [.agg #[.bool false, .bool (decide (a_1_Text ≠ b_2_Text)), Sl.v c_223, Sl.v c_649, .int .i64 0, Sl.v Sl.nil]]) rfl hA919 ⟨res_of_cell hA919 rfl hB916 Try.underlying43 rfl ti_43, trivial⟩ ht920

/-- The condition of topiary/slots.kids. -/
def slots_kids.vc (a_1 : Sl) (id_2 : Int) (R : Value → World → Prop) (w : World) : Prop :=
(I64 (id_2 + 1)) ∧
∃ (J_16 : Sl → Int → World → Prop) (mu_17 : Sl → Int → World → Nat),
J_16 Sl.nil (id_2 + 1) w ∧
(∀ (l_13 : Sl) (k_14 : Int) (w15 : World), J_16 l_13 k_14 w15 →
((0 : Int) ≤ id_2 ∧ id_2 < (a_1.n : Int)) ∧ ∃ p_89 : Addr, a_1.a = some p_89 ∧
∃ (x_96 : Int), (w15.cell? ((p_89.add (id_2.toNat * 10)).add 1) = some (.int .i64 x_96)) ∧
(I64 (id_2 + x_96)) ∧
((k_14 < (id_2 + x_96)) →
∀ (w109 : World) (B_108 : Nat), New w15 B_108 w109 → Chg [] w15 w109 →
∀ (_ : Box w109 B_108 3 [.int .i64 k_14]),
RunK Try.prog (Builtin.append_ #[22, 22] 22 #[Sl.v l_13, Sl.v (Sl.mk (some ⟨B_108, 0, none⟩) 1 1)]) w109 [] (fun v w119 => ∃ (r_125 : Sl), v = Sl.v r_125 ∧
((0 : Int) ≤ k_14 ∧ k_14 < (a_1.n : Int)) ∧ ∃ p_131 : Addr, a_1.a = some p_131 ∧
∃ (x_138 : Int), (w119.cell? ((p_131.add (k_14.toNat * 10)).add 1) = some (.int .i64 x_138)) ∧
(I64 (k_14 + x_138)) ∧
J_16 r_125 (k_14 + x_138) w119 ∧ mu_17 r_125 (k_14 + x_138) w119 < mu_17 l_13 k_14 w15)) ∧
((¬ (k_14 < (id_2 + x_96))) →
R (Sl.v l_13) w15))
set_option maxHeartbeats 1000000 in
set_option maxRecDepth 10000 in
theorem slots_kids.ok (a_1 : Sl) (id_2 : Int) {R : Value → World → Prop} {w : World} (ht0 : slots_kids.vc a_1 id_2 R w) : Calls Try.prog 41 #[Sl.v a_1, .int .i64 id_2] w (Ret R) := by
  refine enter [Sl.v a_1, .int .i64 id_2] Try.func41 rfl Try.ntmps41 rfl ?_
  intro a0 hA0
  unfold slots_kids.vc at ht0
  refine wp_seq ?_
  refine wp_region_lit ?_
  refine sq (opk_val hA0 rfl (r_assign rfl) fun a3 hA3 _ => ?_)
  refine sq_end ?_
  have hA4 := hA3.keep [(0, Sl.v a_1), (1, .int .i64 id_2)] ⟨rfl, rfl, trivial⟩
  refine then_normal ?_
  refine wp_seq ?_
  refine wp_region_lit ?_
  refine sq (opk_val hA4 rfl (r_assign rfl) fun a5 hA5 _ => ?_)
  refine sq_end ?_
  have hA6 := hA5.keep [(0, Sl.v a_1), (1, .int .i64 id_2), (5, Sl.v Sl.nil)] ⟨rfl, rfl, rfl, trivial⟩
  refine then_normal ?_
  refine wp_seq ?_
  refine wp_seq ?_
  refine wp_region_lit ?_
  refine sq (opk_val hA6 rfl (r_move (hA6.get rfl)) fun a7 hA7 _ => ?_)
  obtain ⟨hS9, ht10⟩ := ht0
  refine sq (opk_val hA7 rfl (r_addI (hA7.get rfl) rfl hS9) fun a8 hA8 _ => ?_)
  refine sq (opk_val hA8 rfl (r_assign (hA8.get rfl)) fun a11 hA11 _ => ?_)
  refine sq_end ?_
  have hA12 := hA11.keep [(0, Sl.v a_1), (1, .int .i64 id_2), (5, Sl.v Sl.nil), (6, .int .i64 (id_2 + 1))] ⟨rfl, rfl, rfl, rfl, trivial⟩
  refine then_normal ?_
  refine wp_block ?_
  obtain ⟨J_16, mu_17, h082, ht81⟩ := ht10
  refine wp_loop_st (σ := Sl × Int × World) (fun s a w => Ag 30 a [(0, Sl.v a_1), (1, .int .i64 id_2), (5, Sl.v s.1), (6, .int .i64 s.2.1)] ∧ w = s.2.2 ∧ J_16 s.1 s.2.1 s.2.2) (fun s => mu_17 s.1 s.2.1 s.2.2) (Sl.nil, id_2 + 1, w) ⟨hA12.keep [(0, Sl.v a_1), (1, .int .i64 id_2), (5, Sl.v Sl.nil), (6, .int .i64 (id_2 + 1))] ⟨rfl, rfl, rfl, rfl, trivial⟩, rfl, h082⟩ ?_
  rintro ⟨l_13, k_14, w15⟩ a80 w_ ⟨hA80, hw_, hJ84⟩
  have hw_ : w15 = w_ := hw_.symm
  subst hw_
  have ht83 := ht81 l_13 k_14 _ hJ84
  refine wp_seq ?_
  refine wp_seq ?_
  refine wp_region_lit ?_
  refine sq (opk_val hA80 rfl (r_move (hA80.get rfl)) fun a85 hA85 _ => ?_)
  refine sq (opk_val hA85 rfl (r_move (hA85.get rfl)) fun a86 hA86 _ => ?_)
  refine sq (opk_val hA86 rfl (r_move (hA86.get rfl)) fun a87 hA87 _ => ?_)
  refine sq (opk_val hA87 rfl (r_move (hA87.get rfl)) fun a88 hA88 _ => ?_)
  obtain ⟨hb90, p_89, hp91, ht92⟩ := ht83
  refine sq (opk_val hA88 rfl (r_indexAddr (hA88.get rfl) (hA88.get rfl) Try.underlying79 ti_86 hb90 hp91) fun a93 hA93 _ => ?_)
  refine sq (opk_val hA93 rfl (r_fieldAddr (hA93.get rfl) Try.underlying86 rfl ti_3 (by decide)) fun a94 hA94 _ => ?_)
  obtain ⟨x_96, hx97, ht98⟩ := ht92
  refine sq (opk_val hA94 rfl (r_load1 Try.underlying3 rfl (hA94.get rfl) hx97) fun a95 hA95 _ => ?_)
  obtain ⟨hS100, ht101⟩ := ht98
  refine sq (opk_val hA95 rfl (r_addI (hA95.get rfl) (hA95.get rfl) hS100) fun a99 hA99 _ => ?_)
  refine sq (opk_val hA99 rfl (r_lss (hA99.get rfl) (hA99.get rfl)) fun a102 hA102 _ => ?_)
  refine sq_end ?_
  have hA103 := hA102.keep [(0, Sl.v a_1), (1, .int .i64 id_2), (5, Sl.v l_13), (6, .int .i64 k_14), (17, .bool (decide (k_14 < (id_2 + x_96))))] ⟨rfl, rfl, rfl, rfl, rfl, trivial⟩
  refine then_normal ?_
  refine wp_cond_split (hA103.get rfl) (fun hc => ?_) (fun hc => ?_)
  · have ht104 := ht101.1 (of_decide_eq_true hc)
    clear hc
    refine wp_skip ?_
    refine then_normal ?_
    refine wp_seq ?_
    refine wp_block ?_
    refine wp_region_lit ?_
    refine sq (opk_val hA103 rfl (r_move (hA103.get rfl)) fun a106 hA106 _ => ?_)
    refine sq (opk_val hA106 rfl (r_move (hA106.get rfl)) fun a107 hA107 _ => ?_)
    refine sq (opk_new (fun B => .slice (some ⟨B, 0, none⟩) 1 1) hA107 rfl (r_buildSlice (vs := #[(0, .int .i64 k_14)]) (cs := [.int .i64 k_14]) (map_arr2 (ml2_cons (hA107.get rfl) (ml2_nil))) Try.underlying22 ti_3 rfl rfl (by kernel_rfl)) fun a110 w109 B_108 hE111 hN112 hB113 hA110 _ => ?_)
    have hN114 : New w15 B_108 w109 := hN112
    have hC115 : Chg [] w15 w109 := hE111
    have ht116 := ht104 w109 B_108 hN114  hC115
    have ht117 := ht116 hB113
    refine sq (opk_run hA110 rfl (fun _ _ hr => r_append (hA110.get rfl) (hA110.get rfl) hr) ht117 fun a118 v124 w119 hA118 _ hn121 hz122 hK123 => ?_)
    obtain ⟨r_125, rfl, ht120⟩ := hK123
    refine sq (opk_val hA118 rfl (r_assign (hA118.get rfl)) fun a126 hA126 _ => ?_)
    refine sq_end ?_
    have hA127 := hA126.keep [(0, Sl.v a_1), (1, .int .i64 id_2), (5, Sl.v r_125), (6, .int .i64 k_14)] ⟨rfl, rfl, rfl, rfl, trivial⟩
    refine block_normal ?_
    refine then_normal ?_
    refine wp_region_lit ?_
    refine sq (opk_val hA127 rfl (r_move (hA127.get rfl)) fun a128 hA128 _ => ?_)
    refine sq (opk_val hA128 rfl (r_move (hA128.get rfl)) fun a129 hA129 _ => ?_)
    refine sq (opk_val hA129 rfl (r_move (hA129.get rfl)) fun a130 hA130 _ => ?_)
    obtain ⟨hb132, p_131, hp133, ht134⟩ := ht120
    refine sq (opk_val hA130 rfl (r_indexAddr (hA130.get rfl) (hA130.get rfl) Try.underlying79 ti_86 hb132 hp133) fun a135 hA135 _ => ?_)
    refine sq (opk_val hA135 rfl (r_fieldAddr (hA135.get rfl) Try.underlying86 rfl ti_3 (by decide)) fun a136 hA136 _ => ?_)
    obtain ⟨x_138, hx139, ht140⟩ := ht134
    refine sq (opk_val hA136 rfl (r_load1 Try.underlying3 rfl (hA136.get rfl) hx139) fun a137 hA137 _ => ?_)
    obtain ⟨hS142, ht143⟩ := ht140
    refine sq (opk_val hA137 rfl (r_addI (hA137.get rfl) (hA137.get rfl) hS142) fun a141 hA141 _ => ?_)
    refine sq (opk_val hA141 rfl (r_assign (hA141.get rfl)) fun a144 hA144 _ => ?_)
    refine sq_end ?_
    have hA145 := hA144.keep [(0, Sl.v a_1), (1, .int .i64 id_2), (5, Sl.v r_125), (6, .int .i64 (k_14 + x_138))] ⟨rfl, rfl, rfl, rfl, trivial⟩
    have hA146 := hA145.keep [(0, Sl.v a_1), (1, .int .i64 id_2), (5, Sl.v r_125), (6, .int .i64 (k_14 + x_138))] ⟨rfl, rfl, rfl, rfl, trivial⟩
    exact then_normal ⟨(r_125, k_14 + x_138, w119), ⟨hA146, rfl, ht143.1⟩, ht143.2⟩
  · have ht105 := ht101.2 (of_decide_eq_false hc)
    clear hc
    refine wp_exit ?_
    refine then_exit ?_
    refine then_exit ?_
    refine block_hit ?_
    have hA147 := hA103.keep [(5, Sl.v l_13)] ⟨rfl, trivial⟩
    refine then_normal ?_
    refine wp_seq ?_
    refine wp_region_lit ?_
    refine sq (opk_val hA147 rfl (r_move (hA147.get rfl)) fun a148 hA148 _ => ?_)
    refine sq (opk_val hA148 rfl (r_assign (hA148.get rfl)) fun a149 hA149 _ => ?_)
    refine sq_end ?_
    have hA150 := hA149.keep [(4, Sl.v l_13)] ⟨rfl, trivial⟩
    refine then_normal ?_
    refine wp_ret ?_
    exact res_all (vs := [Sl.v l_13]) rfl hA150 ⟨res_of_tmp hA150 rfl, trivial⟩ ht105

end Go.Proofs.Yteohbfaechfliaa
