/-
  PRINTED BY PROGRAM: for each function its condition (vc), and that this suffices (ok).
-/
import Derived.Test.YteohbfaechfliaaGT
namespace Go.Proofs.Yteohbfaechfliaa
open Go.RowKit
set_option linter.unusedVariables false

/-- The condition of topiary/topiaryref05.Size. -/
def ref05_Size.vc (t_1_Kind : Int) (t_1_Name : Str) (t_1_Text : Str) (t_1_Attrs : Sl) (t_1_Kids : Sl) (R : Value → World → Prop) (w : World) : Prop :=
∀ (w3 : World) (B_2 : Nat), New w B_2 w3 → Chg [] w w3 →
∃ (J_19 : Int → Int → World → Prop) (mu_20 : Int → Int → World → Nat),
J_19 1 0 w3 ∧
(∀ (n_16 : Int) (i_17 : Int) (w18 : World), J_19 n_16 i_17 w18 →
((i_17 < (t_1_Kids.n : Int)) →
((0 : Int) ≤ i_17 ∧ i_17 < (t_1_Kids.n : Int)) ∧ ∃ p_83 : Addr, t_1_Kids.a = some p_83 ∧
∃ (x_89_Kind : Int) (x_89_Name : Str) (x_89_Text : Str) (x_89_Attrs : Sl) (x_89_Kids : Sl), (Cells w18 (p_83.add (i_17.toNat * 5)) [.int .i64 x_89_Kind, .string (Bs x_89_Name), .string (Bs x_89_Text), Sl.v x_89_Attrs, Sl.v x_89_Kids]) ∧
CallK Try.prog 15 #[.agg #[.int .i64 x_89_Kind, .string (Bs x_89_Name), .string (Bs x_89_Text), Sl.v x_89_Attrs, Sl.v x_89_Kids]] w18 [B_2] (fun v w94 => ∃ (r_92 : Int), v = .int .i64 r_92 ∧
(I64 (n_16 + r_92)) ∧
(I64 (i_17 + 1)) ∧
J_19 (n_16 + r_92) (i_17 + 1) w94 ∧ mu_20 (n_16 + r_92) (i_17 + 1) w94 < mu_20 n_16 i_17 w18)) ∧
((¬ (i_17 < (t_1_Kids.n : Int))) →
R (.int .i64 n_16) w18))
set_option maxHeartbeats 1000000 in
set_option maxRecDepth 10000 in
theorem ref05_Size.ok (t_1_Kind : Int) (t_1_Name : Str) (t_1_Text : Str) (t_1_Attrs : Sl) (t_1_Kids : Sl) {R : Value → World → Prop} {w : World} (ht0 : ref05_Size.vc t_1_Kind t_1_Name t_1_Text t_1_Attrs t_1_Kids R w) : Calls Try.prog 15 #[.agg #[.int .i64 t_1_Kind, .string (Bs t_1_Name), .string (Bs t_1_Text), Sl.v t_1_Attrs, Sl.v t_1_Kids]] w (Ret R) := by
  refine enter [.agg #[.int .i64 t_1_Kind, .string (Bs t_1_Name), .string (Bs t_1_Text), Sl.v t_1_Attrs, Sl.v t_1_Kids]] Try.func15 rfl Try.ntmps15 rfl ?_
  intro a0 hA0
  unfold ref05_Size.vc at ht0
  refine wp_seq ?_
  refine wp_region_lit ?_
  refine sq (opk_new (fun B => .pointer (some ⟨B, 0, none⟩)) hA0 rfl (r_box (cs := [.int .i64 t_1_Kind, .string (Bs t_1_Name), .string (Bs t_1_Text), Sl.v t_1_Attrs, Sl.v t_1_Kids]) (hA0.get rfl) rfl) fun a4 w3 B_2 hE5 hN6 hB7 hA4 _ => ?_)
  have hN8 : New w B_2 w3 := hN6
  have hC9 : Chg [] w w3 := hE5
  refine sq (opk_val hA4 rfl (r_assign rfl) fun a10 hA10 _ => ?_)
  refine sq_end ?_
  have hA11 := hA10.keep [(1, .pointer (some (⟨B_2, 0, none⟩ : Addr)))] ⟨rfl, trivial⟩
  refine then_normal ?_
  refine wp_seq ?_
  refine wp_region_lit ?_
  refine sq (opk_val hA11 rfl (r_assign rfl) fun a12 hA12 _ => ?_)
  refine sq_end ?_
  have hA13 := hA12.keep [(1, .pointer (some (⟨B_2, 0, none⟩ : Addr))), (3, .int .i64 1)] ⟨rfl, rfl, trivial⟩
  refine then_normal ?_
  refine wp_seq ?_
  refine wp_seq ?_
  refine wp_region_lit ?_
  refine sq (opk_val hA13 rfl (r_assign rfl) fun a14 hA14 _ => ?_)
  refine sq_end ?_
  have hA15 := hA14.keep [(1, .pointer (some (⟨B_2, 0, none⟩ : Addr))), (3, .int .i64 1), (4, .int .i64 0)] ⟨rfl, rfl, rfl, trivial⟩
  refine then_normal ?_
  refine wp_block ?_
  have ht64 := ht0 w3 B_2 hN8  hC9
  obtain ⟨J_19, mu_20, h068, ht67⟩ := ht64
  refine wp_loop_st (σ := Int × Int × World) (fun s a w => Ag 21 a [(1, .pointer (some (⟨B_2, 0, none⟩ : Addr))), (3, .int .i64 s.1), (4, .int .i64 s.2.1)] ∧ Box w B_2 26 [.int .i64 t_1_Kind, .string (Bs t_1_Name), .string (Bs t_1_Text), Sl.v t_1_Attrs, Sl.v t_1_Kids] ∧ w = s.2.2 ∧ J_19 s.1 s.2.1 s.2.2) (fun s => mu_20 s.1 s.2.1 s.2.2) (1, 0, w3) ⟨hA15.keep [(1, .pointer (some (⟨B_2, 0, none⟩ : Addr))), (3, .int .i64 1), (4, .int .i64 0)] ⟨rfl, rfl, rfl, trivial⟩, hB7, rfl, h068⟩ ?_
  rintro ⟨n_16, i_17, w18⟩ a65 w_ ⟨hA65, hB66, hw_, hJ70⟩
  have hw_ : w18 = w_ := hw_.symm
  subst hw_
  have ht69 := ht67 n_16 i_17 _ hJ70
  refine wp_seq ?_
  refine wp_seq ?_
  refine wp_region_lit ?_
  refine sq (opk_val hA65 rfl (r_move (hA65.get rfl)) fun a71 hA71 _ => ?_)
  refine sq (opk_val hA71 rfl (r_fieldAddr (hA71.get rfl) Try.underlying26 rfl ti_24 (by decide)) fun a72 hA72 _ => ?_)
  refine sq (opk_val hA72 rfl (r_load1 Try.underlying24 rfl (hA72.get rfl) (hB66.cell 4 _ rfl)) fun a73 hA73 _ => ?_)
  refine sq (opk_val hA73 rfl (r_len (hA73.get rfl) Try.underlying24) fun a74 hA74 _ => ?_)
  refine sq (opk_val hA74 rfl (r_lss (hA74.get rfl) (hA74.get rfl)) fun a75 hA75 _ => ?_)
  refine sq_end ?_
  have hA76 := hA75.keep [(1, .pointer (some (⟨B_2, 0, none⟩ : Addr))), (3, .int .i64 n_16), (4, .int .i64 i_17), (9, .bool (decide (i_17 < (t_1_Kids.n : Int))))] ⟨rfl, rfl, rfl, rfl, trivial⟩
  refine then_normal ?_
  refine wp_cond_split (hA76.get rfl) (fun hc => ?_) (fun hc => ?_)
  · have ht77 := ht69.1 (of_decide_eq_true hc)
    clear hc
    refine wp_skip ?_
    refine then_normal ?_
    refine wp_seq ?_
    refine wp_block ?_
    refine wp_region_lit ?_
    refine sq (opk_val hA76 rfl (r_move (hA76.get rfl)) fun a79 hA79 _ => ?_)
    refine sq (opk_val hA79 rfl (r_fieldAddr (hA79.get rfl) Try.underlying26 rfl ti_24 (by decide)) fun a80 hA80 _ => ?_)
    refine sq (opk_val hA80 rfl (r_load1 Try.underlying24 rfl (hA80.get rfl) (hB66.cell 4 _ rfl)) fun a81 hA81 _ => ?_)
    refine sq (opk_val hA81 rfl (r_move (hA81.get rfl)) fun a82 hA82 _ => ?_)
    obtain ⟨hb84, p_83, hp85, ht86⟩ := ht77
    refine sq (opk_val hA82 rfl (r_indexAddr (hA82.get rfl) (hA82.get rfl) Try.underlying24 ti_26 hb84 hp85) fun a87 hA87 _ => ?_)
    obtain ⟨x_89_Kind, x_89_Name, x_89_Text, x_89_Attrs, x_89_Kids, hx90, ht91⟩ := ht86
    refine sq (opk_val hA87 rfl (r_loadN Try.underlying26 rfl ti_26 (hA87.get rfl) hx90) fun a88 hA88 _ => ?_)
    refine sq (opk_call hA88 rfl (r_call (args := #[.agg #[.int .i64 x_89_Kind, .string (Bs x_89_Name), .string (Bs x_89_Text), Sl.v x_89_Attrs, Sl.v x_89_Kids]]) Try.func15 (by decide) rfl (map_arr (ml_cons (hA88.get rfl) ml_nil)) rfl) ht91 fun a93 v99 w94 hA93 _ hn96 hz97 hK98 => ?_)
    obtain ⟨r_92, rfl, ht95⟩ := hK98
    have hB100 := hB66.kept hn96 (.head _)
    obtain ⟨hS102, ht103⟩ := ht95
    refine sq (opk_val hA93 rfl (r_addI (hA93.get rfl) (hA93.get rfl) hS102) fun a101 hA101 _ => ?_)
    refine sq (opk_val hA101 rfl (r_assign (hA101.get rfl)) fun a104 hA104 _ => ?_)
    refine sq_end ?_
    have hA105 := hA104.keep [(1, .pointer (some (⟨B_2, 0, none⟩ : Addr))), (3, .int .i64 (n_16 + r_92)), (4, .int .i64 i_17)] ⟨rfl, rfl, rfl, trivial⟩
    refine block_normal ?_
    refine then_normal ?_
    refine wp_region_lit ?_
    refine sq (opk_val hA105 rfl (r_move (hA105.get rfl)) fun a106 hA106 _ => ?_)
    obtain ⟨hS108, ht109⟩ := ht103
    refine sq (opk_val hA106 rfl (r_addI (hA106.get rfl) rfl hS108) fun a107 hA107 _ => ?_)
    refine sq (opk_val hA107 rfl (r_assign (hA107.get rfl)) fun a110 hA110 _ => ?_)
    refine sq_end ?_
    have hA111 := hA110.keep [(1, .pointer (some (⟨B_2, 0, none⟩ : Addr))), (3, .int .i64 (n_16 + r_92)), (4, .int .i64 (i_17 + 1))] ⟨rfl, rfl, rfl, trivial⟩
    have hA112 := hA111.keep [(1, .pointer (some (⟨B_2, 0, none⟩ : Addr))), (3, .int .i64 (n_16 + r_92)), (4, .int .i64 (i_17 + 1))] ⟨rfl, rfl, rfl, trivial⟩
    exact then_normal ⟨(n_16 + r_92, i_17 + 1, w94), ⟨hA112, hB100, rfl, ht109.1⟩, ht109.2⟩
  · have ht78 := ht69.2 (of_decide_eq_false hc)
    clear hc
    refine wp_exit ?_
    refine then_exit ?_
    refine then_exit ?_
    refine block_hit ?_
    have hA113 := hA76.keep [(3, .int .i64 n_16)] ⟨rfl, trivial⟩
    refine then_normal ?_
    refine wp_seq ?_
    refine wp_region_lit ?_
    refine sq (opk_val hA113 rfl (r_move (hA113.get rfl)) fun a114 hA114 _ => ?_)
    refine sq (opk_val hA114 rfl (r_assign (hA114.get rfl)) fun a115 hA115 _ => ?_)
    refine sq_end ?_
    have hA116 := hA115.keep [(2, .int .i64 n_16)] ⟨rfl, trivial⟩
    refine then_normal ?_
    refine wp_ret ?_
    exact res_all (vs := [.int .i64 n_16]) rfl hA116 ⟨res_of_tmp hA116 rfl, trivial⟩ ht78

end Go.Proofs.Yteohbfaechfliaa
