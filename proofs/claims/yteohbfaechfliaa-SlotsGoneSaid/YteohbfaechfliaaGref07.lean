/-
  PRINTED BY PROGRAM: for each function its condition (vc), and that this suffices (ok).
-/
import Derived.Test.YteohbfaechfliaaGT
namespace Go.Proofs.Yteohbfaechfliaa
open Go.RowKit
set_option linter.unusedVariables false

/-- The condition of topiary/topiaryref07.Flat. -/
def ref07_Flat.vc (t_1_Kind : Int) (t_1_Name : Str) (t_1_Text : Str) (t_1_Attrs : Sl) (t_1_Kids : Sl) (R : Value → World → Prop) (w : World) : Prop :=
∀ (w3 : World) (B_2 : Nat), New w B_2 w3 → Chg [] w w3 →
CallK Try.prog 35 #[Sl.v Sl.nil, .agg #[.int .i64 t_1_Kind, .string (Bs t_1_Name), .string (Bs t_1_Text), Sl.v t_1_Attrs, Sl.v t_1_Kids], .int .i64 (-1), .int .i64 0, .int .i64 0] w3 [B_2] (fun v w16 => ∃ (r_14 : Sl), v = Sl.v r_14 ∧
R (Sl.v r_14) w16)
set_option maxHeartbeats 1000000 in
set_option maxRecDepth 10000 in
theorem ref07_Flat.ok (t_1_Kind : Int) (t_1_Name : Str) (t_1_Text : Str) (t_1_Attrs : Sl) (t_1_Kids : Sl) {R : Value → World → Prop} {w : World} (ht0 : ref07_Flat.vc t_1_Kind t_1_Name t_1_Text t_1_Attrs t_1_Kids R w) : Calls Try.prog 11 #[.agg #[.int .i64 t_1_Kind, .string (Bs t_1_Name), .string (Bs t_1_Text), Sl.v t_1_Attrs, Sl.v t_1_Kids]] w (Ret R) := by
  refine enter [.agg #[.int .i64 t_1_Kind, .string (Bs t_1_Name), .string (Bs t_1_Text), Sl.v t_1_Attrs, Sl.v t_1_Kids]] Try.func11 rfl Try.ntmps11 rfl ?_
  intro a0 hA0
  unfold ref07_Flat.vc at ht0
  refine wp_seq ?_
  refine wp_region_lit ?_
  refine sq (opk_new (fun B => .pointer (some ⟨B, 0, none⟩)) hA0 rfl (r_box (cs := [.int .i64 t_1_Kind, .string (Bs t_1_Name), .string (Bs t_1_Text), Sl.v t_1_Attrs, Sl.v t_1_Kids]) (hA0.get rfl) rfl) fun a4 w3 B_2 hE5 hN6 hB7 hA4 _ => ?_)
  have hN8 : New w B_2 w3 := hN6
  have hC9 : Chg [] w w3 := hE5
  refine sq (opk_val hA4 rfl (r_assign rfl) fun a10 hA10 _ => ?_)
  refine sq_end ?_
  have hA11 := hA10.keep [(1, .pointer (some (⟨B_2, 0, none⟩ : Addr)))] ⟨rfl, trivial⟩
  refine then_normal ?_
  refine wp_seq ?_
  refine wp_region_lit ?_
  refine sq (opk_val hA11 rfl (r_loadN (cs := [.int .i64 t_1_Kind, .string (Bs t_1_Name), .string (Bs t_1_Text), Sl.v t_1_Attrs, Sl.v t_1_Kids]) Try.underlying26 rfl ti_26 (hA11.get rfl) (hB7.part 0 _ rfl)) fun a12 hA12 _ => ?_)
  have ht13 := ht0 w3 B_2 hN8  hC9
  refine sq (opk_call hA12 rfl (r_call (args := #[Sl.v Sl.nil, .agg #[.int .i64 t_1_Kind, .string (Bs t_1_Name), .string (Bs t_1_Text), Sl.v t_1_Attrs, Sl.v t_1_Kids], .int .i64 (-1), .int .i64 0, .int .i64 0]) Try.func35 (by decide) rfl (map_arr (ml_cons rfl (ml_cons (hA12.get rfl) (ml_cons rfl (ml_cons rfl (ml_cons rfl ml_nil)))))) rfl) ht13 fun a15 v21 w16 hA15 _ hn18 hz19 hK20 => ?_)
  obtain ⟨r_14, rfl, ht17⟩ := hK20
  have hB22 := hB7.kept hn18 (.head _)
  refine sq (opk_val hA15 rfl (r_assign (hA15.get rfl)) fun a23 hA23 _ => ?_)
  refine sq_end ?_
  have hA24 := hA23.keep [(2, Sl.v r_14)] ⟨rfl, trivial⟩
  refine then_normal ?_
  refine wp_ret ?_
  exact res_all (vs := [Sl.v r_14]) rfl hA24 ⟨res_of_tmp hA24 rfl, trivial⟩ ht17

/-- The condition of topiary/topiaryref07.Kids. -/
def ref07_Kids.vc (l_1 : Sl) (id_2 : Int) (R : Value → World → Prop) (w : World) : Prop :=
(I64 (id_2 + 1)) ∧
∃ (J_16 : Sl → Int → World → Prop) (mu_17 : Sl → Int → World → Nat),
J_16 Sl.nil (id_2 + 1) w ∧
(∀ (m_13 : Sl) (k_14 : Int) (w15 : World), J_16 m_13 k_14 w15 →
((0 : Int) ≤ id_2 ∧ id_2 < (l_1.n : Int)) ∧ ∃ p_89 : Addr, l_1.a = some p_89 ∧
∃ (x_96 : Int), (w15.cell? ((p_89.add (id_2.toNat * 15)).add 1) = some (.int .i64 x_96)) ∧
(I64 (id_2 + x_96)) ∧
((k_14 < (id_2 + x_96)) →
∀ (w109 : World) (B_108 : Nat), New w15 B_108 w109 → Chg [] w15 w109 →
∀ (_ : Box w109 B_108 3 [.int .i64 k_14]),
RunK Try.prog (Builtin.append_ #[22, 22] 22 #[Sl.v m_13, Sl.v (Sl.mk (some ⟨B_108, 0, none⟩) 1 1)]) w109 [] (fun v w119 => ∃ (r_125 : Sl), v = Sl.v r_125 ∧
((0 : Int) ≤ k_14 ∧ k_14 < (l_1.n : Int)) ∧ ∃ p_131 : Addr, l_1.a = some p_131 ∧
∃ (x_138 : Int), (w119.cell? ((p_131.add (k_14.toNat * 15)).add 1) = some (.int .i64 x_138)) ∧
(I64 (k_14 + x_138)) ∧
J_16 r_125 (k_14 + x_138) w119 ∧ mu_17 r_125 (k_14 + x_138) w119 < mu_17 m_13 k_14 w15)) ∧
((¬ (k_14 < (id_2 + x_96))) →
R (Sl.v m_13) w15))
set_option maxHeartbeats 1000000 in
set_option maxRecDepth 10000 in
theorem ref07_Kids.ok (l_1 : Sl) (id_2 : Int) {R : Value → World → Prop} {w : World} (ht0 : ref07_Kids.vc l_1 id_2 R w) : Calls Try.prog 17 #[Sl.v l_1, .int .i64 id_2] w (Ret R) := by
  refine enter [Sl.v l_1, .int .i64 id_2] Try.func17 rfl Try.ntmps17 rfl ?_
  intro a0 hA0
  unfold ref07_Kids.vc at ht0
  refine wp_seq ?_
  refine wp_region_lit ?_
  refine sq (opk_val hA0 rfl (r_assign rfl) fun a3 hA3 _ => ?_)
  refine sq_end ?_
  have hA4 := hA3.keep [(0, Sl.v l_1), (1, .int .i64 id_2)] ⟨rfl, rfl, trivial⟩
  refine then_normal ?_
  refine wp_seq ?_
  refine wp_region_lit ?_
  refine sq (opk_val hA4 rfl (r_assign rfl) fun a5 hA5 _ => ?_)
  refine sq_end ?_
  have hA6 := hA5.keep [(0, Sl.v l_1), (1, .int .i64 id_2), (5, Sl.v Sl.nil)] ⟨rfl, rfl, rfl, trivial⟩
  refine then_normal ?_
  refine wp_seq ?_
  refine wp_seq ?_
  refine wp_region_lit ?_
  refine sq (opk_val hA6 rfl (r_move (hA6.get rfl)) fun a7 hA7 _ => ?_)
  obtain ⟨hS9, ht10⟩ := ht0
  refine sq (opk_val hA7 rfl (r_addI (hA7.get rfl) rfl hS9) fun a8 hA8 _ => ?_)
  refine sq (opk_val hA8 rfl (r_assign (hA8.get rfl)) fun a11 hA11 _ => ?_)
  refine sq_end ?_
  have hA12 := hA11.keep [(0, Sl.v l_1), (1, .int .i64 id_2), (5, Sl.v Sl.nil), (6, .int .i64 (id_2 + 1))] ⟨rfl, rfl, rfl, rfl, trivial⟩
  refine then_normal ?_
  refine wp_block ?_
  obtain ⟨J_16, mu_17, h082, ht81⟩ := ht10
  refine wp_loop_st (σ := Sl × Int × World) (fun s a w => Ag 30 a [(0, Sl.v l_1), (1, .int .i64 id_2), (5, Sl.v s.1), (6, .int .i64 s.2.1)] ∧ w = s.2.2 ∧ J_16 s.1 s.2.1 s.2.2) (fun s => mu_17 s.1 s.2.1 s.2.2) (Sl.nil, id_2 + 1, w) ⟨hA12.keep [(0, Sl.v l_1), (1, .int .i64 id_2), (5, Sl.v Sl.nil), (6, .int .i64 (id_2 + 1))] ⟨rfl, rfl, rfl, rfl, trivial⟩, rfl, h082⟩ ?_
  rintro ⟨m_13, k_14, w15⟩ a80 w_ ⟨hA80, hw_, hJ84⟩
  have hw_ : w15 = w_ := hw_.symm
  subst hw_
  have ht83 := ht81 m_13 k_14 _ hJ84
  refine wp_seq ?_
  refine wp_seq ?_
  refine wp_region_lit ?_
  refine sq (opk_val hA80 rfl (r_move (hA80.get rfl)) fun a85 hA85 _ => ?_)
  refine sq (opk_val hA85 rfl (r_move (hA85.get rfl)) fun a86 hA86 _ => ?_)
  refine sq (opk_val hA86 rfl (r_move (hA86.get rfl)) fun a87 hA87 _ => ?_)
  refine sq (opk_val hA87 rfl (r_move (hA87.get rfl)) fun a88 hA88 _ => ?_)
  obtain ⟨hb90, p_89, hp91, ht92⟩ := ht83
  refine sq (opk_val hA88 rfl (r_indexAddr (hA88.get rfl) (hA88.get rfl) Try.underlying31 ti_38 hb90 hp91) fun a93 hA93 _ => ?_)
  refine sq (opk_val hA93 rfl (r_fieldAddr (hA93.get rfl) Try.underlying38 rfl ti_3 (by decide)) fun a94 hA94 _ => ?_)
  obtain ⟨x_96, hx97, ht98⟩ := ht92
  refine sq (opk_val hA94 rfl (r_load1 Try.underlying3 rfl (hA94.get rfl) hx97) fun a95 hA95 _ => ?_)
  obtain ⟨hS100, ht101⟩ := ht98
  refine sq (opk_val hA95 rfl (r_addI (hA95.get rfl) (hA95.get rfl) hS100) fun a99 hA99 _ => ?_)
  refine sq (opk_val hA99 rfl (r_lss (hA99.get rfl) (hA99.get rfl)) fun a102 hA102 _ => ?_)
  refine sq_end ?_
  have hA103 := hA102.keep [(0, Sl.v l_1), (1, .int .i64 id_2), (5, Sl.v m_13), (6, .int .i64 k_14), (17, .bool (decide (k_14 < (id_2 + x_96))))] ⟨rfl, rfl, rfl, rfl, rfl, trivial⟩
  refine then_normal ?_
  refine wp_cond_split (hA103.get rfl) (fun hc => ?_) (fun hc => ?_)
  · have ht104 := ht101.1 (of_decide_eq_true hc)
    clear hc
    refine wp_skip ?_
    refine then_normal ?_
    refine wp_seq ?_
    refine wp_block ?_
    refine wp_region_lit ?_
    refine sq (opk_val hA103 rfl (r_move (hA103.get rfl)) fun a106 hA106 _ => ?_)
    refine sq (opk_val hA106 rfl (r_move (hA106.get rfl)) fun a107 hA107 _ => ?_)
    refine sq (opk_new (fun B => .slice (some ⟨B, 0, none⟩) 1 1) hA107 rfl (r_buildSlice (vs := #[(0, .int .i64 k_14)]) (cs := [.int .i64 k_14]) (map_arr2 (ml2_cons (hA107.get rfl) (ml2_nil))) Try.underlying22 ti_3 rfl rfl (by kernel_rfl)) fun a110 w109 B_108 hE111 hN112 hB113 hA110 _ => ?_)
    have hN114 : New w15 B_108 w109 := hN112
    have hC115 : Chg [] w15 w109 := hE111
    have ht116 := ht104 w109 B_108 hN114  hC115
    have ht117 := ht116 hB113
    refine sq (opk_run hA110 rfl (fun _ _ hr => r_append (hA110.get rfl) (hA110.get rfl) hr) ht117 fun a118 v124 w119 hA118 _ hn121 hz122 hK123 => ?_)
    obtain ⟨r_125, rfl, ht120⟩ := hK123
    refine sq (opk_val hA118 rfl (r_assign (hA118.get rfl)) fun a126 hA126 _ => ?_)
    refine sq_end ?_
    have hA127 := hA126.keep [(0, Sl.v l_1), (1, .int .i64 id_2), (5, Sl.v r_125), (6, .int .i64 k_14)] ⟨rfl, rfl, rfl, rfl, trivial⟩
    refine block_normal ?_
    refine then_normal ?_
    refine wp_region_lit ?_
    refine sq (opk_val hA127 rfl (r_move (hA127.get rfl)) fun a128 hA128 _ => ?_)
    refine sq (opk_val hA128 rfl (r_move (hA128.get rfl)) fun a129 hA129 _ => ?_)
    refine sq (opk_val hA129 rfl (r_move (hA129.get rfl)) fun a130 hA130 _ => ?_)
    obtain ⟨hb132, p_131, hp133, ht134⟩ := ht120
    refine sq (opk_val hA130 rfl (r_indexAddr (hA130.get rfl) (hA130.get rfl) Try.underlying31 ti_38 hb132 hp133) fun a135 hA135 _ => ?_)
    refine sq (opk_val hA135 rfl (r_fieldAddr (hA135.get rfl) Try.underlying38 rfl ti_3 (by decide)) fun a136 hA136 _ => ?_)
    obtain ⟨x_138, hx139, ht140⟩ := ht134
    refine sq (opk_val hA136 rfl (r_load1 Try.underlying3 rfl (hA136.get rfl) hx139) fun a137 hA137 _ => ?_)
    obtain ⟨hS142, ht143⟩ := ht140
    refine sq (opk_val hA137 rfl (r_addI (hA137.get rfl) (hA137.get rfl) hS142) fun a141 hA141 _ => ?_)
    refine sq (opk_val hA141 rfl (r_assign (hA141.get rfl)) fun a144 hA144 _ => ?_)
    refine sq_end ?_
    have hA145 := hA144.keep [(0, Sl.v l_1), (1, .int .i64 id_2), (5, Sl.v r_125), (6, .int .i64 (k_14 + x_138))] ⟨rfl, rfl, rfl, rfl, trivial⟩
    have hA146 := hA145.keep [(0, Sl.v l_1), (1, .int .i64 id_2), (5, Sl.v r_125), (6, .int .i64 (k_14 + x_138))] ⟨rfl, rfl, rfl, rfl, trivial⟩
    exact then_normal ⟨(r_125, k_14 + x_138, w119), ⟨hA146, rfl, ht143.1⟩, ht143.2⟩
  · have ht105 := ht101.2 (of_decide_eq_false hc)
    clear hc
    refine wp_exit ?_
    refine then_exit ?_
    refine then_exit ?_
    refine block_hit ?_
    have hA147 := hA103.keep [(5, Sl.v m_13)] ⟨rfl, trivial⟩
    refine then_normal ?_
    refine wp_seq ?_
    refine wp_region_lit ?_
    refine sq (opk_val hA147 rfl (r_move (hA147.get rfl)) fun a148 hA148 _ => ?_)
    refine sq (opk_val hA148 rfl (r_assign (hA148.get rfl)) fun a149 hA149 _ => ?_)
    refine sq_end ?_
    have hA150 := hA149.keep [(4, Sl.v m_13)] ⟨rfl, trivial⟩
    refine then_normal ?_
    refine wp_ret ?_
    exact res_all (vs := [Sl.v m_13]) rfl hA150 ⟨res_of_tmp hA150 rfl, trivial⟩ ht105

/-- The condition of topiary/topiaryref07.flat. -/
def ref07_flat.vc (l_1 : Sl) (t_2_Kind : Int) (t_2_Name : Str) (t_2_Text : Str) (t_2_Attrs : Sl) (t_2_Kids : Sl) (parent_3 : Int) (depth_4 : Int) (place_5 : Int) (R : Value → World → Prop) (w : World) : Prop :=
∀ (w20 : World) (B_6 : Nat), New w B_6 w20 → Chg [] w w20 →
∃ V_28 : Int → Str → Str → Sl → Sl → World → Prop, (∀ r_27_Kind : Int, ∀ r_27_Name : Str, ∀ r_27_Text : Str, ∀ r_27_Attrs : Sl, ∀ r_27_Kids : Sl, ∀ w' w'' : World, Ext w' w'' → V_28 r_27_Kind r_27_Name r_27_Text r_27_Attrs r_27_Kids w' → V_28 r_27_Kind r_27_Name r_27_Text r_27_Attrs r_27_Kids w'') ∧
(∀ w' : World, Ext w20 w' → Calls Try.prog 59 #[.agg #[.int .i64 t_2_Kind, .string (Bs t_2_Name), .string (Bs t_2_Text), Sl.v t_2_Attrs, Sl.v t_2_Kids]] w' (Ret fun v w'' => Ext w' w'' ∧ ∃ r_27_Kind : Int, ∃ r_27_Name : Str, ∃ r_27_Text : Str, ∃ r_27_Attrs : Sl, ∃ r_27_Kids : Sl, v = .agg #[.int .i64 r_27_Kind, .string (Bs r_27_Name), .string (Bs r_27_Text), Sl.v r_27_Attrs, Sl.v r_27_Kids] ∧ V_28 r_27_Kind r_27_Name r_27_Text r_27_Attrs r_27_Kids w'')) ∧
∀ (w46 : World) (r_27_Kind : Int) (r_27_Name : Str) (r_27_Text : Str) (r_27_Attrs : Sl) (r_27_Kids : Sl) (B_40 : Nat), Ext w20 w46 → V_28 r_27_Kind r_27_Name r_27_Text r_27_Attrs r_27_Kids w46 → w20.heap.size ≤ B_40 → Box w46 B_40 38 [.int .i64 parent_3, .int .i64 0, .int .i64 depth_4, .int .i64 0, .int .i64 place_5, .int .i64 r_27_Kind, .string (Bs r_27_Name), .string (Bs r_27_Text), Sl.v r_27_Attrs, Sl.v r_27_Kids, .int .i64 t_2_Kind, .string (Bs t_2_Name), .string (Bs t_2_Text), Sl.v t_2_Attrs, Sl.v t_2_Kids] → 
∀ (_ : Box w46 B_40 38 [.int .i64 parent_3, .int .i64 0, .int .i64 depth_4, .int .i64 0, .int .i64 place_5, .int .i64 r_27_Kind, .string (Bs r_27_Name), .string (Bs r_27_Text), Sl.v r_27_Attrs, Sl.v r_27_Kids, .int .i64 t_2_Kind, .string (Bs t_2_Name), .string (Bs t_2_Text), Sl.v t_2_Attrs, Sl.v t_2_Kids]),
RunK Try.prog (Builtin.append_ #[31, 31] 31 #[Sl.v l_1, Sl.v (Sl.mk (some ⟨B_40, 0, none⟩) 1 1)]) w46 [B_6] (fun v w64 => ∃ (r_70 : Sl), v = Sl.v r_70 ∧
∀ (w73 : World), Chg [] w64 w73 →
∃ (J_91 : Sl → Int → Int → World → Prop) (mu_92 : Sl → Int → Int → World → Nat),
J_91 r_70 0 0 w73 ∧
(∀ (l_87 : Sl) (h_88 : Int) (i_89 : Int) (w90 : World), J_91 l_87 h_88 i_89 w90 →
((i_89 < (t_2_Kids.n : Int)) →
((0 : Int) ≤ i_89 ∧ i_89 < (t_2_Kids.n : Int)) ∧ ∃ p_182 : Addr, t_2_Kids.a = some p_182 ∧
∃ (x_188_Kind : Int) (x_188_Name : Str) (x_188_Text : Str) (x_188_Attrs : Sl) (x_188_Kids : Sl), (Cells w90 (p_182.add (i_89.toNat * 5)) [.int .i64 x_188_Kind, .string (Bs x_188_Name), .string (Bs x_188_Text), Sl.v x_188_Attrs, Sl.v x_188_Kids]) ∧
(I64 (depth_4 + 1)) ∧
CallK Try.prog 35 #[Sl.v l_87, .agg #[.int .i64 x_188_Kind, .string (Bs x_188_Name), .string (Bs x_188_Text), Sl.v x_188_Attrs, Sl.v x_188_Kids], .int .i64 (l_1.n : Int), .int .i64 (depth_4 + 1), .int .i64 i_89] w90 [B_6] (fun v w199 => ∃ (r_197 : Sl), v = Sl.v r_197 ∧
((0 : Int) ≤ (l_87.n : Int) ∧ (l_87.n : Int) < (r_197.n : Int)) ∧ ∃ p_211 : Addr, r_197.a = some p_211 ∧
∃ (x_218 : Int), (w199.cell? ((p_211.add ((l_87.n : Int).toNat * 15)).add 3) = some (.int .i64 x_218)) ∧
(I64 (i_89 + 1)) ∧
J_91 r_197 (max h_88 x_218) (i_89 + 1) w199 ∧ mu_92 r_197 (max h_88 x_218) (i_89 + 1) w199 < mu_92 l_87 h_88 i_89 w90)) ∧
((¬ (i_89 < (t_2_Kids.n : Int))) →
(I64 ((l_87.n : Int) - (l_1.n : Int))) ∧
((0 : Int) ≤ (l_1.n : Int) ∧ (l_1.n : Int) < (l_87.n : Int)) ∧ ∃ p_240 : Addr, l_87.a = some p_240 ∧
∃ (B_250 o_251 : Nat) (T_252 : TypeId) (cs_253 : List Value), ((p_240.add ((l_1.n : Int).toNat * 15)).add 1) = ⟨B_250, o_251, none⟩ ∧ Box w90 B_250 T_252 cs_253 ∧ o_251 + 1 ≤ cs_253.length ∧ (∀ b ∈ [], b ≠ B_250) ∧
(∀ w246 : World, Chg [B_250] w90 w246 → Box w246 B_250 T_252 (putAt cs_253 o_251 [.int .i64 ((l_87.n : Int) - (l_1.n : Int))]) →
(I64 (h_88 + 1)) ∧
((0 : Int) ≤ (l_1.n : Int) ∧ (l_1.n : Int) < (l_87.n : Int)) ∧ ∃ p_267 : Addr, l_87.a = some p_267 ∧
∃ (B_277 o_278 : Nat) (T_279 : TypeId) (cs_280 : List Value), ((p_267.add ((l_1.n : Int).toNat * 15)).add 3) = ⟨B_277, o_278, none⟩ ∧ Box w246 B_277 T_279 cs_280 ∧ o_278 + 1 ≤ cs_280.length ∧ (∀ b ∈ [], b ≠ B_277) ∧
(∀ w273 : World, Chg [B_277] w246 w273 → Box w273 B_277 T_279 (putAt cs_280 o_278 [.int .i64 (h_88 + 1)]) →
R (Sl.v l_87) w273)))))
set_option maxHeartbeats 1000000 in
set_option maxRecDepth 10000 in
theorem ref07_flat.ok (l_1 : Sl) (t_2_Kind : Int) (t_2_Name : Str) (t_2_Text : Str) (t_2_Attrs : Sl) (t_2_Kids : Sl) (parent_3 : Int) (depth_4 : Int) (place_5 : Int) {R : Value → World → Prop} {w : World} (ht0 : ref07_flat.vc l_1 t_2_Kind t_2_Name t_2_Text t_2_Attrs t_2_Kids parent_3 depth_4 place_5 R w) : Calls Try.prog 35 #[Sl.v l_1, .agg #[.int .i64 t_2_Kind, .string (Bs t_2_Name), .string (Bs t_2_Text), Sl.v t_2_Attrs, Sl.v t_2_Kids], .int .i64 parent_3, .int .i64 depth_4, .int .i64 place_5] w (Ret R) := by
  refine enter [Sl.v l_1, .agg #[.int .i64 t_2_Kind, .string (Bs t_2_Name), .string (Bs t_2_Text), Sl.v t_2_Attrs, Sl.v t_2_Kids], .int .i64 parent_3, .int .i64 depth_4, .int .i64 place_5] Try.func35 rfl Try.ntmps35 rfl ?_
  intro a0 hA0
  unfold ref07_flat.vc at ht0
  refine wp_seq ?_
  refine wp_region_lit ?_
  refine sq (opk_new (fun B => .pointer (some ⟨B, 0, none⟩)) hA0 rfl (r_box (cs := [.int .i64 t_2_Kind, .string (Bs t_2_Name), .string (Bs t_2_Text), Sl.v t_2_Attrs, Sl.v t_2_Kids]) (hA0.get rfl) rfl) fun a8 w7 B_6 hE9 hN10 hB11 hA8 _ => ?_)
  have hN12 : New w B_6 w7 := hN10
  have hC13 : Chg [] w w7 := hE9
  refine sq (opk_val hA8 rfl (r_assign rfl) fun a14 hA14 _ => ?_)
  refine sq_end ?_
  have hA15 := hA14.keep [(0, Sl.v l_1), (2, .int .i64 parent_3), (3, .int .i64 depth_4), (4, .int .i64 place_5), (6, .pointer (some (⟨B_6, 0, none⟩ : Addr)))] ⟨rfl, rfl, rfl, rfl, rfl, trivial⟩
  refine then_normal ?_
  refine wp_seq ?_
  refine wp_region_lit ?_
  refine sq (opk_val hA15 rfl (r_move (hA15.get rfl)) fun a16 hA16 _ => ?_)
  refine sq (opk_val hA16 rfl (r_len (hA16.get rfl) Try.underlying31) fun a17 hA17 _ => ?_)
  refine sq (opk_val hA17 rfl (r_assign (hA17.get rfl)) fun a18 hA18 _ => ?_)
  refine sq_end ?_
  have hA19 := hA18.keep [(0, Sl.v l_1), (2, .int .i64 parent_3), (3, .int .i64 depth_4), (4, .int .i64 place_5), (6, .pointer (some (⟨B_6, 0, none⟩ : Addr))), (11, .int .i64 (l_1.n : Int))] ⟨rfl, rfl, rfl, rfl, rfl, rfl, trivial⟩
  refine then_normal ?_
  refine wp_seq ?_
  refine draw' (by kernel_rfl) fun w20 hE21 => ?_
  have hB22 := hB11.ext hE21
  have hC23 := hC13.more hE21
  have hN24 := hN12.up hE21.size
  have ht25 := ht0 w20 B_6 hN24  hC23
  obtain ⟨V_28, hst29, hc30, ht31⟩ := ht25
  refine par (D := [[], [], [], [], [], [4], [], [1, 2, 3, 4, 5, 6], [1, 2, 3, 4, 5, 6, 7], [0, 1, 2, 3, 4, 5, 6, 7, 8], [0, 1, 2, 3, 4, 5, 6, 7, 8, 9]]) (S := [0, 1, 2, 3, 4, 5, 6, 7, 8]) (F := []) (V := VL [(0, fun v _ => v = Sl.v l_1), (1, fun v _ => v = .int .i64 parent_3), (2, fun v _ => v = .int .i64 depth_4), (3, fun v _ => v = .int .i64 place_5), (4, fun v _ => v = .agg #[.int .i64 t_2_Kind, .string (Bs t_2_Name), .string (Bs t_2_Text), Sl.v t_2_Attrs, Sl.v t_2_Kids]), (5, fun v w' => ∃ r_27_Kind : Int, ∃ r_27_Name : Str, ∃ r_27_Text : Str, ∃ r_27_Attrs : Sl, ∃ r_27_Kids : Sl, V_28 r_27_Kind r_27_Name r_27_Text r_27_Attrs r_27_Kids w' ∧ v = .agg #[.int .i64 r_27_Kind, .string (Bs r_27_Name), .string (Bs r_27_Text), Sl.v r_27_Attrs, Sl.v r_27_Kids]), (6, fun v _ => v = .agg #[.int .i64 t_2_Kind, .string (Bs t_2_Name), .string (Bs t_2_Text), Sl.v t_2_Attrs, Sl.v t_2_Kids]), (7, fun v w' => ∃ r_27_Kind : Int, ∃ r_27_Name : Str, ∃ r_27_Text : Str, ∃ r_27_Attrs : Sl, ∃ r_27_Kids : Sl, V_28 r_27_Kind r_27_Name r_27_Text r_27_Attrs r_27_Kids w' ∧ v = .agg #[.int .i64 parent_3, .int .i64 0, .int .i64 depth_4, .int .i64 0, .int .i64 place_5, .int .i64 r_27_Kind, .string (Bs r_27_Name), .string (Bs r_27_Text), Sl.v r_27_Attrs, Sl.v r_27_Kids, .int .i64 t_2_Kind, .string (Bs t_2_Name), .string (Bs t_2_Text), Sl.v t_2_Attrs, Sl.v t_2_Kids]), (8, fun v w' => ∃ r_27_Kind : Int, ∃ r_27_Name : Str, ∃ r_27_Text : Str, ∃ r_27_Attrs : Sl, ∃ r_27_Kids : Sl, ∃ B_40 : Nat, V_28 r_27_Kind r_27_Name r_27_Text r_27_Attrs r_27_Kids w' ∧ w20.heap.size ≤ B_40 ∧ Box w' B_40 38 [.int .i64 parent_3, .int .i64 0, .int .i64 depth_4, .int .i64 0, .int .i64 place_5, .int .i64 r_27_Kind, .string (Bs r_27_Name), .string (Bs r_27_Text), Sl.v r_27_Attrs, Sl.v r_27_Kids, .int .i64 t_2_Kind, .string (Bs t_2_Name), .string (Bs t_2_Text), Sl.v t_2_Attrs, Sl.v t_2_Kids] ∧ v = Sl.v (Sl.mk (some ⟨B_40, 0, none⟩) 1 1))]) hA19 (by kernel_rfl) ⟨fun _ _ _ _ h => by first | exact h | (change _ = _ at h; change _ = _; exact h), fun _ _ _ _ h => by first | exact h | (change _ = _ at h; change _ = _; exact h), fun _ _ _ _ h => by first | exact h | (change _ = _ at h; change _ = _; exact h), fun _ _ _ _ h => by first | exact h | (change _ = _ at h; change _ = _; exact h), fun _ _ _ _ h => by first | exact h | (change _ = _ at h; change _ = _; exact h), fun _ _ _ hE ⟨r_27_Kind, r_27_Name, r_27_Text, r_27_Attrs, r_27_Kids, h0_, e⟩ => ⟨r_27_Kind, r_27_Name, r_27_Text, r_27_Attrs, r_27_Kids, (hst29 r_27_Kind r_27_Name r_27_Text r_27_Attrs r_27_Kids _ _ hE h0_), e⟩, fun _ _ _ _ h => by first | exact h | (change _ = _ at h; change _ = _; exact h), fun _ _ _ hE ⟨r_27_Kind, r_27_Name, r_27_Text, r_27_Attrs, r_27_Kids, h0_, e⟩ => ⟨r_27_Kind, r_27_Name, r_27_Text, r_27_Attrs, r_27_Kids, (hst29 r_27_Kind r_27_Name r_27_Text r_27_Attrs r_27_Kids _ _ hE h0_), e⟩, fun _ _ _ hE ⟨r_27_Kind, r_27_Name, r_27_Text, r_27_Attrs, r_27_Kids, B_40, h0_, h1_, h2_, e⟩ => ⟨r_27_Kind, r_27_Name, r_27_Text, r_27_Attrs, r_27_Kids, B_40, (hst29 r_27_Kind r_27_Name r_27_Text r_27_Attrs r_27_Kids _ _ hE h0_), h1_, (h2_.ext hE), e⟩, trivial⟩ ⟨?_, ?_, ?_, ?_, ?_, ?_, ?_, ?_, ?_, trivial⟩ ?_
  · intro a w hT
    have hAp := hT.ag hA19 [(0, Sl.v l_1)] ⟨rfl, trivial⟩ (by kernel_rfl)
    exact opk_val hAp rfl (r_move (hAp.get rfl)) fun _ _ e => ⟨_, e, Chg.refl _ _, fun _ => Eq.refl _⟩
  · intro a w hT
    have hAp := hT.ag hA19 [(2, .int .i64 parent_3)] ⟨rfl, trivial⟩ (by kernel_rfl)
    exact opk_val hAp rfl (r_move (hAp.get rfl)) fun _ _ e => ⟨_, e, Chg.refl _ _, fun _ => Eq.refl _⟩
  · intro a w hT
    have hAp := hT.ag hA19 [(3, .int .i64 depth_4)] ⟨rfl, trivial⟩ (by kernel_rfl)
    exact opk_val hAp rfl (r_move (hAp.get rfl)) fun _ _ e => ⟨_, e, Chg.refl _ _, fun _ => Eq.refl _⟩
  · intro a w hT
    have hAp := hT.ag hA19 [(4, .int .i64 place_5)] ⟨rfl, trivial⟩ (by kernel_rfl)
    exact opk_val hAp rfl (r_move (hAp.get rfl)) fun _ _ e => ⟨_, e, Chg.refl _ _, fun _ => Eq.refl _⟩
  · intro a w hT
    have hAp := hT.ag hA19 [(6, .pointer (some (⟨B_6, 0, none⟩ : Addr)))] ⟨rfl, trivial⟩ (by kernel_rfl)
    exact opk_val hAp rfl (r_loadN (cs := [.int .i64 t_2_Kind, .string (Bs t_2_Name), .string (Bs t_2_Text), Sl.v t_2_Attrs, Sl.v t_2_Kids]) Try.underlying26 rfl ti_26 (hAp.get rfl) ((hB22.ext hT.chg).part 0 _ rfl)) fun _ _ e => ⟨_, e, Chg.refl _ _, fun _ => Eq.refl _⟩
  · intro a w hT
    have hAp := hT.ag hA19 [] trivial (by kernel_rfl)
    have e26 : a.tmps.getD 21 undef = .agg #[.int .i64 t_2_Kind, .string (Bs t_2_Name), .string (Bs t_2_Text), Sl.v t_2_Attrs, Sl.v t_2_Kids] := hT.vals 4 rfl 21 rfl
    have hAp := hAp.add e26
    exact opk_callX hAp rfl (r_call (args := #[.agg #[.int .i64 t_2_Kind, .string (Bs t_2_Name), .string (Bs t_2_Text), Sl.v t_2_Attrs, Sl.v t_2_Kids]]) Try.func59 (by decide) rfl (map_arr (ml_cons (hAp.get rfl) ml_nil)) rfl) (hc30 w hT.chg) fun _ _ _ _ e ⟨hE, r_27_Kind, r_27_Name, r_27_Text, r_27_Attrs, r_27_Kids, he, hV⟩ => ⟨_, e, hE, fun _ => ⟨r_27_Kind, r_27_Name, r_27_Text, r_27_Attrs, r_27_Kids, hV, he⟩⟩
  · intro a w hT
    have hAp := hT.ag hA19 [(6, .pointer (some (⟨B_6, 0, none⟩ : Addr)))] ⟨rfl, trivial⟩ (by kernel_rfl)
    exact opk_val hAp rfl (r_loadN (cs := [.int .i64 t_2_Kind, .string (Bs t_2_Name), .string (Bs t_2_Text), Sl.v t_2_Attrs, Sl.v t_2_Kids]) Try.underlying26 rfl ti_26 (hAp.get rfl) ((hB22.ext hT.chg).part 0 _ rfl)) fun _ _ e => ⟨_, e, Chg.refl _ _, fun _ => Eq.refl _⟩
  · intro a w hT
    have hAp := hT.ag hA19 [] trivial (by kernel_rfl)
    have e32 : a.tmps.getD 18 undef = .int .i64 parent_3 := hT.vals 1 rfl 18 rfl
    have hAp := hAp.add e32
    have e33 : a.tmps.getD 19 undef = .int .i64 depth_4 := hT.vals 2 rfl 19 rfl
    have hAp := hAp.add e33
    have e34 : a.tmps.getD 20 undef = .int .i64 place_5 := hT.vals 3 rfl 20 rfl
    have hAp := hAp.add e34
    obtain ⟨r_27_Kind, r_27_Name, r_27_Text, r_27_Attrs, r_27_Kids, hf36, e35⟩ := hT.vals 5 rfl 22 rfl
    have hAp := hAp.add e35
    have e37 : a.tmps.getD 23 undef = .agg #[.int .i64 t_2_Kind, .string (Bs t_2_Name), .string (Bs t_2_Text), Sl.v t_2_Attrs, Sl.v t_2_Kids] := hT.vals 6 rfl 23 rfl
    have hAp := hAp.add e37
    exact opk_val hAp rfl (r_build (vs := #[(0, .int .i64 parent_3), (2, .int .i64 depth_4), (4, .int .i64 place_5), (5, .agg #[.int .i64 r_27_Kind, .string (Bs r_27_Name), .string (Bs r_27_Text), Sl.v r_27_Attrs, Sl.v r_27_Kids]), (6, .agg #[.int .i64 t_2_Kind, .string (Bs t_2_Name), .string (Bs t_2_Text), Sl.v t_2_Attrs, Sl.v t_2_Kids])]) (cells := #[.int .i64 parent_3, .int .i64 0, .int .i64 depth_4, .int .i64 0, .int .i64 place_5, .int .i64 r_27_Kind, .string (Bs r_27_Name), .string (Bs r_27_Text), Sl.v r_27_Attrs, Sl.v r_27_Kids, .int .i64 t_2_Kind, .string (Bs t_2_Name), .string (Bs t_2_Text), Sl.v t_2_Attrs, Sl.v t_2_Kids]) (map_arr2 (ml2_cons (hAp.get rfl) (ml2_cons (hAp.get rfl) (ml2_cons (hAp.get rfl) (ml2_cons (hAp.get rfl) (ml2_cons (hAp.get rfl) (ml2_nil))))))) ti_38 Try.underlying38 pl_38 (by kernel_rfl)) fun _ _ e => ⟨_, e, Chg.refl _ _, fun _ => ⟨r_27_Kind, r_27_Name, r_27_Text, r_27_Attrs, r_27_Kids, hf36, rfl⟩⟩
  · intro a w hT
    have hAp := hT.ag hA19 [] trivial (by kernel_rfl)
    obtain ⟨r_27_Kind, r_27_Name, r_27_Text, r_27_Attrs, r_27_Kids, hf39, e38⟩ := hT.vals 7 rfl 24 rfl
    have hAp := hAp.add e38
    exact opk_new (fun B => .slice (some ⟨B, 0, none⟩) 1 1) hAp rfl (r_buildSlice (vs := #[(0, .agg #[.int .i64 parent_3, .int .i64 0, .int .i64 depth_4, .int .i64 0, .int .i64 place_5, .int .i64 r_27_Kind, .string (Bs r_27_Name), .string (Bs r_27_Text), Sl.v r_27_Attrs, Sl.v r_27_Kids, .int .i64 t_2_Kind, .string (Bs t_2_Name), .string (Bs t_2_Text), Sl.v t_2_Attrs, Sl.v t_2_Kids])]) (cs := [.int .i64 parent_3, .int .i64 0, .int .i64 depth_4, .int .i64 0, .int .i64 place_5, .int .i64 r_27_Kind, .string (Bs r_27_Name), .string (Bs r_27_Text), Sl.v r_27_Attrs, Sl.v r_27_Kids, .int .i64 t_2_Kind, .string (Bs t_2_Name), .string (Bs t_2_Text), Sl.v t_2_Attrs, Sl.v t_2_Kids]) (map_arr2 (ml2_cons (hAp.get rfl) (ml2_nil))) Try.underlying31 ti_38 rfl rfl (by kernel_rfl)) fun _ w41 B_40 hE42 hN43 hB44 _ e => ⟨_, e, hE42, fun _ => ⟨r_27_Kind, r_27_Name, r_27_Text, r_27_Attrs, r_27_Kids, B_40, (hst29 r_27_Kind r_27_Name r_27_Text r_27_Attrs r_27_Kids _ _ hE42 hf39), Nat.le_trans hT.chg.size hN43.ge, hB44, rfl⟩⟩
  · intro a45 w46 hE47 hag48 hv49
    have hA45 := hag48 [(0, Sl.v l_1), (3, .int .i64 depth_4), (6, .pointer (some (⟨B_6, 0, none⟩ : Addr))), (11, .int .i64 (l_1.n : Int))] ⟨rfl, rfl, rfl, rfl, trivial⟩ (by kernel_rfl)
    have e51 : a45.tmps.getD 17 undef = Sl.v l_1 := hv49 0 rfl 17 rfl
    have hA52 := hA45.add e51
    obtain ⟨r_27_Kind, r_27_Name, r_27_Text, r_27_Attrs, r_27_Kids, B_40, hf55, hf56, hf57, e53⟩ := hv49 8 rfl 25 rfl
    have hA54 := hA52.add e53
    have hB58 := hB22.ext hE47
    have hC59 : Chg [] w20 w46 := hE47
    have ht60 := ht31 w46 r_27_Kind r_27_Name r_27_Text r_27_Attrs r_27_Kids B_40 hE47 hf55 hf56 hf57
    have hne61 : B_6 ≠ B_40 := Nat.ne_of_lt (Nat.lt_of_lt_of_le hB22.lt hf56)
    have ht62 := ht60 hf57
    refine one (D := [[], [], [], [], [], [4], [], [1, 2, 3, 4, 5, 6], [1, 2, 3, 4, 5, 6, 7], [0, 1, 2, 3, 4, 5, 6, 7, 8], [0, 1, 2, 3, 4, 5, 6, 7, 8, 9]]) (i := 9) rfl (by kernel_rfl) (opk_run hA54 rfl (fun _ _ hr => r_append (hA54.get rfl) (hA54.get rfl) hr) ht62 fun a63 v69 w64 hA63 _ hn66 hz67 hK68 => ?_)
    obtain ⟨r_70, rfl, ht65⟩ := hK68
    have hB71 := hB58.kept hn66 (.head _)
    refine par (D := [[], [], [], [], [], [4], [], [1, 2, 3, 4, 5, 6], [1, 2, 3, 4, 5, 6, 7], [0, 1, 2, 3, 4, 5, 6, 7, 8], [0, 1, 2, 3, 4, 5, 6, 7, 8, 9]]) (S := [10]) (F := []) (V := VL [(10, fun v _ => v = Sl.v r_70)]) hA63 (by kernel_rfl) ⟨fun _ _ _ _ h => by first | exact h | (change _ = _ at h; change _ = _; exact h), trivial⟩ ⟨?_, trivial⟩ ?_
    · intro a w hT
      have hAp := hT.ag hA63 [(26, Sl.v r_70)] ⟨rfl, trivial⟩ (by kernel_rfl)
      exact opk_val hAp rfl (r_assign (hAp.get rfl)) fun _ _ e => ⟨_, e, Chg.refl _ _, fun _ => Eq.refl _⟩
    · intro a72 w73 hE74 hag75 hv76
      have hA72 := hag75 [(3, .int .i64 depth_4), (6, .pointer (some (⟨B_6, 0, none⟩ : Addr))), (11, .int .i64 (l_1.n : Int))] ⟨rfl, rfl, rfl, trivial⟩ (by kernel_rfl)
      have e78 : a72.tmps.getD 0 undef = Sl.v r_70 := hv76 10 rfl 0 rfl
      have hA79 := hA72.add e78
      have hB80 := hB71.ext hE74
      have hC81 : Chg [] w64 w73 := hE74
      refine PR_end (by kernel_rfl) ?_
      have hA82 := hA79.keep [(0, Sl.v r_70), (3, .int .i64 depth_4), (6, .pointer (some (⟨B_6, 0, none⟩ : Addr))), (11, .int .i64 (l_1.n : Int))] ⟨rfl, rfl, rfl, rfl, trivial⟩
      refine then_normal ?_
      refine wp_seq ?_
      refine wp_region_lit ?_
      refine sq (opk_val hA82 rfl (r_assign rfl) fun a83 hA83 _ => ?_)
      refine sq_end ?_
      have hA84 := hA83.keep [(0, Sl.v r_70), (3, .int .i64 depth_4), (6, .pointer (some (⟨B_6, 0, none⟩ : Addr))), (11, .int .i64 (l_1.n : Int)), (12, .int .i64 0)] ⟨rfl, rfl, rfl, rfl, rfl, trivial⟩
      refine then_normal ?_
      refine wp_seq ?_
      refine wp_seq ?_
      refine wp_region_lit ?_
      refine sq (opk_val hA84 rfl (r_assign rfl) fun a85 hA85 _ => ?_)
      refine sq_end ?_
      have hA86 := hA85.keep [(0, Sl.v r_70), (3, .int .i64 depth_4), (6, .pointer (some (⟨B_6, 0, none⟩ : Addr))), (11, .int .i64 (l_1.n : Int)), (12, .int .i64 0), (13, .int .i64 0)] ⟨rfl, rfl, rfl, rfl, rfl, rfl, trivial⟩
      refine then_normal ?_
      refine wp_block ?_
      have ht159 := ht65 w73    hC81
      obtain ⟨J_91, mu_92, h0163, ht162⟩ := ht159
      refine wp_loop_st (σ := Sl × Int × Int × World) (fun s a w => Ag 69 a [(0, Sl.v s.1), (3, .int .i64 depth_4), (6, .pointer (some (⟨B_6, 0, none⟩ : Addr))), (11, .int .i64 (l_1.n : Int)), (12, .int .i64 s.2.1), (13, .int .i64 s.2.2.1)] ∧ Box w B_6 26 [.int .i64 t_2_Kind, .string (Bs t_2_Name), .string (Bs t_2_Text), Sl.v t_2_Attrs, Sl.v t_2_Kids] ∧ w = s.2.2.2 ∧ J_91 s.1 s.2.1 s.2.2.1 s.2.2.2) (fun s => mu_92 s.1 s.2.1 s.2.2.1 s.2.2.2) (r_70, 0, 0, w73) ⟨hA86.keep [(0, Sl.v r_70), (3, .int .i64 depth_4), (6, .pointer (some (⟨B_6, 0, none⟩ : Addr))), (11, .int .i64 (l_1.n : Int)), (12, .int .i64 0), (13, .int .i64 0)] ⟨rfl, rfl, rfl, rfl, rfl, rfl, trivial⟩, hB80, rfl, h0163⟩ ?_
      rintro ⟨l_87, h_88, i_89, w90⟩ a160 w_ ⟨hA160, hB161, hw_, hJ165⟩
      have hw_ : w90 = w_ := hw_.symm
      subst hw_
      have ht164 := ht162 l_87 h_88 i_89 _ hJ165
      refine wp_seq ?_
      refine wp_seq ?_
      refine wp_region_lit ?_
      refine sq (opk_val hA160 rfl (r_move (hA160.get rfl)) fun a166 hA166 _ => ?_)
      refine sq (opk_val hA166 rfl (r_fieldAddr (hA166.get rfl) Try.underlying26 rfl ti_24 (by decide)) fun a167 hA167 _ => ?_)
      refine sq (opk_val hA167 rfl (r_load1 Try.underlying24 rfl (hA167.get rfl) (hB161.cell 4 _ rfl)) fun a168 hA168 _ => ?_)
      refine sq (opk_val hA168 rfl (r_len (hA168.get rfl) Try.underlying24) fun a169 hA169 _ => ?_)
      refine sq (opk_val hA169 rfl (r_lss (hA169.get rfl) (hA169.get rfl)) fun a170 hA170 _ => ?_)
      refine sq_end ?_
      have hA171 := hA170.keep [(0, Sl.v l_87), (3, .int .i64 depth_4), (6, .pointer (some (⟨B_6, 0, none⟩ : Addr))), (11, .int .i64 (l_1.n : Int)), (12, .int .i64 h_88), (13, .int .i64 i_89), (31, .bool (decide (i_89 < (t_2_Kids.n : Int))))] ⟨rfl, rfl, rfl, rfl, rfl, rfl, rfl, trivial⟩
      refine then_normal ?_
      refine wp_cond_split (hA171.get rfl) (fun hc => ?_) (fun hc => ?_)
      · have ht172 := ht164.1 (of_decide_eq_true hc)
        clear hc
        refine wp_skip ?_
        refine then_normal ?_
        refine wp_seq ?_
        refine wp_block ?_
        refine wp_seq ?_
        refine wp_region_lit ?_
        refine sq (opk_val hA171 rfl (r_move (hA171.get rfl)) fun a174 hA174 _ => ?_)
        refine sq (opk_val hA174 rfl (r_len (hA174.get rfl) Try.underlying31) fun a175 hA175 _ => ?_)
        refine sq (opk_val hA175 rfl (r_assign (hA175.get rfl)) fun a176 hA176 _ => ?_)
        refine sq_end ?_
        have hA177 := hA176.keep [(0, Sl.v l_87), (3, .int .i64 depth_4), (6, .pointer (some (⟨B_6, 0, none⟩ : Addr))), (11, .int .i64 (l_1.n : Int)), (12, .int .i64 h_88), (13, .int .i64 i_89), (14, .int .i64 (l_87.n : Int))] ⟨rfl, rfl, rfl, rfl, rfl, rfl, rfl, trivial⟩
        refine then_normal ?_
        refine wp_seq ?_
        refine wp_region_lit ?_
        refine sq (opk_val hA177 rfl (r_move (hA177.get rfl)) fun a178 hA178 _ => ?_)
        refine sq (opk_val hA178 rfl (r_fieldAddr (hA178.get rfl) Try.underlying26 rfl ti_24 (by decide)) fun a179 hA179 _ => ?_)
        refine sq (opk_val hA179 rfl (r_load1 Try.underlying24 rfl (hA179.get rfl) (hB161.cell 4 _ rfl)) fun a180 hA180 _ => ?_)
        refine sq (opk_val hA180 rfl (r_move (hA180.get rfl)) fun a181 hA181 _ => ?_)
        obtain ⟨hb183, p_182, hp184, ht185⟩ := ht172
        refine sq (opk_val hA181 rfl (r_indexAddr (hA181.get rfl) (hA181.get rfl) Try.underlying24 ti_26 hb183 hp184) fun a186 hA186 _ => ?_)
        obtain ⟨x_188_Kind, x_188_Name, x_188_Text, x_188_Attrs, x_188_Kids, hx189, ht190⟩ := ht185
        refine sq (opk_val hA186 rfl (r_loadN Try.underlying26 rfl ti_26 (hA186.get rfl) hx189) fun a187 hA187 _ => ?_)
        refine sq (opk_val hA187 rfl (r_move (hA187.get rfl)) fun a191 hA191 _ => ?_)
        refine sq (opk_val hA191 rfl (r_move (hA191.get rfl)) fun a192 hA192 _ => ?_)
        obtain ⟨hS194, ht195⟩ := ht190
        refine sq (opk_val hA192 rfl (r_addI (hA192.get rfl) rfl hS194) fun a193 hA193 _ => ?_)
        refine sq (opk_val hA193 rfl (r_move (hA193.get rfl)) fun a196 hA196 _ => ?_)
        refine sq (opk_call hA196 rfl (r_call (args := #[Sl.v l_87, .agg #[.int .i64 x_188_Kind, .string (Bs x_188_Name), .string (Bs x_188_Text), Sl.v x_188_Attrs, Sl.v x_188_Kids], .int .i64 (l_1.n : Int), .int .i64 (depth_4 + 1), .int .i64 i_89]) Try.func35 (by decide) rfl (map_arr (ml_cons (hA196.get rfl) (ml_cons (hA196.get rfl) (ml_cons (hA196.get rfl) (ml_cons (hA196.get rfl) (ml_cons (hA196.get rfl) ml_nil)))))) rfl) ht195 fun a198 v204 w199 hA198 _ hn201 hz202 hK203 => ?_)
        obtain ⟨r_197, rfl, ht200⟩ := hK203
        have hB205 := hB161.kept hn201 (.head _)
        refine sq (opk_val hA198 rfl (r_assign (hA198.get rfl)) fun a206 hA206 _ => ?_)
        refine sq_end ?_
        have hA207 := hA206.keep [(0, Sl.v r_197), (3, .int .i64 depth_4), (6, .pointer (some (⟨B_6, 0, none⟩ : Addr))), (11, .int .i64 (l_1.n : Int)), (12, .int .i64 h_88), (13, .int .i64 i_89), (14, .int .i64 (l_87.n : Int))] ⟨rfl, rfl, rfl, rfl, rfl, rfl, rfl, trivial⟩
        refine then_normal ?_
        refine wp_region_lit ?_
        refine sq (opk_val hA207 rfl (r_move (hA207.get rfl)) fun a208 hA208 _ => ?_)
        refine sq (opk_val hA208 rfl (r_move (hA208.get rfl)) fun a209 hA209 _ => ?_)
        refine sq (opk_val hA209 rfl (r_move (hA209.get rfl)) fun a210 hA210 _ => ?_)
        obtain ⟨hb212, p_211, hp213, ht214⟩ := ht200
        refine sq (opk_val hA210 rfl (r_indexAddr (hA210.get rfl) (hA210.get rfl) Try.underlying31 ti_38 hb212 hp213) fun a215 hA215 _ => ?_)
        refine sq (opk_val hA215 rfl (r_fieldAddr (hA215.get rfl) Try.underlying38 rfl ti_3 (by decide)) fun a216 hA216 _ => ?_)
        obtain ⟨x_218, hx219, ht220⟩ := ht214
        refine sq (opk_val hA216 rfl (r_load1 Try.underlying3 rfl (hA216.get rfl) hx219) fun a217 hA217 _ => ?_)
        refine sq (opk_val hA217 rfl (r_max (hA217.get rfl) (hA217.get rfl)) fun a221 hA221 _ => ?_)
        refine sq (opk_val hA221 rfl (r_assign (hA221.get rfl)) fun a222 hA222 _ => ?_)
        refine sq_end ?_
        have hA223 := hA222.keep [(0, Sl.v r_197), (3, .int .i64 depth_4), (6, .pointer (some (⟨B_6, 0, none⟩ : Addr))), (11, .int .i64 (l_1.n : Int)), (12, .int .i64 (max h_88 x_218)), (13, .int .i64 i_89)] ⟨rfl, rfl, rfl, rfl, rfl, rfl, trivial⟩
        refine block_normal ?_
        refine then_normal ?_
        refine wp_region_lit ?_
        refine sq (opk_val hA223 rfl (r_move (hA223.get rfl)) fun a224 hA224 _ => ?_)
        obtain ⟨hS226, ht227⟩ := ht220
        refine sq (opk_val hA224 rfl (r_addI (hA224.get rfl) rfl hS226) fun a225 hA225 _ => ?_)
        refine sq (opk_val hA225 rfl (r_assign (hA225.get rfl)) fun a228 hA228 _ => ?_)
        refine sq_end ?_
        have hA229 := hA228.keep [(0, Sl.v r_197), (3, .int .i64 depth_4), (6, .pointer (some (⟨B_6, 0, none⟩ : Addr))), (11, .int .i64 (l_1.n : Int)), (12, .int .i64 (max h_88 x_218)), (13, .int .i64 (i_89 + 1))] ⟨rfl, rfl, rfl, rfl, rfl, rfl, trivial⟩
        have hA230 := hA229.keep [(0, Sl.v r_197), (3, .int .i64 depth_4), (6, .pointer (some (⟨B_6, 0, none⟩ : Addr))), (11, .int .i64 (l_1.n : Int)), (12, .int .i64 (max h_88 x_218)), (13, .int .i64 (i_89 + 1))] ⟨rfl, rfl, rfl, rfl, rfl, rfl, trivial⟩
        exact then_normal ⟨(r_197, max h_88 x_218, i_89 + 1, w199), ⟨hA230, hB205, rfl, ht227.1⟩, ht227.2⟩
      · have ht173 := ht164.2 (of_decide_eq_false hc)
        clear hc
        refine wp_exit ?_
        refine then_exit ?_
        refine then_exit ?_
        refine block_hit ?_
        have hA231 := hA171.keep [(0, Sl.v l_87), (11, .int .i64 (l_1.n : Int)), (12, .int .i64 h_88)] ⟨rfl, rfl, rfl, trivial⟩
        refine then_normal ?_
        refine wp_seq ?_
        refine wp_region_lit ?_
        refine sq (opk_val hA231 rfl (r_move (hA231.get rfl)) fun a232 hA232 _ => ?_)
        refine sq (opk_val hA232 rfl (r_move (hA232.get rfl)) fun a233 hA233 _ => ?_)
        refine sq (opk_val hA233 rfl (r_move (hA233.get rfl)) fun a234 hA234 _ => ?_)
        refine sq (opk_val hA234 rfl (r_len (hA234.get rfl) Try.underlying31) fun a235 hA235 _ => ?_)
        refine sq (opk_val hA235 rfl (r_move (hA235.get rfl)) fun a236 hA236 _ => ?_)
        obtain ⟨hS238, ht239⟩ := ht173
        refine sq (opk_val hA236 rfl (r_subI (hA236.get rfl) (hA236.get rfl) hS238) fun a237 hA237 _ => ?_)
        obtain ⟨hb241, p_240, hp242, ht243⟩ := ht239
        refine sq (opk_val hA237 rfl (r_indexAddr (hA237.get rfl) (hA237.get rfl) Try.underlying31 ti_38 hb241 hp242) fun a244 hA244 _ => ?_)
        refine sq (opk_val hA244 rfl (r_fieldAddr (hA244.get rfl) Try.underlying38 rfl ti_3 (by decide)) fun a245 hA245 _ => ?_)
        obtain ⟨B_250, o_251, T_252, cs_253, he254, hb255, hl256, hx257, ht258⟩ := ht243
        refine sq (opk_store hA245 hb255 (r_store (vs := [.int .i64 ((l_87.n : Int) - (l_1.n : Int))]) (((hA245.get rfl)).trans (congrArg (fun a => Value.pointer (some a)) he254)) (hA245.get rfl) rfl ti_3 hb255 (Nat.ble_eq_true_of_le hl256) (ones_all [.int .i64 ((l_87.n : Int) - (l_1.n : Int))] rfl)) fun a247 w246 hS248 hB249 hA247 => ?_)
        have ht259 := ht258 w246 hS248 hB249
        refine sq_end ?_
        have hA260 := hA247.keep [(0, Sl.v l_87), (11, .int .i64 (l_1.n : Int)), (12, .int .i64 h_88)] ⟨rfl, rfl, rfl, trivial⟩
        refine then_normal ?_
        refine wp_seq ?_
        refine wp_region_lit ?_
        refine sq (opk_val hA260 rfl (r_move (hA260.get rfl)) fun a261 hA261 _ => ?_)
        refine sq (opk_val hA261 rfl (r_move (hA261.get rfl)) fun a262 hA262 _ => ?_)
        refine sq (opk_val hA262 rfl (r_move (hA262.get rfl)) fun a263 hA263 _ => ?_)
        obtain ⟨hS265, ht266⟩ := ht259
        refine sq (opk_val hA263 rfl (r_addI (hA263.get rfl) rfl hS265) fun a264 hA264 _ => ?_)
        obtain ⟨hb268, p_267, hp269, ht270⟩ := ht266
        refine sq (opk_val hA264 rfl (r_indexAddr (hA264.get rfl) (hA264.get rfl) Try.underlying31 ti_38 hb268 hp269) fun a271 hA271 _ => ?_)
        refine sq (opk_val hA271 rfl (r_fieldAddr (hA271.get rfl) Try.underlying38 rfl ti_3 (by decide)) fun a272 hA272 _ => ?_)
        obtain ⟨B_277, o_278, T_279, cs_280, he281, hb282, hl283, hx284, ht285⟩ := ht270
        refine sq (opk_store hA272 hb282 (r_store (vs := [.int .i64 (h_88 + 1)]) (((hA272.get rfl)).trans (congrArg (fun a => Value.pointer (some a)) he281)) (hA272.get rfl) rfl ti_3 hb282 (Nat.ble_eq_true_of_le hl283) (ones_all [.int .i64 (h_88 + 1)] rfl)) fun a274 w273 hS275 hB276 hA274 => ?_)
        have ht286 := ht285 w273 hS275 hB276
        refine sq_end ?_
        have hA287 := hA274.keep [(0, Sl.v l_87)] ⟨rfl, trivial⟩
        refine then_normal ?_
        refine wp_seq ?_
        refine wp_region_lit ?_
        refine sq (opk_val hA287 rfl (r_move (hA287.get rfl)) fun a288 hA288 _ => ?_)
        refine sq (opk_val hA288 rfl (r_assign (hA288.get rfl)) fun a289 hA289 _ => ?_)
        refine sq_end ?_
        have hA290 := hA289.keep [(10, Sl.v l_87)] ⟨rfl, trivial⟩
        refine then_normal ?_
        refine wp_ret ?_
        exact res_all (vs := [Sl.v l_87]) rfl hA290 ⟨res_of_tmp hA290 rfl, trivial⟩ ht286

end Go.Proofs.Yteohbfaechfliaa
