/-
  PRINTED BY PROGRAM: for each function its condition (vc), and that this suffices (ok).
-/
import Derived.Test.YtghmgfkdnolcdaaQDomRoundsGT
namespace Go.Proofs.Ytghmgfkdnolcdaa
open Go.RowKit
set_option linter.unusedVariables false

/-- The condition of topiary/topiarylaw06.DomRounds. -/
def law06_DomRounds.vc (l_1 : Sl) (R : Value → World → Prop) (w : World) : Prop :=
CallK Try.prog 20 #[Sl.v l_1] w [] (fun v w7 => ∃ (r_5_Kind : Int) (r_5_Name : Str) (r_5_Text : Str) (r_5_Attrs : Sl) (r_5_Kids : Sl), v = .agg #[.int .i64 r_5_Kind, .string (Bs r_5_Name), .string (Bs r_5_Text), Sl.v r_5_Attrs, Sl.v r_5_Kids] ∧
∀ (w21 : World) (B_13 : Nat), New w7 B_13 w21 → Chg [] w7 w21 →
CallK Try.prog 25 #[.agg #[.int .i64 r_5_Kind, .string (Bs r_5_Name), .string (Bs r_5_Text), Sl.v r_5_Attrs, Sl.v r_5_Kids]] w21 [B_13] (fun v w33 => ∃ (r_31_Kind : Int) (r_31_Name : Str) (r_31_Text : Str) (r_31_Attrs : Sl) (r_31_Kids : Sl), v = .agg #[.int .i64 r_31_Kind, .string (Bs r_31_Name), .string (Bs r_31_Text), Sl.v r_31_Attrs, Sl.v r_31_Kids] ∧
CallK Try.prog 13 #[.agg #[.int .i64 r_31_Kind, .string (Bs r_31_Name), .string (Bs r_31_Text), Sl.v r_31_Attrs, Sl.v r_31_Kids]] w33 [B_13] (fun v w43 => ∃ (r_0_40 : Option Addr) (r_1_41 : Int), v = .tuple #[.pointer r_0_40, .int .i64 r_1_41] ∧
((r_1_41 ≠ 0) →
R (.bool false) w43) ∧
((¬ (r_1_41 ≠ 0)) →
∃ (J_72 : Int → World → Prop) (mu_73 : Int → World → Nat),
J_72 0 w43 ∧
(∀ (i_70 : Int) (w71 : World), J_72 i_70 w71 →
((i_70 < (r_5_Kids.n : Int)) →
CallK Try.prog 21 #[.pointer r_0_40, .int .i64 0] w71 [B_13] (fun v w205 => ∃ (r_203 : Sl), v = Sl.v r_203 ∧
(((r_203.n : Int) ≠ (r_5_Kids.n : Int)) →
R (.bool false) w205) ∧
((¬ ((r_203.n : Int) ≠ (r_5_Kids.n : Int))) →
((0 : Int) ≤ 0 ∧ 0 < (r_203.n : Int)) ∧ ∃ p_224 : Addr, r_203.a = some p_224 ∧
∃ (x_230 : Int), (w205.cell? (p_224.add (0 * 1)) = some (.int .i64 x_230)) ∧
(I64 ((r_5_Kids.n : Int) - 1)) ∧
CallK Try.prog 26 #[.pointer r_0_40, .int .i64 x_230, .int .i64 0, .int .i64 ((r_5_Kids.n : Int) - 1)] w205 [B_13] (fun v w243 => ∃ (r_241 : Int), v = .int .i64 r_241 ∧
∃ (r_254 : Int), (((¬ (r_241 ≠ 0))) → Calls Try.prog 27 #[.pointer r_0_40, .int .i64 x_230] w243 (Ret fun v w' => Ext w243 w' ∧ v = .int .i64 r_254)) ∧
(∀ w256 : World, Ext w243 w256 →
(((¬ (r_241 ≠ 0))) → I64 ((r_5_Kids.n : Int) - 1)) ∧
∃ (r_273 : Int), ((((¬ (r_241 ≠ 0)) ∧ (¬ (r_254 ≠ ((r_5_Kids.n : Int) - 1))))) → Calls Try.prog 26 #[.pointer r_0_40, .int .i64 x_230, .int .i64 0, .int .i64 (r_5_Kids.n : Int)] w256 (Ret fun v w' => Ext w256 w' ∧ v = .int .i64 r_273)) ∧
(∀ w275 : World, Ext w256 w275 →
∃ (r_288 : Int), (((((¬ (r_241 ≠ 0)) ∧ (¬ (r_254 ≠ ((r_5_Kids.n : Int) - 1)))) ∧ (¬ (r_273 ≠ 5)))) → Calls Try.prog 26 #[.pointer r_0_40, .int .i64 x_230, .int .i64 x_230, .int .i64 0] w275 (Ret fun v w' => Ext w275 w' ∧ v = .int .i64 r_288)) ∧
(∀ w290 : World, Ext w275 w290 →
(((((r_241 ≠ 0) ∨ (r_254 ≠ ((r_5_Kids.n : Int) - 1))) ∨ (r_273 ≠ 5)) ∨ (r_288 = 0)) →
R (.bool false) w290) ∧
(((((¬ (r_241 ≠ 0)) ∧ (¬ (r_254 ≠ ((r_5_Kids.n : Int) - 1)))) ∧ (¬ (r_273 ≠ 5))) ∧ (¬ (r_288 = 0))) →
(I64 (i_70 + 1)) ∧
J_72 (i_70 + 1) w290 ∧ mu_73 (i_70 + 1) w290 < mu_73 i_70 w71)))))))) ∧
((¬ (i_70 < (r_5_Kids.n : Int))) →
∀ (w312 : World), Chg [] w71 w312 →
∃ V_319 : Int → Str → Str → Sl → Sl → World → Prop, (∀ r_318_Kind : Int, ∀ r_318_Name : Str, ∀ r_318_Text : Str, ∀ r_318_Attrs : Sl, ∀ r_318_Kids : Sl, ∀ w' w'' : World, Ext w' w'' → V_319 r_318_Kind r_318_Name r_318_Text r_318_Attrs r_318_Kids w' → V_319 r_318_Kind r_318_Name r_318_Text r_318_Attrs r_318_Kids w'') ∧
(∀ w' : World, Ext w312 w' → Calls Try.prog 18 #[.pointer r_0_40] w' (Ret fun v w'' => Ext w' w'' ∧ ∃ r_318_Kind : Int, ∃ r_318_Name : Str, ∃ r_318_Text : Str, ∃ r_318_Attrs : Sl, ∃ r_318_Kids : Sl, v = .agg #[.int .i64 r_318_Kind, .string (Bs r_318_Name), .string (Bs r_318_Text), Sl.v r_318_Attrs, Sl.v r_318_Kids] ∧ V_319 r_318_Kind r_318_Name r_318_Text r_318_Attrs r_318_Kids w'')) ∧
∃ (r_326 : Bool), (∀ r_318_Kind : Int, ∀ r_318_Name : Str, ∀ r_318_Text : Str, ∀ r_318_Attrs : Sl, ∀ r_318_Kids : Sl, ∀ w' : World, Ext w312 w' → V_319 r_318_Kind r_318_Name r_318_Text r_318_Attrs r_318_Kids w' → Calls Try.prog 24 #[.agg #[.int .i64 r_318_Kind, .string (Bs r_318_Name), .string (Bs r_318_Text), Sl.v r_318_Attrs, Sl.v r_318_Kids], .agg #[.int .i64 r_5_Kind, .string (Bs r_5_Name), .string (Bs r_5_Text), Sl.v r_5_Attrs, Sl.v r_5_Kids]] w' (Ret fun v w'' => Ext w' w'' ∧ v = .bool r_326)) ∧
∃ (r_331 : Bool), (((r_326 = true)) → ∀ w' : World, Ext w312 w' → Calls Try.prog 19 #[] w' (Ret fun v w'' => Ext w' w'' ∧ v = .bool r_331)) ∧
∀ (w338 : World), Chg [] w312 w338 →
R (.bool (r_326 && r_331)) w338))))))
set_option maxHeartbeats 1000000 in
set_option maxRecDepth 10000 in
theorem law06_DomRounds.ok (l_1 : Sl) {R : Value → World → Prop} {w : World} (ht0 : law06_DomRounds.vc l_1 R w) : Calls Try.prog 5 #[Sl.v l_1] w (Ret R) := by
  refine enter [Sl.v l_1] Try.func5 rfl Try.ntmps5 rfl ?_
  intro a0 hA0
  unfold law06_DomRounds.vc at ht0
  refine wp_seq ?_
  refine wp_region_lit ?_
  refine sq (opk_val hA0 rfl (r_assign rfl) fun a2 hA2 _ => ?_)
  refine sq_end ?_
  have hA3 := hA2.keep [(0, Sl.v l_1)] ⟨rfl, trivial⟩
  refine then_normal ?_
  refine wp_seq ?_
  refine wp_region_lit ?_
  refine sq (opk_val hA3 rfl (r_move (hA3.get rfl)) fun a4 hA4 _ => ?_)
  refine sq (opk_call hA4 rfl (r_call (args := #[Sl.v l_1]) Try.func20 (by decide) rfl (map_arr (ml_cons (hA4.get rfl) ml_nil)) rfl) ht0 fun a6 v12 w7 hA6 _ hn9 hz10 hK11 => ?_)
  obtain ⟨r_5_Kind, r_5_Name, r_5_Text, r_5_Attrs, r_5_Kids, rfl, ht8⟩ := hK11
  refine sq (opk_new (fun B => .pointer (some ⟨B, 0, none⟩)) hA6 rfl (r_alloc (cs := [.int .i64 0, .string (Bs ([] : Str)), .string (Bs ([] : Str)), Sl.v Sl.nil, Sl.v Sl.nil]) ti_29 rfl) fun a15 w14 B_13 hE16 hN17 hB18 hA15 _ => ?_)
  have hN19 : New w7 B_13 w14 := hN17
  have hC20 : Chg [] w7 w14 := hE16
  refine sq (opk_store hA15 hB18 (r_store (vs := [.int .i64 r_5_Kind, .string (Bs r_5_Name), .string (Bs r_5_Text), Sl.v r_5_Attrs, Sl.v r_5_Kids]) (hA15.get rfl) (hA15.get rfl) rfl ti_29 hB18 rfl (ones_all [.int .i64 r_5_Kind, .string (Bs r_5_Name), .string (Bs r_5_Text), Sl.v r_5_Attrs, Sl.v r_5_Kids] rfl)) fun a22 w21 hS23 hB24 hA22 => ?_)
  have hB25 : Box w21 B_13 29 [.int .i64 r_5_Kind, .string (Bs r_5_Name), .string (Bs r_5_Text), Sl.v r_5_Attrs, Sl.v r_5_Kids] := hB24
  have hC26 := hC20.storeNew hN19 hS23
  have hN27 := hN19.up hS23.size
  refine sq_end ?_
  have hA28 := hA22.keep [(3, .pointer (some (⟨B_13, 0, none⟩ : Addr)))] ⟨rfl, trivial⟩
  refine then_normal ?_
  refine wp_seq ?_
  refine wp_region_lit ?_
  refine sq (opk_val hA28 rfl (r_loadN (cs := [.int .i64 r_5_Kind, .string (Bs r_5_Name), .string (Bs r_5_Text), Sl.v r_5_Attrs, Sl.v r_5_Kids]) Try.underlying29 rfl ti_29 (hA28.get rfl) (hB25.part 0 _ rfl)) fun a29 hA29 _ => ?_)
  have ht30 := ht8 w21 B_13 hN27  hC26
  refine sq (opk_call hA29 rfl (r_call (args := #[.agg #[.int .i64 r_5_Kind, .string (Bs r_5_Name), .string (Bs r_5_Text), Sl.v r_5_Attrs, Sl.v r_5_Kids]]) Try.func25 (by decide) rfl (map_arr (ml_cons (hA29.get rfl) ml_nil)) rfl) ht30 fun a32 v38 w33 hA32 _ hn35 hz36 hK37 => ?_)
  obtain ⟨r_31_Kind, r_31_Name, r_31_Text, r_31_Attrs, r_31_Kids, rfl, ht34⟩ := hK37
  have hB39 := hB25.kept hn35 (.head _)
  refine sq (opk_call hA32 rfl (r_call (args := #[.agg #[.int .i64 r_31_Kind, .string (Bs r_31_Name), .string (Bs r_31_Text), Sl.v r_31_Attrs, Sl.v r_31_Kids]]) Try.func13 (by decide) rfl (map_arr (ml_cons (hA32.get rfl) ml_nil)) rfl) ht34 fun a42 v48 w43 hA42 _ hn45 hz46 hK47 => ?_)
  obtain ⟨r_0_40, r_1_41, rfl, ht44⟩ := hK47
  have hB49 := hB39.kept hn45 (.head _)
  refine sq (opk_val hA42 rfl (r_move (hA42.get rfl)) fun a50 hA50 _ => ?_)
  refine sq (opk_val hA50 rfl (r_extract (hA50.get rfl) rfl) fun a51 hA51 _ => ?_)
  refine sq (opk_val hA51 rfl (r_extract (hA51.get rfl) rfl) fun a52 hA52 _ => ?_)
  refine sq (opk_val hA52 rfl (r_assign (hA52.get rfl)) fun a53 hA53 _ => ?_)
  refine sq (opk_val hA53 rfl (r_assign (hA53.get rfl)) fun a54 hA54 _ => ?_)
  refine sq_end ?_
  have hA55 := hA54.keep [(3, .pointer (some (⟨B_13, 0, none⟩ : Addr))), (4, .pointer r_0_40), (5, .int .i64 r_1_41)] ⟨rfl, rfl, rfl, trivial⟩
  refine then_normal ?_
  refine wp_seq ?_
  refine wp_seq ?_
  refine wp_region_lit ?_
  refine sq (opk_val hA55 rfl (r_move (hA55.get rfl)) fun a56 hA56 _ => ?_)
  refine sq (opk_val hA56 rfl (r_neq (hA56.get rfl) rfl) fun a57 hA57 _ => ?_)
  refine sq_end ?_
  have hA58 := hA57.keep [(3, .pointer (some (⟨B_13, 0, none⟩ : Addr))), (4, .pointer r_0_40), (19, .bool (decide (r_1_41 ≠ 0)))] ⟨rfl, rfl, rfl, trivial⟩
  refine then_normal ?_
  refine wp_cond_split (hA58.get rfl) (fun hc => ?_) (fun hc => ?_)
  · have ht59 := ht44.1 (of_decide_eq_true hc)
    clear hc
    refine wp_seq ?_
    refine wp_region_lit ?_
    refine sq (opk_val hA58 rfl (r_assign rfl) fun a61 hA61 _ => ?_)
    refine sq_end ?_
    have hA62 := hA61.keep [(2, .bool false)] ⟨rfl, trivial⟩
    refine then_normal ?_
    refine wp_ret ?_
    refine then_ret ?_
    exact res_all (vs := [.bool false]) rfl hA62 ⟨res_of_tmp hA62 rfl, trivial⟩ ht59
  · have ht60 := ht44.2 (of_decide_eq_false hc)
    clear hc
    refine wp_skip ?_
    refine then_normal ?_
    refine wp_seq ?_
    refine wp_region_lit ?_
    refine sq (opk_val hA58 rfl (r_fieldAddr (hA58.get rfl) Try.underlying29 rfl ti_27 (by decide)) fun a63 hA63 _ => ?_)
    refine sq (opk_val hA63 rfl (r_load1 Try.underlying27 rfl (hA63.get rfl) (hB49.cell 4 _ rfl)) fun a64 hA64 _ => ?_)
    refine sq (opk_val hA64 rfl (r_len (hA64.get rfl) Try.underlying27) fun a65 hA65 _ => ?_)
    refine sq (opk_val hA65 rfl (r_assign (hA65.get rfl)) fun a66 hA66 _ => ?_)
    refine sq_end ?_
    have hA67 := hA66.keep [(3, .pointer (some (⟨B_13, 0, none⟩ : Addr))), (4, .pointer r_0_40), (6, .int .i64 (r_5_Kids.n : Int))] ⟨rfl, rfl, rfl, trivial⟩
    refine then_normal ?_
    refine wp_seq ?_
    refine wp_seq ?_
    refine wp_region_lit ?_
    refine sq (opk_val hA67 rfl (r_assign rfl) fun a68 hA68 _ => ?_)
    refine sq_end ?_
    have hA69 := hA68.keep [(3, .pointer (some (⟨B_13, 0, none⟩ : Addr))), (4, .pointer r_0_40), (6, .int .i64 (r_5_Kids.n : Int)), (7, .int .i64 0)] ⟨rfl, rfl, rfl, rfl, trivial⟩
    refine then_normal ?_
    refine wp_block ?_
    obtain ⟨J_72, mu_73, h0193, ht192⟩ := ht60
    refine wp_loop_st (σ := Int × World) (fun s a w => Ag 72 a [(3, .pointer (some (⟨B_13, 0, none⟩ : Addr))), (4, .pointer r_0_40), (6, .int .i64 (r_5_Kids.n : Int)), (7, .int .i64 s.1)] ∧ Box w B_13 29 [.int .i64 r_5_Kind, .string (Bs r_5_Name), .string (Bs r_5_Text), Sl.v r_5_Attrs, Sl.v r_5_Kids] ∧ w = s.2 ∧ J_72 s.1 s.2) (fun s => mu_73 s.1 s.2) (0, w43) ⟨hA69.keep [(3, .pointer (some (⟨B_13, 0, none⟩ : Addr))), (4, .pointer r_0_40), (6, .int .i64 (r_5_Kids.n : Int)), (7, .int .i64 0)] ⟨rfl, rfl, rfl, rfl, trivial⟩, hB49, rfl, h0193⟩ ?_
    rintro ⟨i_70, w71⟩ a190 w_ ⟨hA190, hB191, hw_, hJ195⟩
    have hw_ : w71 = w_ := hw_.symm
    subst hw_
    have ht194 := ht192 i_70 _ hJ195
    refine wp_seq ?_
    refine wp_seq ?_
    refine wp_region_lit ?_
    refine sq (opk_val hA190 rfl (r_move (hA190.get rfl)) fun a196 hA196 _ => ?_)
    refine sq (opk_val hA196 rfl (r_move (hA196.get rfl)) fun a197 hA197 _ => ?_)
    refine sq (opk_val hA197 rfl (r_lss (hA197.get rfl) (hA197.get rfl)) fun a198 hA198 _ => ?_)
    refine sq_end ?_
    have hA199 := hA198.keep [(3, .pointer (some (⟨B_13, 0, none⟩ : Addr))), (4, .pointer r_0_40), (6, .int .i64 (r_5_Kids.n : Int)), (7, .int .i64 i_70), (25, .bool (decide (i_70 < (r_5_Kids.n : Int))))] ⟨rfl, rfl, rfl, rfl, rfl, trivial⟩
    refine then_normal ?_
    refine wp_cond_split (hA199.get rfl) (fun hc => ?_) (fun hc => ?_)
    · have ht200 := ht194.1 (of_decide_eq_true hc)
      clear hc
      refine wp_skip ?_
      refine then_normal ?_
      refine wp_seq ?_
      refine wp_block ?_
      refine wp_seq ?_
      refine wp_region_lit ?_
      refine sq (opk_val hA199 rfl (r_move (hA199.get rfl)) fun a202 hA202 _ => ?_)
      refine sq (opk_call hA202 rfl (r_call (args := #[.pointer r_0_40, .int .i64 0]) Try.func21 (by decide) rfl (map_arr (ml_cons (hA202.get rfl) (ml_cons rfl ml_nil))) rfl) ht200 fun a204 v210 w205 hA204 _ hn207 hz208 hK209 => ?_)
      obtain ⟨r_203, rfl, ht206⟩ := hK209
      have hB211 := hB191.kept hn207 (.head _)
      refine sq (opk_val hA204 rfl (r_assign (hA204.get rfl)) fun a212 hA212 _ => ?_)
      refine sq_end ?_
      have hA213 := hA212.keep [(3, .pointer (some (⟨B_13, 0, none⟩ : Addr))), (4, .pointer r_0_40), (6, .int .i64 (r_5_Kids.n : Int)), (7, .int .i64 i_70), (8, Sl.v r_203)] ⟨rfl, rfl, rfl, rfl, rfl, trivial⟩
      refine then_normal ?_
      refine wp_seq ?_
      refine wp_seq ?_
      refine wp_region_lit ?_
      refine sq (opk_val hA213 rfl (r_move (hA213.get rfl)) fun a214 hA214 _ => ?_)
      refine sq (opk_val hA214 rfl (r_len (hA214.get rfl) Try.underlying36) fun a215 hA215 _ => ?_)
      refine sq (opk_val hA215 rfl (r_move (hA215.get rfl)) fun a216 hA216 _ => ?_)
      refine sq (opk_val hA216 rfl (r_neq (hA216.get rfl) (hA216.get rfl)) fun a217 hA217 _ => ?_)
      refine sq_end ?_
      have hA218 := hA217.keep [(3, .pointer (some (⟨B_13, 0, none⟩ : Addr))), (4, .pointer r_0_40), (6, .int .i64 (r_5_Kids.n : Int)), (7, .int .i64 i_70), (8, Sl.v r_203), (33, .bool (decide ((r_203.n : Int) ≠ (r_5_Kids.n : Int))))] ⟨rfl, rfl, rfl, rfl, rfl, rfl, trivial⟩
      refine then_normal ?_
      refine wp_cond_split (hA218.get rfl) (fun hc => ?_) (fun hc => ?_)
      · have ht219 := ht206.1 (of_decide_eq_true hc)
        clear hc
        refine wp_seq ?_
        refine wp_region_lit ?_
        refine sq (opk_val hA218 rfl (r_assign rfl) fun a221 hA221 _ => ?_)
        refine sq_end ?_
        have hA222 := hA221.keep [(2, .bool false)] ⟨rfl, trivial⟩
        refine then_normal ?_
        refine wp_ret ?_
        refine then_ret ?_
        refine block_ret ?_
        refine then_ret ?_
        refine then_ret ?_
        refine block_ret ?_
        refine then_ret ?_
        exact res_all (vs := [.bool false]) rfl hA222 ⟨res_of_tmp hA222 rfl, trivial⟩ ht219
      · have ht220 := ht206.2 (of_decide_eq_false hc)
        clear hc
        refine wp_skip ?_
        refine then_normal ?_
        refine wp_seq ?_
        refine wp_region_lit ?_
        refine sq (opk_val hA218 rfl (r_move (hA218.get rfl)) fun a223 hA223 _ => ?_)
        obtain ⟨hb225, p_224, hp226, ht227⟩ := ht220
        refine sq (opk_val hA223 rfl (r_indexAddr (hA223.get rfl) rfl Try.underlying36 ti_3 hb225 hp226) fun a228 hA228 _ => ?_)
        obtain ⟨x_230, hx231, ht232⟩ := ht227
        refine sq (opk_val hA228 rfl (r_load1 Try.underlying3 rfl (hA228.get rfl) hx231) fun a229 hA229 _ => ?_)
        refine sq (opk_val hA229 rfl (r_assign (hA229.get rfl)) fun a233 hA233 _ => ?_)
        refine sq_end ?_
        have hA234 := hA233.keep [(3, .pointer (some (⟨B_13, 0, none⟩ : Addr))), (4, .pointer r_0_40), (6, .int .i64 (r_5_Kids.n : Int)), (7, .int .i64 i_70), (9, .int .i64 x_230)] ⟨rfl, rfl, rfl, rfl, rfl, trivial⟩
        refine then_normal ?_
        refine wp_seq ?_
        refine wp_region_lit ?_
        refine sq (opk_val hA234 rfl (r_move (hA234.get rfl)) fun a235 hA235 _ => ?_)
        refine sq (opk_val hA235 rfl (r_move (hA235.get rfl)) fun a236 hA236 _ => ?_)
        refine sq (opk_val hA236 rfl (r_move (hA236.get rfl)) fun a237 hA237 _ => ?_)
        obtain ⟨hS239, ht240⟩ := ht232
        refine sq (opk_val hA237 rfl (r_subI (hA237.get rfl) rfl hS239) fun a238 hA238 _ => ?_)
        refine sq (opk_call hA238 rfl (r_call (args := #[.pointer r_0_40, .int .i64 x_230, .int .i64 0, .int .i64 ((r_5_Kids.n : Int) - 1)]) Try.func26 (by decide) rfl (map_arr (ml_cons (hA238.get rfl) (ml_cons (hA238.get rfl) (ml_cons rfl (ml_cons (hA238.get rfl) ml_nil))))) rfl) ht240 fun a242 v248 w243 hA242 _ hn245 hz246 hK247 => ?_)
        obtain ⟨r_241, rfl, ht244⟩ := hK247
        have hB249 := hB211.kept hn245 (.head _)
        refine sq (opk_val hA242 rfl (r_neq (hA242.get rfl) rfl) fun a250 hA250 _ => ?_)
        refine sq (opk_val hA250 rfl (r_move (hA250.get rfl)) fun a251 hA251 _ => ?_)
        refine sq (opk_gval hA251 rfl rfl (g := true) (e := (decide (r_241 ≠ 0))) rfl (fun hg => r_move (hA251.get rfl)) fun a252 hA252 _ => ?_)
        refine sq (opk_gval hA252 rfl rfl (g := true) (e := (decide (r_241 ≠ 0))) rfl (fun hg => r_move (hA252.get rfl)) fun a253 hA253 _ => ?_)
        obtain ⟨r_254, hc258, ht257⟩ := ht244
        refine sq (opk_gcall hA253 rfl rfl (g := true) (e := (decide (r_241 ≠ 0))) rfl (fun hg => r_call (args := #[.pointer r_0_40, .int .i64 x_230]) Try.func27 (by decide) rfl (map_arr (ml_cons (cv_get (hA253.get rfl) hg) (ml_cons (cv_get (hA253.get rfl) hg) ml_nil))) rfl) (fun hg => hc258 (of_decide_eq_false (g_f hg))) fun a255 w256 hA255 _ hE259 => ?_)
        have hB260 := hB249.ext hE259
        have hC261 : Chg [] w243 w256 := hE259
        have ht262 := ht257 w256 hE259
        refine sq (opk_gval hA255 rfl rfl (g := true) (e := (decide (r_241 ≠ 0))) rfl (fun hg => r_move (hA255.get rfl)) fun a263 hA263 _ => ?_)
        obtain ⟨hS265, ht266⟩ := ht262
        refine sq (opk_gval hA263 rfl rfl (g := true) (e := (decide (r_241 ≠ 0))) rfl (fun hg => r_subI (cv_get (hA263.get rfl) hg) rfl (hS265 (of_decide_eq_false (g_f hg)))) fun a264 hA264 _ => ?_)
        refine sq (opk_gval hA264 rfl rfl (g := true) (e := (decide (r_241 ≠ 0))) rfl (fun hg => r_neq (cv_get (hA264.get rfl) hg) (cv_get (hA264.get rfl) hg)) fun a267 hA267 _ => ?_)
        refine sq (opk_val hA267 rfl (r_pick_or (g := (true && ((decide (r_241 ≠ 0)) == false))) (hA267.get rfl) (hA267.get rfl) (fun he => g_mkf rfl he)) fun a268 hA268 _ => ?_)
        refine sq (opk_val hA268 rfl (r_move (hA268.get rfl)) fun a269 hA269 _ => ?_)
        refine sq (opk_gval hA269 rfl rfl (g := true) (e := ((decide (r_241 ≠ 0)) || (decide (r_254 ≠ ((r_5_Kids.n : Int) - 1))))) rfl (fun hg => r_move (hA269.get rfl)) fun a270 hA270 _ => ?_)
        refine sq (opk_gval hA270 rfl rfl (g := true) (e := ((decide (r_241 ≠ 0)) || (decide (r_254 ≠ ((r_5_Kids.n : Int) - 1))))) rfl (fun hg => r_move (hA270.get rfl)) fun a271 hA271 _ => ?_)
        refine sq (opk_gval hA271 rfl rfl (g := true) (e := ((decide (r_241 ≠ 0)) || (decide (r_254 ≠ ((r_5_Kids.n : Int) - 1))))) rfl (fun hg => r_move (hA271.get rfl)) fun a272 hA272 _ => ?_)
        obtain ⟨r_273, hc277, ht276⟩ := ht266
        refine sq (opk_gcall hA272 rfl rfl (g := true) (e := ((decide (r_241 ≠ 0)) || (decide (r_254 ≠ ((r_5_Kids.n : Int) - 1))))) rfl (fun hg => r_call (args := #[.pointer r_0_40, .int .i64 x_230, .int .i64 0, .int .i64 (r_5_Kids.n : Int)]) Try.func26 (by decide) rfl (map_arr (ml_cons (cv_get (hA272.get rfl) hg) (ml_cons (cv_get (hA272.get rfl) hg) (ml_cons rfl (ml_cons (cv_get (hA272.get rfl) hg) ml_nil))))) rfl) (fun hg => hc277 ⟨(of_decide_eq_false (b_or_f (g_f hg)).1), (of_decide_eq_false (b_or_f (g_f hg)).2)⟩) fun a274 w275 hA274 _ hE278 => ?_)
        have hB279 := hB260.ext hE278
        have hC280 : Chg [] w256 w275 := hE278
        have ht281 := ht276 w275 hE278
        refine sq (opk_gval hA274 rfl rfl (g := true) (e := ((decide (r_241 ≠ 0)) || (decide (r_254 ≠ ((r_5_Kids.n : Int) - 1))))) rfl (fun hg => r_neq (cv_get (hA274.get rfl) hg) rfl) fun a282 hA282 _ => ?_)
        refine sq (opk_val hA282 rfl (r_pick_or (g := (true && (((decide (r_241 ≠ 0)) || (decide (r_254 ≠ ((r_5_Kids.n : Int) - 1)))) == false))) (hA282.get rfl) (hA282.get rfl) (fun he => g_mkf rfl he)) fun a283 hA283 _ => ?_)
        refine sq (opk_val hA283 rfl (r_move (hA283.get rfl)) fun a284 hA284 _ => ?_)
        refine sq (opk_gval hA284 rfl rfl (g := true) (e := (((decide (r_241 ≠ 0)) || (decide (r_254 ≠ ((r_5_Kids.n : Int) - 1)))) || (decide (r_273 ≠ 5)))) rfl (fun hg => r_move (hA284.get rfl)) fun a285 hA285 _ => ?_)
        refine sq (opk_gval hA285 rfl rfl (g := true) (e := (((decide (r_241 ≠ 0)) || (decide (r_254 ≠ ((r_5_Kids.n : Int) - 1)))) || (decide (r_273 ≠ 5)))) rfl (fun hg => r_move (hA285.get rfl)) fun a286 hA286 _ => ?_)
        refine sq (opk_gval hA286 rfl rfl (g := true) (e := (((decide (r_241 ≠ 0)) || (decide (r_254 ≠ ((r_5_Kids.n : Int) - 1)))) || (decide (r_273 ≠ 5)))) rfl (fun hg => r_move (hA286.get rfl)) fun a287 hA287 _ => ?_)
        obtain ⟨r_288, hc292, ht291⟩ := ht281
        refine sq (opk_gcall hA287 rfl rfl (g := true) (e := (((decide (r_241 ≠ 0)) || (decide (r_254 ≠ ((r_5_Kids.n : Int) - 1)))) || (decide (r_273 ≠ 5)))) rfl (fun hg => r_call (args := #[.pointer r_0_40, .int .i64 x_230, .int .i64 x_230, .int .i64 0]) Try.func26 (by decide) rfl (map_arr (ml_cons (cv_get (hA287.get rfl) hg) (ml_cons (cv_get (hA287.get rfl) hg) (ml_cons (cv_get (hA287.get rfl) hg) (ml_cons rfl ml_nil))))) rfl) (fun hg => hc292 ⟨⟨(of_decide_eq_false (b_or_f (b_or_f (g_f hg)).1).1), (of_decide_eq_false (b_or_f (b_or_f (g_f hg)).1).2)⟩, (of_decide_eq_false (b_or_f (g_f hg)).2)⟩) fun a289 w290 hA289 _ hE293 => ?_)
        have hB294 := hB279.ext hE293
        have hC295 : Chg [] w275 w290 := hE293
        have ht296 := ht291 w290 hE293
        refine sq (opk_gval hA289 rfl rfl (g := true) (e := (((decide (r_241 ≠ 0)) || (decide (r_254 ≠ ((r_5_Kids.n : Int) - 1)))) || (decide (r_273 ≠ 5)))) rfl (fun hg => r_eql (cv_get (hA289.get rfl) hg) rfl) fun a297 hA297 _ => ?_)
        refine sq (opk_val hA297 rfl (r_pick_or (g := (true && ((((decide (r_241 ≠ 0)) || (decide (r_254 ≠ ((r_5_Kids.n : Int) - 1)))) || (decide (r_273 ≠ 5))) == false))) (hA297.get rfl) (hA297.get rfl) (fun he => g_mkf rfl he)) fun a298 hA298 _ => ?_)
        refine sq_end ?_
        have hA299 := hA298.keep [(3, .pointer (some (⟨B_13, 0, none⟩ : Addr))), (4, .pointer r_0_40), (6, .int .i64 (r_5_Kids.n : Int)), (7, .int .i64 i_70), (64, .bool ((((decide (r_241 ≠ 0)) || (decide (r_254 ≠ ((r_5_Kids.n : Int) - 1)))) || (decide (r_273 ≠ 5))) || (decide (r_288 = 0))))] ⟨rfl, rfl, rfl, rfl, rfl, trivial⟩
        refine then_normal ?_
        refine wp_cond_split (hA299.get rfl) (fun hc => ?_) (fun hc => ?_)
        · have ht300 := ht296.1 ((b_or_t hc).imp (fun h => ((b_or_t h).imp (fun h => ((b_or_t h).imp (fun h => (of_decide_eq_true h)) (fun h => (of_decide_eq_true h)))) (fun h => (of_decide_eq_true h)))) (fun h => (of_decide_eq_true h)))
          clear hc
          refine wp_seq ?_
          refine wp_region_lit ?_
          refine sq (opk_val hA299 rfl (r_assign rfl) fun a302 hA302 _ => ?_)
          refine sq_end ?_
          have hA303 := hA302.keep [(2, .bool false)] ⟨rfl, trivial⟩
          refine then_normal ?_
          refine wp_ret ?_
          refine block_ret ?_
          refine then_ret ?_
          refine then_ret ?_
          refine block_ret ?_
          refine then_ret ?_
          exact res_all (vs := [.bool false]) rfl hA303 ⟨res_of_tmp hA303 rfl, trivial⟩ ht300
        · have ht301 := ht296.2 ⟨⟨⟨(of_decide_eq_false (b_or_f (b_or_f (b_or_f hc).1).1).1), (of_decide_eq_false (b_or_f (b_or_f (b_or_f hc).1).1).2)⟩, (of_decide_eq_false (b_or_f (b_or_f hc).1).2)⟩, (of_decide_eq_false (b_or_f hc).2)⟩
          clear hc
          refine wp_skip ?_
          refine block_normal ?_
          refine then_normal ?_
          refine wp_region_lit ?_
          refine sq (opk_val hA299 rfl (r_move (hA299.get rfl)) fun a304 hA304 _ => ?_)
          obtain ⟨hS306, ht307⟩ := ht301
          refine sq (opk_val hA304 rfl (r_addI (hA304.get rfl) rfl hS306) fun a305 hA305 _ => ?_)
          refine sq (opk_val hA305 rfl (r_assign (hA305.get rfl)) fun a308 hA308 _ => ?_)
          refine sq_end ?_
          have hA309 := hA308.keep [(3, .pointer (some (⟨B_13, 0, none⟩ : Addr))), (4, .pointer r_0_40), (6, .int .i64 (r_5_Kids.n : Int)), (7, .int .i64 (i_70 + 1))] ⟨rfl, rfl, rfl, rfl, trivial⟩
          have hA310 := hA309.keep [(3, .pointer (some (⟨B_13, 0, none⟩ : Addr))), (4, .pointer r_0_40), (6, .int .i64 (r_5_Kids.n : Int)), (7, .int .i64 (i_70 + 1))] ⟨rfl, rfl, rfl, rfl, trivial⟩
          exact then_normal ⟨(i_70 + 1, w290), ⟨hA310, hB294, rfl, ht307.1⟩, ht307.2⟩
    · have ht201 := ht194.2 (of_decide_eq_false hc)
      clear hc
      refine wp_exit ?_
      refine then_exit ?_
      refine then_exit ?_
      refine block_hit ?_
      have hA311 := hA199.keep [(3, .pointer (some (⟨B_13, 0, none⟩ : Addr))), (4, .pointer r_0_40)] ⟨rfl, rfl, trivial⟩
      refine then_normal ?_
      refine wp_seq ?_
      refine draw' (by kernel_rfl) fun w312 hE313 => ?_
      have hB314 := hB191.ext hE313
      have hC315 : Chg [] w71 w312 := hE313
      have ht316 := ht201 w312    hC315
      obtain ⟨V_319, hst320, hc321, ht322⟩ := ht316
      obtain ⟨r_326, hc327, ht328⟩ := ht322
      obtain ⟨r_331, hc332, ht333⟩ := ht328
      refine par (D := [[], [0], [], [0, 1, 2], [0, 1, 2, 3], [0, 1, 2, 3, 4], [0, 1, 2, 3, 4, 5], [0, 1, 2, 3, 4, 5, 6]]) (S := [0, 1, 2, 3, 4, 5, 6, 7]) (F := []) (V := VL [(0, fun v _ => v = .pointer r_0_40), (1, fun v w' => ∃ r_318_Kind : Int, ∃ r_318_Name : Str, ∃ r_318_Text : Str, ∃ r_318_Attrs : Sl, ∃ r_318_Kids : Sl, V_319 r_318_Kind r_318_Name r_318_Text r_318_Attrs r_318_Kids w' ∧ v = .agg #[.int .i64 r_318_Kind, .string (Bs r_318_Name), .string (Bs r_318_Text), Sl.v r_318_Attrs, Sl.v r_318_Kids]), (2, fun v _ => v = .agg #[.int .i64 r_5_Kind, .string (Bs r_5_Name), .string (Bs r_5_Text), Sl.v r_5_Attrs, Sl.v r_5_Kids]), (3, fun v _ => v = .bool r_326), (4, fun v _ => v = .bool r_326), (5, fun v _ => v = cV (true && (r_326 == true)) (.bool r_331)), (6, fun v _ => v = .bool (r_326 && r_331)), (7, fun v _ => v = .bool (r_326 && r_331))]) hA311 (by kernel_rfl) ⟨fun _ _ _ _ h => by first | exact h | (change _ = _ at h; change _ = _; exact h), fun _ _ _ hE ⟨r_318_Kind, r_318_Name, r_318_Text, r_318_Attrs, r_318_Kids, h0_, e⟩ => ⟨r_318_Kind, r_318_Name, r_318_Text, r_318_Attrs, r_318_Kids, (hst320 r_318_Kind r_318_Name r_318_Text r_318_Attrs r_318_Kids _ _ hE h0_), e⟩, fun _ _ _ _ h => by first | exact h | (change _ = _ at h; change _ = _; exact h), fun _ _ _ _ h => by first | exact h | (change _ = _ at h; change _ = _; exact h), fun _ _ _ _ h => by first | exact h | (change _ = _ at h; change _ = _; exact h), fun _ _ _ _ h => by first | exact h | (change _ = _ at h; change _ = _; exact h), fun _ _ _ _ h => by first | exact h | (change _ = _ at h; change _ = _; exact h), fun _ _ _ _ h => by first | exact h | (change _ = _ at h; change _ = _; exact h), trivial⟩ ⟨?_, ?_, ?_, ?_, ?_, ?_, ?_, ?_, trivial⟩ ?_
      · intro a w hT
        have hAp := hT.ag hA311 [(4, .pointer r_0_40)] ⟨rfl, trivial⟩ (by kernel_rfl)
        exact opk_val hAp rfl (r_move (hAp.get rfl)) fun _ _ e => ⟨_, e, Chg.refl _ _, fun _ => Eq.refl _⟩
      · intro a w hT
        have hAp := hT.ag hA311 [] trivial (by kernel_rfl)
        have e317 : a.tmps.getD 65 undef = .pointer r_0_40 := hT.vals 0 rfl 65 rfl
        have hAp := hAp.add e317
        exact opk_callX hAp rfl (r_call (args := #[.pointer r_0_40]) Try.func18 (by decide) rfl (map_arr (ml_cons (hAp.get rfl) ml_nil)) rfl) (hc321 w hT.chg) fun _ _ _ _ e ⟨hE, r_318_Kind, r_318_Name, r_318_Text, r_318_Attrs, r_318_Kids, he, hV⟩ => ⟨_, e, hE, fun _ => ⟨r_318_Kind, r_318_Name, r_318_Text, r_318_Attrs, r_318_Kids, hV, he⟩⟩
      · intro a w hT
        have hAp := hT.ag hA311 [(3, .pointer (some (⟨B_13, 0, none⟩ : Addr)))] ⟨rfl, trivial⟩ (by kernel_rfl)
        exact opk_val hAp rfl (r_loadN (cs := [.int .i64 r_5_Kind, .string (Bs r_5_Name), .string (Bs r_5_Text), Sl.v r_5_Attrs, Sl.v r_5_Kids]) Try.underlying29 rfl ti_29 (hAp.get rfl) ((hB314.ext hT.chg).part 0 _ rfl)) fun _ _ e => ⟨_, e, Chg.refl _ _, fun _ => Eq.refl _⟩
      · intro a w hT
        have hAp := hT.ag hA311 [] trivial (by kernel_rfl)
        obtain ⟨r_318_Kind, r_318_Name, r_318_Text, r_318_Attrs, r_318_Kids, hf324, e323⟩ := hT.vals 1 rfl 66 rfl
        have hAp := hAp.add e323
        have e325 : a.tmps.getD 67 undef = .agg #[.int .i64 r_5_Kind, .string (Bs r_5_Name), .string (Bs r_5_Text), Sl.v r_5_Attrs, Sl.v r_5_Kids] := hT.vals 2 rfl 67 rfl
        have hAp := hAp.add e325
        exact opk_callX hAp rfl (r_call (args := #[.agg #[.int .i64 r_318_Kind, .string (Bs r_318_Name), .string (Bs r_318_Text), Sl.v r_318_Attrs, Sl.v r_318_Kids], .agg #[.int .i64 r_5_Kind, .string (Bs r_5_Name), .string (Bs r_5_Text), Sl.v r_5_Attrs, Sl.v r_5_Kids]]) Try.func24 (by decide) rfl (map_arr (ml_cons (hAp.get rfl) (ml_cons (hAp.get rfl) ml_nil))) rfl) (hc327 r_318_Kind r_318_Name r_318_Text r_318_Attrs r_318_Kids w hT.chg hf324) fun _ _ _ _ e hR => ⟨_, e, hR.1, fun _ => hR.2⟩
      · intro a w hT
        have hAp := hT.ag hA311 [] trivial (by kernel_rfl)
        have e329 : a.tmps.getD 68 undef = .bool r_326 := hT.vals 3 rfl 68 rfl
        have hAp := hAp.add e329
        exact opk_val hAp rfl (r_move (hAp.get rfl)) fun _ _ e => ⟨_, e, Chg.refl _ _, fun _ => Eq.refl _⟩
      · intro a w hT
        have hAp := hT.ag hA311 [] trivial (by kernel_rfl)
        have e330 : a.tmps.getD 69 undef = .bool r_326 := hT.vals 4 rfl 69 rfl
        have hAp := hAp.add e330
        exact opk_gcall hAp rfl rfl (g := true) (e := r_326) rfl (fun hg => r_call (args := #[]) Try.func19 (by decide) rfl (map_arr ml_nil) rfl) (fun hg => hc332 (g_t hg) w hT.chg) fun _ _ _ e hE => ⟨_, e, hE, fun _ => Eq.refl _⟩
      · intro a w hT
        have hAp := hT.ag hA311 [] trivial (by kernel_rfl)
        have e334 : a.tmps.getD 69 undef = .bool r_326 := hT.vals 4 rfl 69 rfl
        have hAp := hAp.add e334
        have e335 : a.tmps.getD 70 undef = cV (true && (r_326 == true)) (.bool r_331) := hT.vals 5 rfl 70 rfl
        have hAp := hAp.add e335
        exact opk_val hAp rfl (r_pick_and (g := (true && (r_326 == true))) (hAp.get rfl) (hAp.get rfl) (fun he => g_mkt rfl he)) fun _ _ e => ⟨_, e, Chg.refl _ _, fun _ => Eq.refl _⟩
      · intro a w hT
        have hAp := hT.ag hA311 [] trivial (by kernel_rfl)
        have e336 : a.tmps.getD 71 undef = .bool (r_326 && r_331) := hT.vals 6 rfl 71 rfl
        have hAp := hAp.add e336
        exact opk_val hAp rfl (r_assign (hAp.get rfl)) fun _ _ e => ⟨_, e, Chg.refl _ _, fun _ => Eq.refl _⟩
      · intro a337 w338 hE339 hag340 hv341
        have hA337 := hag340 [] trivial (by kernel_rfl)
        have e343 : a337.tmps.getD 2 undef = .bool (r_326 && r_331) := hv341 7 rfl 2 rfl
        have hA344 := hA337.add e343
        have hB345 := hB314.ext hE339
        have hC346 : Chg [] w312 w338 := hE339
        refine PR_end (by kernel_rfl) ?_
        have hA347 := hA344.keep [(2, .bool (r_326 && r_331))] ⟨rfl, trivial⟩
        refine then_normal ?_
        refine wp_ret ?_
        have ht348 := ht333 w338    hC346
        exact res_all (vs := [.bool (r_326 && r_331)]) rfl hA347 ⟨res_of_tmp hA347 rfl, trivial⟩ ht348

end Go.Proofs.Ytghmgfkdnolcdaa
