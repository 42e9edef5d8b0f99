/-
  PRINTED BY PROGRAM: for each function its condition (vc), and that this suffices (ok).
-/
import Derived.Test.YtghmgfkdnolcdaaQDomEmptiesGT
namespace Go.Proofs.Ytghmgfkdnolcdaa
open Go.RowKit
set_option linter.unusedVariables false

/-- The condition of topiary/topiarylaw06.DomEmpties. -/
def law06_DomEmpties.vc (l_1 : Sl) (R : Value → World → Prop) (w : World) : Prop :=
CallK Try.prog 20 #[Sl.v l_1] w [] (fun v w7 => ∃ (r_5_Kind : Int) (r_5_Name : Str) (r_5_Text : Str) (r_5_Attrs : Sl) (r_5_Kids : Sl), v = .agg #[.int .i64 r_5_Kind, .string (Bs r_5_Name), .string (Bs r_5_Text), Sl.v r_5_Attrs, Sl.v r_5_Kids] ∧
CallK Try.prog 13 #[.agg #[.int .i64 r_5_Kind, .string (Bs r_5_Name), .string (Bs r_5_Text), Sl.v r_5_Attrs, Sl.v r_5_Kids]] w7 [] (fun v w16 => ∃ (r_0_13 : Option Addr) (r_1_14 : Int), v = .tuple #[.pointer r_0_13, .int .i64 r_1_14] ∧
((r_1_14 ≠ 0) →
R (.bool false) w16) ∧
((¬ (r_1_14 ≠ 0)) →
CallK Try.prog 16 #[.pointer r_0_13] w16 [] (fun v w38 => ∃ (r_36 : Int), v = .int .i64 r_36 ∧
(I64 (r_36 - 1)) ∧
∃ (J_54 : Int → World → Prop) (mu_55 : Int → World → Nat),
J_54 (r_36 - 1) w38 ∧
(∀ (id_52 : Int) (w53 : World), J_54 id_52 w53 →
((1 ≤ id_52) →
∃ V_177 : Sl → World → Prop, (((1 < id_52)) → Calls Try.prog 21 #[.pointer r_0_13, .int .i64 0] w53 (Ret fun v w' => Ext w53 w' ∧ ∃ r_173 : Sl, v = Sl.v r_173 ∧ V_177 r_173 w')) ∧
(∀ (r_173 : Sl) (w175 : World), Ext w53 w175 → (((1 < id_52)) → V_177 r_173 w175) →
∃ (r_191 : Int), ((((1 < id_52) ∧ (0 < (r_173.n : Int)))) → Calls Try.prog 22 #[.pointer r_0_13, .int .i64 0] w175 (Ret fun v w' => Ext w175 w' ∧ v = .int .i64 r_191)) ∧
(∀ w193 : World, Ext w175 w193 →
((((1 < id_52) ∧ (0 < (r_173.n : Int))) ∧ (r_191 ≠ 4)) →
R (.bool false) w193) ∧
((((¬ (1 < id_52)) ∨ (¬ (0 < (r_173.n : Int)))) ∨ (¬ (r_191 ≠ 4))) →
CallK Try.prog 22 #[.pointer r_0_13, .int .i64 id_52] w193 [] (fun v w210 => ∃ (r_208 : Int), v = .int .i64 r_208 ∧
∃ (r_220 : Bool), (((¬ (r_208 ≠ 0))) → Calls Try.prog 23 #[.pointer r_0_13, .int .i64 id_52] w210 (Ret fun v w' => Ext w210 w' ∧ v = .bool r_220)) ∧
(∀ w222 : World, Ext w210 w222 →
∃ (r_231 : Int), ((((¬ (r_208 ≠ 0)) ∧ (r_220 = false))) → Calls Try.prog 16 #[.pointer r_0_13] w222 (Ret fun v w' => Ext w222 w' ∧ v = .int .i64 r_231)) ∧
(∀ w233 : World, Ext w222 w233 →
∃ (r_245 : Int), (((((¬ (r_208 ≠ 0)) ∧ (r_220 = false)) ∧ (¬ (r_231 ≠ id_52)))) → Calls Try.prog 22 #[.pointer r_0_13, .int .i64 id_52] w233 (Ret fun v w' => Ext w233 w' ∧ v = .int .i64 r_245)) ∧
(∀ w247 : World, Ext w233 w247 →
(((((r_208 ≠ 0) ∨ (r_220 = true)) ∨ (r_231 ≠ id_52)) ∨ (r_245 ≠ 3)) →
R (.bool false) w247) ∧
(((((¬ (r_208 ≠ 0)) ∧ (r_220 = false)) ∧ (¬ (r_231 ≠ id_52))) ∧ (¬ (r_245 ≠ 3))) →
(I64 (id_52 - 1)) ∧
J_54 (id_52 - 1) w247 ∧ mu_55 (id_52 - 1) w247 < mu_55 id_52 w53))))))))) ∧
((¬ (1 ≤ id_52)) →
CallK Try.prog 16 #[.pointer r_0_13] w53 [] (fun v w271 => ∃ (r_269 : Int), v = .int .i64 r_269 ∧
∃ V_284 : Sl → World → Prop, (((r_269 = 1)) → Calls Try.prog 21 #[.pointer r_0_13, .int .i64 0] w271 (Ret fun v w' => Ext w271 w' ∧ ∃ r_280 : Sl, v = Sl.v r_280 ∧ V_284 r_280 w')) ∧
(∀ (r_280 : Sl) (w282 : World), Ext w271 w282 → (((r_269 = 1)) → V_284 r_280 w282) →
∃ V_302 : Int → Str → Str → Sl → Sl → World → Prop, ((((r_269 = 1) ∧ ((r_280.n : Int) = 0))) → Calls Try.prog 18 #[.pointer r_0_13] w282 (Ret fun v w' => Ext w282 w' ∧ ∃ r_298_Kind : Int, ∃ r_298_Name : Str, ∃ r_298_Text : Str, ∃ r_298_Attrs : Sl, ∃ r_298_Kids : Sl, v = .agg #[.int .i64 r_298_Kind, .string (Bs r_298_Name), .string (Bs r_298_Text), Sl.v r_298_Attrs, Sl.v r_298_Kids] ∧ V_302 r_298_Kind r_298_Name r_298_Text r_298_Attrs r_298_Kids w')) ∧
(∀ (r_298_Kind : Int) (r_298_Name : Str) (r_298_Text : Str) (r_298_Attrs : Sl) (r_298_Kids : Sl) (w300 : World), Ext w282 w300 → ((((r_269 = 1) ∧ ((r_280.n : Int) = 0))) → V_302 r_298_Kind r_298_Name r_298_Text r_298_Attrs r_298_Kids w300) →
∃ (r_312 : Bool), ((((r_269 = 1) ∧ ((r_280.n : Int) = 0))) → Calls Try.prog 24 #[.agg #[.int .i64 r_298_Kind, .string (Bs r_298_Name), .string (Bs r_298_Text), Sl.v r_298_Attrs, Sl.v r_298_Kids], .agg #[.int .i64 1, .string (Bs ([] : Str)), .string (Bs ([] : Str)), Sl.v Sl.nil, Sl.v Sl.nil]] w300 (Ret fun v w' => Ext w300 w' ∧ v = .bool r_312)) ∧
(∀ w314 : World, Ext w300 w314 →
∃ (r_322 : Bool), (((((r_269 = 1) ∧ ((r_280.n : Int) = 0)) ∧ (r_312 = true))) → Calls Try.prog 19 #[] w314 (Ret fun v w' => Ext w314 w' ∧ v = .bool r_322)) ∧
(∀ w324 : World, Ext w314 w324 →
R (.bool ((((decide (r_269 = 1)) && (decide ((r_280.n : Int) = 0))) && r_312) && r_322)) w324)))))))))))
set_option maxHeartbeats 1000000 in
set_option maxRecDepth 10000 in
theorem law06_DomEmpties.ok (l_1 : Sl) {R : Value → World → Prop} {w : World} (ht0 : law06_DomEmpties.vc l_1 R w) : Calls Try.prog 4 #[Sl.v l_1] w (Ret R) := by
  refine enter [Sl.v l_1] Try.func4 rfl Try.ntmps4 rfl ?_
  intro a0 hA0
  unfold law06_DomEmpties.vc at ht0
  refine wp_seq ?_
  refine wp_region_lit ?_
  refine sq (opk_val hA0 rfl (r_assign rfl) fun a2 hA2 _ => ?_)
  refine sq_end ?_
  have hA3 := hA2.keep [(0, Sl.v l_1)] ⟨rfl, trivial⟩
  refine then_normal ?_
  refine wp_seq ?_
  refine wp_region_lit ?_
  refine sq (opk_val hA3 rfl (r_move (hA3.get rfl)) fun a4 hA4 _ => ?_)
  refine sq (opk_call hA4 rfl (r_call (args := #[Sl.v l_1]) Try.func20 (by decide) rfl (map_arr (ml_cons (hA4.get rfl) ml_nil)) rfl) ht0 fun a6 v12 w7 hA6 _ hn9 hz10 hK11 => ?_)
  obtain ⟨r_5_Kind, r_5_Name, r_5_Text, r_5_Attrs, r_5_Kids, rfl, ht8⟩ := hK11
  refine sq (opk_call hA6 rfl (r_call (args := #[.agg #[.int .i64 r_5_Kind, .string (Bs r_5_Name), .string (Bs r_5_Text), Sl.v r_5_Attrs, Sl.v r_5_Kids]]) Try.func13 (by decide) rfl (map_arr (ml_cons (hA6.get rfl) ml_nil)) rfl) ht8 fun a15 v21 w16 hA15 _ hn18 hz19 hK20 => ?_)
  obtain ⟨r_0_13, r_1_14, rfl, ht17⟩ := hK20
  refine sq (opk_val hA15 rfl (r_move (hA15.get rfl)) fun a22 hA22 _ => ?_)
  refine sq (opk_val hA22 rfl (r_extract (hA22.get rfl) rfl) fun a23 hA23 _ => ?_)
  refine sq (opk_val hA23 rfl (r_extract (hA23.get rfl) rfl) fun a24 hA24 _ => ?_)
  refine sq (opk_val hA24 rfl (r_assign (hA24.get rfl)) fun a25 hA25 _ => ?_)
  refine sq (opk_val hA25 rfl (r_assign (hA25.get rfl)) fun a26 hA26 _ => ?_)
  refine sq_end ?_
  have hA27 := hA26.keep [(3, .pointer r_0_13), (4, .int .i64 r_1_14)] ⟨rfl, rfl, trivial⟩
  refine then_normal ?_
  refine wp_seq ?_
  refine wp_seq ?_
  refine wp_region_lit ?_
  refine sq (opk_val hA27 rfl (r_move (hA27.get rfl)) fun a28 hA28 _ => ?_)
  refine sq (opk_val hA28 rfl (r_neq (hA28.get rfl) rfl) fun a29 hA29 _ => ?_)
  refine sq_end ?_
  have hA30 := hA29.keep [(3, .pointer r_0_13), (14, .bool (decide (r_1_14 ≠ 0)))] ⟨rfl, rfl, trivial⟩
  refine then_normal ?_
  refine wp_cond_split (hA30.get rfl) (fun hc => ?_) (fun hc => ?_)
  · have ht31 := ht17.1 (of_decide_eq_true hc)
    clear hc
    refine wp_seq ?_
    refine wp_region_lit ?_
    refine sq (opk_val hA30 rfl (r_assign rfl) fun a33 hA33 _ => ?_)
    refine sq_end ?_
    have hA34 := hA33.keep [(2, .bool false)] ⟨rfl, trivial⟩
    refine then_normal ?_
    refine wp_ret ?_
    refine then_ret ?_
    exact res_all (vs := [.bool false]) rfl hA34 ⟨res_of_tmp hA34 rfl, trivial⟩ ht31
  · have ht32 := ht17.2 (of_decide_eq_false hc)
    clear hc
    refine wp_skip ?_
    refine then_normal ?_
    refine wp_seq ?_
    refine wp_region_lit ?_
    refine sq (opk_val hA30 rfl (r_move (hA30.get rfl)) fun a35 hA35 _ => ?_)
    refine sq (opk_call hA35 rfl (r_call (args := #[.pointer r_0_13]) Try.func16 (by decide) rfl (map_arr (ml_cons (hA35.get rfl) ml_nil)) rfl) ht32 fun a37 v43 w38 hA37 _ hn40 hz41 hK42 => ?_)
    obtain ⟨r_36, rfl, ht39⟩ := hK42
    refine sq (opk_val hA37 rfl (r_assign (hA37.get rfl)) fun a44 hA44 _ => ?_)
    refine sq_end ?_
    have hA45 := hA44.keep [(3, .pointer r_0_13), (5, .int .i64 r_36)] ⟨rfl, rfl, trivial⟩
    refine then_normal ?_
    refine wp_seq ?_
    refine wp_seq ?_
    refine wp_region_lit ?_
    refine sq (opk_val hA45 rfl (r_move (hA45.get rfl)) fun a46 hA46 _ => ?_)
    obtain ⟨hS48, ht49⟩ := ht39
    refine sq (opk_val hA46 rfl (r_subI (hA46.get rfl) rfl hS48) fun a47 hA47 _ => ?_)
    refine sq (opk_val hA47 rfl (r_assign (hA47.get rfl)) fun a50 hA50 _ => ?_)
    refine sq_end ?_
    have hA51 := hA50.keep [(3, .pointer r_0_13), (6, .int .i64 (r_36 - 1))] ⟨rfl, rfl, trivial⟩
    refine then_normal ?_
    refine wp_block ?_
    obtain ⟨J_54, mu_55, h0161, ht160⟩ := ht49
    refine wp_loop_st (σ := Int × World) (fun s a w => Ag 75 a [(3, .pointer r_0_13), (6, .int .i64 s.1)] ∧ w = s.2 ∧ J_54 s.1 s.2) (fun s => mu_55 s.1 s.2) (r_36 - 1, w38) ⟨hA51.keep [(3, .pointer r_0_13), (6, .int .i64 (r_36 - 1))] ⟨rfl, rfl, trivial⟩, rfl, h0161⟩ ?_
    rintro ⟨id_52, w53⟩ a159 w_ ⟨hA159, hw_, hJ163⟩
    have hw_ : w53 = w_ := hw_.symm
    subst hw_
    have ht162 := ht160 id_52 _ hJ163
    refine wp_seq ?_
    refine wp_seq ?_
    refine wp_region_lit ?_
    refine sq (opk_val hA159 rfl (r_move (hA159.get rfl)) fun a164 hA164 _ => ?_)
    refine sq (opk_val hA164 rfl (r_geq (hA164.get rfl) rfl) fun a165 hA165 _ => ?_)
    refine sq_end ?_
    have hA166 := hA165.keep [(3, .pointer r_0_13), (6, .int .i64 id_52), (20, .bool (decide (1 ≤ id_52)))] ⟨rfl, rfl, rfl, trivial⟩
    refine then_normal ?_
    refine wp_cond_split (hA166.get rfl) (fun hc => ?_) (fun hc => ?_)
    · have ht167 := ht162.1 (of_decide_eq_true hc)
      clear hc
      refine wp_skip ?_
      refine then_normal ?_
      refine wp_seq ?_
      refine wp_block ?_
      refine wp_seq ?_
      refine wp_seq ?_
      refine wp_region_lit ?_
      refine sq (opk_val hA166 rfl (r_move (hA166.get rfl)) fun a169 hA169 _ => ?_)
      refine sq (opk_val hA169 rfl (r_gtr (hA169.get rfl) rfl) fun a170 hA170 _ => ?_)
      refine sq (opk_val hA170 rfl (r_move (hA170.get rfl)) fun a171 hA171 _ => ?_)
      refine sq (opk_gval hA171 rfl rfl (g := true) (e := (decide (1 < id_52))) rfl (fun hg => r_move (hA171.get rfl)) fun a172 hA172 _ => ?_)
      obtain ⟨V_177, hc178, ht176⟩ := ht167
      refine sq (opk_gcallM hA172 rfl rfl (g := true) (e := (decide (1 < id_52))) rfl (fun hg => r_call (args := #[.pointer r_0_13, .int .i64 0]) Try.func21 (by decide) rfl (map_arr (ml_cons (cv_get (hA172.get rfl) hg) (ml_cons rfl ml_nil))) rfl) (fun hg => hc178 (of_decide_eq_true (g_t hg))) fun a174 v181 w175 hA174 _ hE179 hR180 => ?_)
      obtain ⟨r_173, hx182, hV183⟩ := cvty (α := Sl) (fun s => Sl.v s) (fun s w => V_177 s w) (fun hg => by obtain ⟨r_173, h1, h2⟩ := hR180 hg; exact ⟨r_173, h1, h2⟩)
      rw [hx182] at hA174
      have hC184 : Chg [] w53 w175 := hE179
      have ht185 := ht176 r_173 w175 hE179 (fun hp => hV183 (g_mkt rfl (decide_eq_true hp)))
      refine sq (opk_gval hA174 rfl rfl (g := true) (e := (decide (1 < id_52))) rfl (fun hg => r_len (cv_get (hA174.get rfl) hg) Try.underlying36) fun a186 hA186 _ => ?_)
      refine sq (opk_gval hA186 rfl rfl (g := true) (e := (decide (1 < id_52))) rfl (fun hg => r_gtr (cv_get (hA186.get rfl) hg) rfl) fun a187 hA187 _ => ?_)
      refine sq (opk_val hA187 rfl (r_pick_and (g := (true && ((decide (1 < id_52)) == true))) (hA187.get rfl) (hA187.get rfl) (fun he => g_mkt rfl he)) fun a188 hA188 _ => ?_)
      refine sq (opk_val hA188 rfl (r_move (hA188.get rfl)) fun a189 hA189 _ => ?_)
      refine sq (opk_gval hA189 rfl rfl (g := true) (e := ((decide (1 < id_52)) && (decide (0 < (r_173.n : Int))))) rfl (fun hg => r_move (hA189.get rfl)) fun a190 hA190 _ => ?_)
      obtain ⟨r_191, hc195, ht194⟩ := ht185
      refine sq (opk_gcall hA190 rfl rfl (g := true) (e := ((decide (1 < id_52)) && (decide (0 < (r_173.n : Int))))) rfl (fun hg => r_call (args := #[.pointer r_0_13, .int .i64 0]) Try.func22 (by decide) rfl (map_arr (ml_cons (cv_get (hA190.get rfl) hg) (ml_cons rfl ml_nil))) rfl) (fun hg => hc195 ⟨(of_decide_eq_true (b_and_t (g_t hg)).1), (of_decide_eq_true (b_and_t (g_t hg)).2)⟩) fun a192 w193 hA192 _ hE196 => ?_)
      have hC197 : Chg [] w175 w193 := hE196
      have ht198 := ht194 w193 hE196
      refine sq (opk_gval hA192 rfl rfl (g := true) (e := ((decide (1 < id_52)) && (decide (0 < (r_173.n : Int))))) rfl (fun hg => r_neq (cv_get (hA192.get rfl) hg) rfl) fun a199 hA199 _ => ?_)
      refine sq (opk_val hA199 rfl (r_pick_and (g := (true && (((decide (1 < id_52)) && (decide (0 < (r_173.n : Int)))) == true))) (hA199.get rfl) (hA199.get rfl) (fun he => g_mkt rfl he)) fun a200 hA200 _ => ?_)
      refine sq_end ?_
      have hA201 := hA200.keep [(3, .pointer r_0_13), (6, .int .i64 id_52), (35, .bool (((decide (1 < id_52)) && (decide (0 < (r_173.n : Int)))) && (decide (r_191 ≠ 4))))] ⟨rfl, rfl, rfl, trivial⟩
      refine then_normal ?_
      refine wp_cond_split (hA201.get rfl) (fun hc => ?_) (fun hc => ?_)
      · have ht202 := ht198.1 ⟨⟨(of_decide_eq_true (b_and_t (b_and_t hc).1).1), (of_decide_eq_true (b_and_t (b_and_t hc).1).2)⟩, (of_decide_eq_true (b_and_t hc).2)⟩
        clear hc
        refine wp_seq ?_
        refine wp_region_lit ?_
        refine sq (opk_val hA201 rfl (r_assign rfl) fun a204 hA204 _ => ?_)
        refine sq_end ?_
        have hA205 := hA204.keep [(2, .bool false)] ⟨rfl, trivial⟩
        refine then_normal ?_
        refine wp_ret ?_
        refine then_ret ?_
        refine block_ret ?_
        refine then_ret ?_
        refine then_ret ?_
        refine block_ret ?_
        refine then_ret ?_
        exact res_all (vs := [.bool false]) rfl hA205 ⟨res_of_tmp hA205 rfl, trivial⟩ ht202
      · have ht203 := ht198.2 ((b_and_f hc).imp (fun h => ((b_and_f h).imp (fun h => (of_decide_eq_false h)) (fun h => (of_decide_eq_false h)))) (fun h => (of_decide_eq_false h)))
        clear hc
        refine wp_skip ?_
        refine then_normal ?_
        refine wp_seq ?_
        refine wp_region_lit ?_
        refine sq (opk_val hA201 rfl (r_move (hA201.get rfl)) fun a206 hA206 _ => ?_)
        refine sq (opk_val hA206 rfl (r_move (hA206.get rfl)) fun a207 hA207 _ => ?_)
        refine sq (opk_call hA207 rfl (r_call (args := #[.pointer r_0_13, .int .i64 id_52]) Try.func22 (by decide) rfl (map_arr (ml_cons (hA207.get rfl) (ml_cons (hA207.get rfl) ml_nil))) rfl) ht203 fun a209 v215 w210 hA209 _ hn212 hz213 hK214 => ?_)
        obtain ⟨r_208, rfl, ht211⟩ := hK214
        refine sq (opk_val hA209 rfl (r_neq (hA209.get rfl) rfl) fun a216 hA216 _ => ?_)
        refine sq (opk_val hA216 rfl (r_move (hA216.get rfl)) fun a217 hA217 _ => ?_)
        refine sq (opk_gval hA217 rfl rfl (g := true) (e := (decide (r_208 ≠ 0))) rfl (fun hg => r_move (hA217.get rfl)) fun a218 hA218 _ => ?_)
        refine sq (opk_gval hA218 rfl rfl (g := true) (e := (decide (r_208 ≠ 0))) rfl (fun hg => r_move (hA218.get rfl)) fun a219 hA219 _ => ?_)
        obtain ⟨r_220, hc224, ht223⟩ := ht211
        refine sq (opk_gcall hA219 rfl rfl (g := true) (e := (decide (r_208 ≠ 0))) rfl (fun hg => r_call (args := #[.pointer r_0_13, .int .i64 id_52]) Try.func23 (by decide) rfl (map_arr (ml_cons (cv_get (hA219.get rfl) hg) (ml_cons (cv_get (hA219.get rfl) hg) ml_nil))) rfl) (fun hg => hc224 (of_decide_eq_false (g_f hg))) fun a221 w222 hA221 _ hE225 => ?_)
        have hC226 : Chg [] w210 w222 := hE225
        have ht227 := ht223 w222 hE225
        refine sq (opk_val hA221 rfl (r_pick_or (g := (true && ((decide (r_208 ≠ 0)) == false))) (hA221.get rfl) (hA221.get rfl) (fun he => g_mkf rfl he)) fun a228 hA228 _ => ?_)
        refine sq (opk_val hA228 rfl (r_move (hA228.get rfl)) fun a229 hA229 _ => ?_)
        refine sq (opk_gval hA229 rfl rfl (g := true) (e := ((decide (r_208 ≠ 0)) || r_220)) rfl (fun hg => r_move (hA229.get rfl)) fun a230 hA230 _ => ?_)
        obtain ⟨r_231, hc235, ht234⟩ := ht227
        refine sq (opk_gcall hA230 rfl rfl (g := true) (e := ((decide (r_208 ≠ 0)) || r_220)) rfl (fun hg => r_call (args := #[.pointer r_0_13]) Try.func16 (by decide) rfl (map_arr (ml_cons (cv_get (hA230.get rfl) hg) ml_nil)) rfl) (fun hg => hc235 ⟨(of_decide_eq_false (b_or_f (g_f hg)).1), (b_or_f (g_f hg)).2⟩) fun a232 w233 hA232 _ hE236 => ?_)
        have hC237 : Chg [] w222 w233 := hE236
        have ht238 := ht234 w233 hE236
        refine sq (opk_gval hA232 rfl rfl (g := true) (e := ((decide (r_208 ≠ 0)) || r_220)) rfl (fun hg => r_move (hA232.get rfl)) fun a239 hA239 _ => ?_)
        refine sq (opk_gval hA239 rfl rfl (g := true) (e := ((decide (r_208 ≠ 0)) || r_220)) rfl (fun hg => r_neq (cv_get (hA239.get rfl) hg) (cv_get (hA239.get rfl) hg)) fun a240 hA240 _ => ?_)
        refine sq (opk_val hA240 rfl (r_pick_or (g := (true && (((decide (r_208 ≠ 0)) || r_220) == false))) (hA240.get rfl) (hA240.get rfl) (fun he => g_mkf rfl he)) fun a241 hA241 _ => ?_)
        refine sq (opk_val hA241 rfl (r_move (hA241.get rfl)) fun a242 hA242 _ => ?_)
        refine sq (opk_gval hA242 rfl rfl (g := true) (e := (((decide (r_208 ≠ 0)) || r_220) || (decide (r_231 ≠ id_52)))) rfl (fun hg => r_move (hA242.get rfl)) fun a243 hA243 _ => ?_)
        refine sq (opk_gval hA243 rfl rfl (g := true) (e := (((decide (r_208 ≠ 0)) || r_220) || (decide (r_231 ≠ id_52)))) rfl (fun hg => r_move (hA243.get rfl)) fun a244 hA244 _ => ?_)
        obtain ⟨r_245, hc249, ht248⟩ := ht238
        refine sq (opk_gcall hA244 rfl rfl (g := true) (e := (((decide (r_208 ≠ 0)) || r_220) || (decide (r_231 ≠ id_52)))) rfl (fun hg => r_call (args := #[.pointer r_0_13, .int .i64 id_52]) Try.func22 (by decide) rfl (map_arr (ml_cons (cv_get (hA244.get rfl) hg) (ml_cons (cv_get (hA244.get rfl) hg) ml_nil))) rfl) (fun hg => hc249 ⟨⟨(of_decide_eq_false (b_or_f (b_or_f (g_f hg)).1).1), (b_or_f (b_or_f (g_f hg)).1).2⟩, (of_decide_eq_false (b_or_f (g_f hg)).2)⟩) fun a246 w247 hA246 _ hE250 => ?_)
        have hC251 : Chg [] w233 w247 := hE250
        have ht252 := ht248 w247 hE250
        refine sq (opk_gval hA246 rfl rfl (g := true) (e := (((decide (r_208 ≠ 0)) || r_220) || (decide (r_231 ≠ id_52)))) rfl (fun hg => r_neq (cv_get (hA246.get rfl) hg) rfl) fun a253 hA253 _ => ?_)
        refine sq (opk_val hA253 rfl (r_pick_or (g := (true && ((((decide (r_208 ≠ 0)) || r_220) || (decide (r_231 ≠ id_52))) == false))) (hA253.get rfl) (hA253.get rfl) (fun he => g_mkf rfl he)) fun a254 hA254 _ => ?_)
        refine sq_end ?_
        have hA255 := hA254.keep [(3, .pointer r_0_13), (6, .int .i64 id_52), (56, .bool ((((decide (r_208 ≠ 0)) || r_220) || (decide (r_231 ≠ id_52))) || (decide (r_245 ≠ 3))))] ⟨rfl, rfl, rfl, trivial⟩
        refine then_normal ?_
        refine wp_cond_split (hA255.get rfl) (fun hc => ?_) (fun hc => ?_)
        · have ht256 := ht252.1 ((b_or_t hc).imp (fun h => ((b_or_t h).imp (fun h => ((b_or_t h).imp (fun h => (of_decide_eq_true h)) (fun h => h))) (fun h => (of_decide_eq_true h)))) (fun h => (of_decide_eq_true h)))
          clear hc
          refine wp_seq ?_
          refine wp_region_lit ?_
          refine sq (opk_val hA255 rfl (r_assign rfl) fun a258 hA258 _ => ?_)
          refine sq_end ?_
          have hA259 := hA258.keep [(2, .bool false)] ⟨rfl, trivial⟩
          refine then_normal ?_
          refine wp_ret ?_
          refine block_ret ?_
          refine then_ret ?_
          refine then_ret ?_
          refine block_ret ?_
          refine then_ret ?_
          exact res_all (vs := [.bool false]) rfl hA259 ⟨res_of_tmp hA259 rfl, trivial⟩ ht256
        · have ht257 := ht252.2 ⟨⟨⟨(of_decide_eq_false (b_or_f (b_or_f (b_or_f hc).1).1).1), (b_or_f (b_or_f (b_or_f hc).1).1).2⟩, (of_decide_eq_false (b_or_f (b_or_f hc).1).2)⟩, (of_decide_eq_false (b_or_f hc).2)⟩
          clear hc
          refine wp_skip ?_
          refine block_normal ?_
          refine then_normal ?_
          refine wp_region_lit ?_
          refine sq (opk_val hA255 rfl (r_move (hA255.get rfl)) fun a260 hA260 _ => ?_)
          obtain ⟨hS262, ht263⟩ := ht257
          refine sq (opk_val hA260 rfl (r_subI (hA260.get rfl) rfl hS262) fun a261 hA261 _ => ?_)
          refine sq (opk_val hA261 rfl (r_assign (hA261.get rfl)) fun a264 hA264 _ => ?_)
          refine sq_end ?_
          have hA265 := hA264.keep [(3, .pointer r_0_13), (6, .int .i64 (id_52 - 1))] ⟨rfl, rfl, trivial⟩
          have hA266 := hA265.keep [(3, .pointer r_0_13), (6, .int .i64 (id_52 - 1))] ⟨rfl, rfl, trivial⟩
          exact then_normal ⟨(id_52 - 1, w247), ⟨hA266, rfl, ht263.1⟩, ht263.2⟩
    · have ht168 := ht162.2 (of_decide_eq_false hc)
      clear hc
      refine wp_exit ?_
      refine then_exit ?_
      refine then_exit ?_
      refine block_hit ?_
      have hA267 := hA166.keep [(3, .pointer r_0_13)] ⟨rfl, trivial⟩
      refine then_normal ?_
      refine wp_seq ?_
      refine wp_region_lit ?_
      refine sq (opk_val hA267 rfl (r_move (hA267.get rfl)) fun a268 hA268 _ => ?_)
      refine sq (opk_call hA268 rfl (r_call (args := #[.pointer r_0_13]) Try.func16 (by decide) rfl (map_arr (ml_cons (hA268.get rfl) ml_nil)) rfl) ht168 fun a270 v276 w271 hA270 _ hn273 hz274 hK275 => ?_)
      obtain ⟨r_269, rfl, ht272⟩ := hK275
      refine sq (opk_val hA270 rfl (r_eql (hA270.get rfl) rfl) fun a277 hA277 _ => ?_)
      refine sq (opk_val hA277 rfl (r_move (hA277.get rfl)) fun a278 hA278 _ => ?_)
      refine sq (opk_gval hA278 rfl rfl (g := true) (e := (decide (r_269 = 1))) rfl (fun hg => r_move (hA278.get rfl)) fun a279 hA279 _ => ?_)
      obtain ⟨V_284, hc285, ht283⟩ := ht272
      refine sq (opk_gcallM hA279 rfl rfl (g := true) (e := (decide (r_269 = 1))) rfl (fun hg => r_call (args := #[.pointer r_0_13, .int .i64 0]) Try.func21 (by decide) rfl (map_arr (ml_cons (cv_get (hA279.get rfl) hg) (ml_cons rfl ml_nil))) rfl) (fun hg => hc285 (of_decide_eq_true (g_t hg))) fun a281 v288 w282 hA281 _ hE286 hR287 => ?_)
      obtain ⟨r_280, hx289, hV290⟩ := cvty (α := Sl) (fun s => Sl.v s) (fun s w => V_284 s w) (fun hg => by obtain ⟨r_280, h1, h2⟩ := hR287 hg; exact ⟨r_280, h1, h2⟩)
      rw [hx289] at hA281
      have hC291 : Chg [] w271 w282 := hE286
      have ht292 := ht283 r_280 w282 hE286 (fun hp => hV290 (g_mkt rfl (decide_eq_true hp)))
      refine sq (opk_gval hA281 rfl rfl (g := true) (e := (decide (r_269 = 1))) rfl (fun hg => r_len (cv_get (hA281.get rfl) hg) Try.underlying36) fun a293 hA293 _ => ?_)
      refine sq (opk_gval hA293 rfl rfl (g := true) (e := (decide (r_269 = 1))) rfl (fun hg => r_eql (cv_get (hA293.get rfl) hg) rfl) fun a294 hA294 _ => ?_)
      refine sq (opk_val hA294 rfl (r_pick_and (g := (true && ((decide (r_269 = 1)) == true))) (hA294.get rfl) (hA294.get rfl) (fun he => g_mkt rfl he)) fun a295 hA295 _ => ?_)
      refine sq (opk_val hA295 rfl (r_move (hA295.get rfl)) fun a296 hA296 _ => ?_)
      refine sq (opk_gval hA296 rfl rfl (g := true) (e := ((decide (r_269 = 1)) && (decide ((r_280.n : Int) = 0)))) rfl (fun hg => r_move (hA296.get rfl)) fun a297 hA297 _ => ?_)
      obtain ⟨V_302, hc303, ht301⟩ := ht292
      refine sq (opk_gcallM hA297 rfl rfl (g := true) (e := ((decide (r_269 = 1)) && (decide ((r_280.n : Int) = 0)))) rfl (fun hg => r_call (args := #[.pointer r_0_13]) Try.func18 (by decide) rfl (map_arr (ml_cons (cv_get (hA297.get rfl) hg) ml_nil)) rfl) (fun hg => hc303 ⟨(of_decide_eq_true (b_and_t (g_t hg)).1), (of_decide_eq_true (b_and_t (g_t hg)).2)⟩) fun a299 v306 w300 hA299 _ hE304 hR305 => ?_)
      obtain ⟨⟨r_298_Kind, r_298_Name, r_298_Text, r_298_Attrs, r_298_Kids⟩, hx307, hV308⟩ := cvty (α := Int × Str × Str × Sl × Sl) (fun s => .agg #[.int .i64 s.1, .string (Bs s.2.1), .string (Bs s.2.2.1), Sl.v s.2.2.2.1, Sl.v s.2.2.2.2]) (fun s w => V_302 s.1 s.2.1 s.2.2.1 s.2.2.2.1 s.2.2.2.2 w) (fun hg => by obtain ⟨r_298_Kind, r_298_Name, r_298_Text, r_298_Attrs, r_298_Kids, h1, h2⟩ := hR305 hg; exact ⟨(r_298_Kind, r_298_Name, r_298_Text, r_298_Attrs, r_298_Kids), h1, h2⟩)
      rw [hx307] at hA299
      have hC309 : Chg [] w282 w300 := hE304
      have ht310 := ht301 r_298_Kind r_298_Name r_298_Text r_298_Attrs r_298_Kids w300 hE304 (fun hp => hV308 (g_mkt rfl (b_and_mk ⟨(decide_eq_true hp.1), (decide_eq_true hp.2)⟩)))
      refine sq (opk_gval hA299 rfl rfl (g := true) (e := ((decide (r_269 = 1)) && (decide ((r_280.n : Int) = 0)))) rfl (fun hg => r_build (vs := #[(0, .int .i64 1)]) (cells := #[.int .i64 1, .string (Bs ([] : Str)), .string (Bs ([] : Str)), Sl.v Sl.nil, Sl.v Sl.nil]) (map_arr2 (ml2_cons rfl (ml2_nil))) ti_29 Try.underlying29 pl_29 (by kernel_rfl)) fun a311 hA311 _ => ?_)
      obtain ⟨r_312, hc316, ht315⟩ := ht310
      refine sq (opk_gcall hA311 rfl rfl (g := true) (e := ((decide (r_269 = 1)) && (decide ((r_280.n : Int) = 0)))) rfl (fun hg => r_call (args := #[.agg #[.int .i64 r_298_Kind, .string (Bs r_298_Name), .string (Bs r_298_Text), Sl.v r_298_Attrs, Sl.v r_298_Kids], .agg #[.int .i64 1, .string (Bs ([] : Str)), .string (Bs ([] : Str)), Sl.v Sl.nil, Sl.v Sl.nil]]) Try.func24 (by decide) rfl (map_arr (ml_cons (cv_get (hA311.get rfl) hg) (ml_cons (cv_get (hA311.get rfl) hg) ml_nil))) rfl) (fun hg => hc316 ⟨(of_decide_eq_true (b_and_t (g_t hg)).1), (of_decide_eq_true (b_and_t (g_t hg)).2)⟩) fun a313 w314 hA313 _ hE317 => ?_)
      have hC318 : Chg [] w300 w314 := hE317
      have ht319 := ht315 w314 hE317
      refine sq (opk_val hA313 rfl (r_pick_and (g := (true && (((decide (r_269 = 1)) && (decide ((r_280.n : Int) = 0))) == true))) (hA313.get rfl) (hA313.get rfl) (fun he => g_mkt rfl he)) fun a320 hA320 _ => ?_)
      refine sq (opk_val hA320 rfl (r_move (hA320.get rfl)) fun a321 hA321 _ => ?_)
      obtain ⟨r_322, hc326, ht325⟩ := ht319
      refine sq (opk_gcall hA321 rfl rfl (g := true) (e := (((decide (r_269 = 1)) && (decide ((r_280.n : Int) = 0))) && r_312)) rfl (fun hg => r_call (args := #[]) Try.func19 (by decide) rfl (map_arr ml_nil) rfl) (fun hg => hc326 ⟨⟨(of_decide_eq_true (b_and_t (b_and_t (g_t hg)).1).1), (of_decide_eq_true (b_and_t (b_and_t (g_t hg)).1).2)⟩, (b_and_t (g_t hg)).2⟩) fun a323 w324 hA323 _ hE327 => ?_)
      have hC328 : Chg [] w314 w324 := hE327
      have ht329 := ht325 w324 hE327
      refine sq (opk_val hA323 rfl (r_pick_and (g := (true && ((((decide (r_269 = 1)) && (decide ((r_280.n : Int) = 0))) && r_312) == true))) (hA323.get rfl) (hA323.get rfl) (fun he => g_mkt rfl he)) fun a330 hA330 _ => ?_)
      refine sq (opk_val hA330 rfl (r_assign (hA330.get rfl)) fun a331 hA331 _ => ?_)
      refine sq_end ?_
      have hA332 := hA331.keep [(2, .bool ((((decide (r_269 = 1)) && (decide ((r_280.n : Int) = 0))) && r_312) && r_322))] ⟨rfl, trivial⟩
      refine then_normal ?_
      refine wp_ret ?_
      exact res_all (vs := [.bool ((((decide (r_269 = 1)) && (decide ((r_280.n : Int) = 0))) && r_312) && r_322)]) rfl hA332 ⟨res_of_tmp hA332 rfl, trivial⟩ ht329

end Go.Proofs.Ytghmgfkdnolcdaa
