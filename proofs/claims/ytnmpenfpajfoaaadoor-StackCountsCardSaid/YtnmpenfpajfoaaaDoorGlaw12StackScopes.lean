/-
  PRINTED BY PROGRAM: for each function its condition (vc), and that this suffices (ok).
-/
import Derived.Test.YtnmpenfpajfoaaaDoorGT
namespace Go.Proofs.YtnmpenfpajfoaaaDoor
open Go.RowKit
set_option linter.unusedVariables false

/-- The condition of topiary/topiarylaw12.StackScopes. -/
def law12_StackScopes.vc (open_1 : Sl) (name_2 : Str) (scope_3 : Int) (n_4 : Int) (R : Value → World → Prop) (w : World) : Prop :=
CallK Tryd.prog 12 #[Sl.v open_1] w [] (fun v w10 => ∃ (r_8 : Bool), v = .bool r_8 ∧
(((((r_8 = false) ∨ (100 < (name_2.length : Int))) ∨ (name_2 = ([116, 97, 98, 108, 101] : Str))) ∨ (name_2 = ([115, 112, 97, 110] : Str))) →
CallK Tryd.prog 11 #[] w10 [] (fun v w35 => ∃ (r_33 : Bool), v = .bool r_33 ∧
R (.bool r_33) w35)) ∧
(((((r_8 = true) ∧ (¬ (100 < (name_2.length : Int)))) ∧ (¬ (name_2 = ([116, 97, 98, 108, 101] : Str)))) ∧ (¬ (name_2 = ([115, 112, 97, 110] : Str)))) →
CallK Tryd.prog 13 #[.int .i64 scope_3, .int .i64 4] w10 [] (fun v w46 => ∃ (r_44 : Int), v = .int .i64 r_44 ∧
(I64 (1 + r_44)) ∧
RunK Tryd.prog (Builtin.append_ #[22, 22] 22 #[Sl.v Sl.nil, Sl.v open_1]) w46 [] (fun v w59 => ∃ (r_65 : Sl), v = Sl.v r_65 ∧
CallK Tryd.prog 14 #[Sl.v r_65, .string (Bs name_2), .int .i64 (1 + r_44)] w59 [] (fun v w70 => ∃ (r_68 : Bool), v = .bool r_68 ∧
RunK Tryd.prog (Builtin.append_ #[22, 22] 22 #[Sl.v Sl.nil, Sl.v open_1]) w70 [] (fun v w80 => ∃ (r_86 : Sl), v = Sl.v r_86 ∧
∃ (J_94 : Sl → Int → World → Prop) (mu_95 : Sl → Int → World → Nat),
J_94 r_86 0 w80 ∧
(∀ (o_91 : Sl) (i_92 : Int) (w93 : World), J_94 o_91 i_92 w93 →
CallK Tryd.prog 13 #[.int .i64 n_4, .int .i64 5] w93 [] (fun v w147 => ∃ (r_145 : Int), v = .int .i64 r_145 ∧
((i_92 < r_145) →
∀ (w159 : World) (B_158 : Nat), New w147 B_158 w159 → Chg [] w147 w159 →
∀ (_ : Box w159 B_158 9 [.string (Bs ([115, 112, 97, 110] : Str))]),
RunK Tryd.prog (Builtin.append_ #[22, 22] 22 #[Sl.v o_91, Sl.v (Sl.mk (some ⟨B_158, 0, none⟩) 1 1)]) w159 [] (fun v w169 => ∃ (r_175 : Sl), v = Sl.v r_175 ∧
(I64 (i_92 + 1)) ∧
J_94 r_175 (i_92 + 1) w169 ∧ mu_95 r_175 (i_92 + 1) w169 < mu_95 o_91 i_92 w93)) ∧
((¬ (i_92 < r_145)) →
CallK Tryd.prog 14 #[Sl.v o_91, .string (Bs name_2), .int .i64 (1 + r_44)] w147 [] (fun v w191 => ∃ (r_189 : Bool), v = .bool r_189 ∧
∀ (w205 : World), Chg [] w191 w205 →
∀ (B_204 : Nat) (_ : w191.heap.size ≤ B_204) (_ : (((r_189 == r_68) = true)) → Box w205 B_204 9 [.string (Bs ([116, 97, 98, 108, 101] : Str))]),
∃ V_224 : Sl → World → Prop, ((((r_189 == r_68) = true)) → ∃ v w', (Builtin.append_ #[22, 22] 22 #[Sl.v o_91, Sl.v (Sl.mk (some ⟨B_204, 0, none⟩) 1 1)]).run Tryd.prog w205 = .ok v w' ∧ NoTouch [] w205 w' ∧ w205.heap.size ≤ w'.heap.size ∧ ∃ r_228 : Sl, v = Sl.v r_228 ∧ V_224 r_228 w') ∧
(∀ (r_228 : Sl) (w217 : World), w205.heap.size ≤ w217.heap.size → ((((r_189 == r_68) = true)) → V_224 r_228 w217) → (¬ (((r_189 == r_68) = true)) → w217 = w205) →
∃ (r_232 : Bool), ((((r_189 == r_68) = true)) → Calls Tryd.prog 14 #[Sl.v r_228, .string (Bs name_2), .int .i64 (1 + r_44)] w217 (Ret fun v w' => Ext w217 w' ∧ v = .bool r_232)) ∧
(∀ w234 : World, Ext w217 w234 →
∀ (w246 : World), Chg [] w234 w246 →
∀ (B_245 : Nat) (_ : w234.heap.size ≤ B_245) (_ : ((((r_189 == r_68) = true) ∧ (r_232 = false))) → Box w246 B_245 9 [.string (Bs name_2)]),
∃ V_265 : Sl → World → Prop, (((((r_189 == r_68) = true) ∧ (r_232 = false))) → ∃ v w', (Builtin.append_ #[22, 22] 22 #[Sl.v o_91, Sl.v (Sl.mk (some ⟨B_245, 0, none⟩) 1 1)]).run Tryd.prog w246 = .ok v w' ∧ NoTouch [] w246 w' ∧ w246.heap.size ≤ w'.heap.size ∧ ∃ r_269 : Sl, v = Sl.v r_269 ∧ V_265 r_269 w') ∧
(∀ (r_269 : Sl) (w258 : World), w246.heap.size ≤ w258.heap.size → (((((r_189 == r_68) = true) ∧ (r_232 = false))) → V_265 r_269 w258) → (¬ ((((r_189 == r_68) = true) ∧ (r_232 = false))) → w258 = w246) →
∃ (r_273 : Bool), (((((r_189 == r_68) = true) ∧ (r_232 = false))) → Calls Tryd.prog 14 #[Sl.v r_269, .string (Bs name_2), .int .i64 (1 + r_44)] w258 (Ret fun v w' => Ext w258 w' ∧ v = .bool r_273)) ∧
(∀ w275 : World, Ext w258 w275 →
∃ (r_283 : Bool), ((((((r_189 == r_68) = true) ∧ (r_232 = false)) ∧ (r_273 = true))) → Calls Tryd.prog 11 #[] w275 (Ret fun v w' => Ext w275 w' ∧ v = .bool r_283)) ∧
(∀ w285 : World, Ext w275 w285 →
R (.bool ((((r_189 == r_68) && (!r_232)) && r_273) && r_283)) w285)))))))))))))))
set_option maxHeartbeats 1000000 in
set_option maxRecDepth 10000 in
theorem law12_StackScopes.ok (open_1 : Sl) (name_2 : Str) (scope_3 : Int) (n_4 : Int) {R : Value → World → Prop} {w : World} (ht0 : law12_StackScopes.vc open_1 name_2 scope_3 n_4 R w) : Calls Tryd.prog 4 #[Sl.v open_1, .string (Bs name_2), .int .i64 scope_3, .int .i64 n_4] w (Ret R) := by
  refine enter [Sl.v open_1, .string (Bs name_2), .int .i64 scope_3, .int .i64 n_4] Tryd.func4 rfl Tryd.ntmps4 rfl ?_
  intro a0 hA0
  unfold law12_StackScopes.vc at ht0
  refine wp_seq ?_
  refine wp_region_lit ?_
  refine sq (opk_val hA0 rfl (r_assign rfl) fun a5 hA5 _ => ?_)
  refine sq_end ?_
  have hA6 := hA5.keep [(0, Sl.v open_1), (1, .string (Bs name_2)), (2, .int .i64 scope_3), (3, .int .i64 n_4)] ⟨rfl, rfl, rfl, rfl, trivial⟩
  refine then_normal ?_
  refine wp_seq ?_
  refine wp_seq ?_
  refine wp_region_lit ?_
  refine sq (opk_val hA6 rfl (r_move (hA6.get rfl)) fun a7 hA7 _ => ?_)
  refine sq (opk_call hA7 rfl (r_call (args := #[Sl.v open_1]) Tryd.func12 (by decide) rfl (map_arr (ml_cons (hA7.get rfl) ml_nil)) rfl) ht0 fun a9 v15 w10 hA9 _ hn12 hz13 hK14 => ?_)
  obtain ⟨r_8, rfl, ht11⟩ := hK14
  refine sq (opk_val hA9 rfl (r_not (hA9.get rfl)) fun a16 hA16 _ => ?_)
  refine sq (opk_val hA16 rfl (r_move (hA16.get rfl)) fun a17 hA17 _ => ?_)
  refine sq (opk_gval hA17 rfl rfl (g := true) (e := (!r_8)) rfl (fun hg => r_move (hA17.get rfl)) fun a18 hA18 _ => ?_)
  refine sq (opk_gval hA18 rfl rfl (g := true) (e := (!r_8)) rfl (fun hg => r_slen (cv_get (hA18.get rfl) hg) Tryd.underlying9) fun a19 hA19 _ => ?_)
  refine sq (opk_gval hA19 rfl rfl (g := true) (e := (!r_8)) rfl (fun hg => r_gtr (cv_get (hA19.get rfl) hg) rfl) fun a20 hA20 _ => ?_)
  refine sq (opk_val hA20 rfl (r_pick_or (g := (true && ((!r_8) == false))) (hA20.get rfl) (hA20.get rfl) (fun he => g_mkf rfl he)) fun a21 hA21 _ => ?_)
  refine sq (opk_val hA21 rfl (r_move (hA21.get rfl)) fun a22 hA22 _ => ?_)
  refine sq (opk_gval hA22 rfl rfl (g := true) (e := ((!r_8) || (decide (100 < (name_2.length : Int))))) rfl (fun hg => r_move (hA22.get rfl)) fun a23 hA23 _ => ?_)
  refine sq (opk_gval hA23 rfl rfl (g := true) (e := ((!r_8) || (decide (100 < (name_2.length : Int))))) rfl (fun hg => r_seql (cv_get (hA23.get rfl) hg) rfl) fun a24 hA24 _ => ?_)
  refine sq (opk_val hA24 rfl (r_pick_or (g := (true && (((!r_8) || (decide (100 < (name_2.length : Int)))) == false))) (hA24.get rfl) (hA24.get rfl) (fun he => g_mkf rfl he)) fun a25 hA25 _ => ?_)
  refine sq (opk_val hA25 rfl (r_move (hA25.get rfl)) fun a26 hA26 _ => ?_)
  refine sq (opk_gval hA26 rfl rfl (g := true) (e := (((!r_8) || (decide (100 < (name_2.length : Int)))) || (decide (name_2 = ([116, 97, 98, 108, 101] : Str))))) rfl (fun hg => r_move (hA26.get rfl)) fun a27 hA27 _ => ?_)
  refine sq (opk_gval hA27 rfl rfl (g := true) (e := (((!r_8) || (decide (100 < (name_2.length : Int)))) || (decide (name_2 = ([116, 97, 98, 108, 101] : Str))))) rfl (fun hg => r_seql (cv_get (hA27.get rfl) hg) rfl) fun a28 hA28 _ => ?_)
  refine sq (opk_val hA28 rfl (r_pick_or (g := (true && ((((!r_8) || (decide (100 < (name_2.length : Int)))) || (decide (name_2 = ([116, 97, 98, 108, 101] : Str)))) == false))) (hA28.get rfl) (hA28.get rfl) (fun he => g_mkf rfl he)) fun a29 hA29 _ => ?_)
  refine sq_end ?_
  have hA30 := hA29.keep [(0, Sl.v open_1), (1, .string (Bs name_2)), (2, .int .i64 scope_3), (3, .int .i64 n_4), (29, .bool ((((!r_8) || (decide (100 < (name_2.length : Int)))) || (decide (name_2 = ([116, 97, 98, 108, 101] : Str)))) || (decide (name_2 = ([115, 112, 97, 110] : Str)))))] ⟨rfl, rfl, rfl, rfl, rfl, trivial⟩
  refine then_normal ?_
  refine wp_cond_split (hA30.get rfl) (fun hc => ?_) (fun hc => ?_)
  · have ht31 := ht11.1 ((b_or_t hc).imp (fun h => ((b_or_t h).imp (fun h => ((b_or_t h).imp (fun h => (b_not_t h)) (fun h => (of_decide_eq_true h)))) (fun h => (of_decide_eq_true h)))) (fun h => (of_decide_eq_true h)))
    clear hc
    refine wp_seq ?_
    refine wp_region_lit ?_
    refine sq (opk_call hA30 rfl (r_call (args := #[]) Tryd.func11 (by decide) rfl (map_arr ml_nil) rfl) ht31 fun a34 v40 w35 hA34 _ hn37 hz38 hK39 => ?_)
    obtain ⟨r_33, rfl, ht36⟩ := hK39
    refine sq (opk_val hA34 rfl (r_assign (hA34.get rfl)) fun a41 hA41 _ => ?_)
    refine sq_end ?_
    have hA42 := hA41.keep [(8, .bool r_33)] ⟨rfl, trivial⟩
    refine then_normal ?_
    refine wp_ret ?_
    refine then_ret ?_
    exact res_all (vs := [.bool r_33]) rfl hA42 ⟨res_of_tmp hA42 rfl, trivial⟩ ht36
  · have ht32 := ht11.2 ⟨⟨⟨(b_not_f (b_or_f (b_or_f (b_or_f hc).1).1).1), (of_decide_eq_false (b_or_f (b_or_f (b_or_f hc).1).1).2)⟩, (of_decide_eq_false (b_or_f (b_or_f hc).1).2)⟩, (of_decide_eq_false (b_or_f hc).2)⟩
    clear hc
    refine wp_skip ?_
    refine then_normal ?_
    refine wp_seq ?_
    refine wp_region_lit ?_
    refine sq (opk_val hA30 rfl (r_move (hA30.get rfl)) fun a43 hA43 _ => ?_)
    refine sq (opk_call hA43 rfl (r_call (args := #[.int .i64 scope_3, .int .i64 4]) Tryd.func13 (by decide) rfl (map_arr (ml_cons (hA43.get rfl) (ml_cons rfl ml_nil))) rfl) ht32 fun a45 v51 w46 hA45 _ hn48 hz49 hK50 => ?_)
    obtain ⟨r_44, rfl, ht47⟩ := hK50
    obtain ⟨hS53, ht54⟩ := ht47
    refine sq (opk_val hA45 rfl (r_addI rfl (hA45.get rfl) hS53) fun a52 hA52 _ => ?_)
    refine sq (opk_val hA52 rfl (r_assign (hA52.get rfl)) fun a55 hA55 _ => ?_)
    refine sq_end ?_
    have hA56 := hA55.keep [(0, Sl.v open_1), (1, .string (Bs name_2)), (3, .int .i64 n_4), (9, .int .i64 (1 + r_44))] ⟨rfl, rfl, rfl, rfl, trivial⟩
    refine then_normal ?_
    refine wp_seq ?_
    refine wp_region_lit ?_
    refine sq (opk_val hA56 rfl (r_move (hA56.get rfl)) fun a57 hA57 _ => ?_)
    refine sq (opk_run hA57 rfl (fun _ _ hr => r_append rfl (hA57.get rfl) hr) ht54 fun a58 v64 w59 hA58 _ hn61 hz62 hK63 => ?_)
    obtain ⟨r_65, rfl, ht60⟩ := hK63
    refine sq (opk_val hA58 rfl (r_move (hA58.get rfl)) fun a66 hA66 _ => ?_)
    refine sq (opk_val hA66 rfl (r_move (hA66.get rfl)) fun a67 hA67 _ => ?_)
    refine sq (opk_call hA67 rfl (r_call (args := #[Sl.v r_65, .string (Bs name_2), .int .i64 (1 + r_44)]) Tryd.func14 (by decide) rfl (map_arr (ml_cons (hA67.get rfl) (ml_cons (hA67.get rfl) (ml_cons (hA67.get rfl) ml_nil)))) rfl) ht60 fun a69 v75 w70 hA69 _ hn72 hz73 hK74 => ?_)
    obtain ⟨r_68, rfl, ht71⟩ := hK74
    refine sq (opk_val hA69 rfl (r_assign (hA69.get rfl)) fun a76 hA76 _ => ?_)
    refine sq_end ?_
    have hA77 := hA76.keep [(0, Sl.v open_1), (1, .string (Bs name_2)), (3, .int .i64 n_4), (9, .int .i64 (1 + r_44)), (10, .bool r_68)] ⟨rfl, rfl, rfl, rfl, rfl, trivial⟩
    refine then_normal ?_
    refine wp_seq ?_
    refine wp_region_lit ?_
    refine sq (opk_val hA77 rfl (r_move (hA77.get rfl)) fun a78 hA78 _ => ?_)
    refine sq (opk_run hA78 rfl (fun _ _ hr => r_append rfl (hA78.get rfl) hr) ht71 fun a79 v85 w80 hA79 _ hn82 hz83 hK84 => ?_)
    obtain ⟨r_86, rfl, ht81⟩ := hK84
    refine sq (opk_val hA79 rfl (r_assign (hA79.get rfl)) fun a87 hA87 _ => ?_)
    refine sq_end ?_
    have hA88 := hA87.keep [(1, .string (Bs name_2)), (3, .int .i64 n_4), (9, .int .i64 (1 + r_44)), (10, .bool r_68), (11, Sl.v r_86)] ⟨rfl, rfl, rfl, rfl, rfl, trivial⟩
    refine then_normal ?_
    refine wp_seq ?_
    refine wp_seq ?_
    refine wp_region_lit ?_
    refine sq (opk_val hA88 rfl (r_assign rfl) fun a89 hA89 _ => ?_)
    refine sq_end ?_
    have hA90 := hA89.keep [(1, .string (Bs name_2)), (3, .int .i64 n_4), (9, .int .i64 (1 + r_44)), (10, .bool r_68), (11, Sl.v r_86), (12, .int .i64 0)] ⟨rfl, rfl, rfl, rfl, rfl, rfl, trivial⟩
    refine then_normal ?_
    refine wp_block ?_
    obtain ⟨J_94, mu_95, h0140, ht139⟩ := ht81
    refine wp_loop_st (σ := Sl × Int × World) (fun s a w => Ag 78 a [(1, .string (Bs name_2)), (3, .int .i64 n_4), (9, .int .i64 (1 + r_44)), (10, .bool r_68), (11, Sl.v s.1), (12, .int .i64 s.2.1)] ∧ w = s.2.2 ∧ J_94 s.1 s.2.1 s.2.2) (fun s => mu_95 s.1 s.2.1 s.2.2) (r_86, 0, w80) ⟨hA90.keep [(1, .string (Bs name_2)), (3, .int .i64 n_4), (9, .int .i64 (1 + r_44)), (10, .bool r_68), (11, Sl.v r_86), (12, .int .i64 0)] ⟨rfl, rfl, rfl, rfl, rfl, rfl, trivial⟩, rfl, h0140⟩ ?_
    rintro ⟨o_91, i_92, w93⟩ a138 w_ ⟨hA138, hw_, hJ142⟩
    have hw_ : w93 = w_ := hw_.symm
    subst hw_
    have ht141 := ht139 o_91 i_92 _ hJ142
    refine wp_seq ?_
    refine wp_seq ?_
    refine wp_region_lit ?_
    refine sq (opk_val hA138 rfl (r_move (hA138.get rfl)) fun a143 hA143 _ => ?_)
    refine sq (opk_val hA143 rfl (r_move (hA143.get rfl)) fun a144 hA144 _ => ?_)
    refine sq (opk_call hA144 rfl (r_call (args := #[.int .i64 n_4, .int .i64 5]) Tryd.func13 (by decide) rfl (map_arr (ml_cons (hA144.get rfl) (ml_cons rfl ml_nil))) rfl) ht141 fun a146 v152 w147 hA146 _ hn149 hz150 hK151 => ?_)
    obtain ⟨r_145, rfl, ht148⟩ := hK151
    refine sq (opk_val hA146 rfl (r_lss (hA146.get rfl) (hA146.get rfl)) fun a153 hA153 _ => ?_)
    refine sq_end ?_
    have hA154 := hA153.keep [(1, .string (Bs name_2)), (3, .int .i64 n_4), (9, .int .i64 (1 + r_44)), (10, .bool r_68), (11, Sl.v o_91), (12, .int .i64 i_92), (44, .bool (decide (i_92 < r_145)))] ⟨rfl, rfl, rfl, rfl, rfl, rfl, rfl, trivial⟩
    refine then_normal ?_
    refine wp_cond_split (hA154.get rfl) (fun hc => ?_) (fun hc => ?_)
    · have ht155 := ht148.1 (of_decide_eq_true hc)
      clear hc
      refine wp_skip ?_
      refine then_normal ?_
      refine wp_seq ?_
      refine wp_block ?_
      refine wp_region_lit ?_
      refine sq (opk_val hA154 rfl (r_move (hA154.get rfl)) fun a157 hA157 _ => ?_)
      refine sq (opk_new (fun B => .slice (some ⟨B, 0, none⟩) 1 1) hA157 rfl (r_buildSlice (vs := #[(0, .string (Bs ([115, 112, 97, 110] : Str)))]) (cs := [.string (Bs ([115, 112, 97, 110] : Str))]) (map_arr2 (ml2_cons rfl (ml2_nil))) Tryd.underlying22 ti_9 rfl rfl (by kernel_rfl)) fun a160 w159 B_158 hE161 hN162 hB163 hA160 _ => ?_)
      have hN164 : New w147 B_158 w159 := hN162
      have hC165 : Chg [] w147 w159 := hE161
      have ht166 := ht155 w159 B_158 hN164  hC165
      have ht167 := ht166 hB163
      refine sq (opk_run hA160 rfl (fun _ _ hr => r_append (hA160.get rfl) (hA160.get rfl) hr) ht167 fun a168 v174 w169 hA168 _ hn171 hz172 hK173 => ?_)
      obtain ⟨r_175, rfl, ht170⟩ := hK173
      refine sq (opk_val hA168 rfl (r_assign (hA168.get rfl)) fun a176 hA176 _ => ?_)
      refine sq_end ?_
      have hA177 := hA176.keep [(1, .string (Bs name_2)), (3, .int .i64 n_4), (9, .int .i64 (1 + r_44)), (10, .bool r_68), (11, Sl.v r_175), (12, .int .i64 i_92)] ⟨rfl, rfl, rfl, rfl, rfl, rfl, trivial⟩
      refine block_normal ?_
      refine then_normal ?_
      refine wp_region_lit ?_
      refine sq (opk_val hA177 rfl (r_move (hA177.get rfl)) fun a178 hA178 _ => ?_)
      obtain ⟨hS180, ht181⟩ := ht170
      refine sq (opk_val hA178 rfl (r_addI (hA178.get rfl) rfl hS180) fun a179 hA179 _ => ?_)
      refine sq (opk_val hA179 rfl (r_assign (hA179.get rfl)) fun a182 hA182 _ => ?_)
      refine sq_end ?_
      have hA183 := hA182.keep [(1, .string (Bs name_2)), (3, .int .i64 n_4), (9, .int .i64 (1 + r_44)), (10, .bool r_68), (11, Sl.v r_175), (12, .int .i64 (i_92 + 1))] ⟨rfl, rfl, rfl, rfl, rfl, rfl, trivial⟩
      have hA184 := hA183.keep [(1, .string (Bs name_2)), (3, .int .i64 n_4), (9, .int .i64 (1 + r_44)), (10, .bool r_68), (11, Sl.v r_175), (12, .int .i64 (i_92 + 1))] ⟨rfl, rfl, rfl, rfl, rfl, rfl, trivial⟩
      exact then_normal ⟨(r_175, i_92 + 1, w169), ⟨hA184, rfl, ht181.1⟩, ht181.2⟩
    · have ht156 := ht148.2 (of_decide_eq_false hc)
      clear hc
      refine wp_exit ?_
      refine then_exit ?_
      refine then_exit ?_
      refine block_hit ?_
      have hA185 := hA154.keep [(1, .string (Bs name_2)), (9, .int .i64 (1 + r_44)), (10, .bool r_68), (11, Sl.v o_91)] ⟨rfl, rfl, rfl, rfl, trivial⟩
      refine then_normal ?_
      refine wp_seq ?_
      refine wp_region_lit ?_
      refine sq (opk_val hA185 rfl (r_move (hA185.get rfl)) fun a186 hA186 _ => ?_)
      refine sq (opk_val hA186 rfl (r_move (hA186.get rfl)) fun a187 hA187 _ => ?_)
      refine sq (opk_val hA187 rfl (r_move (hA187.get rfl)) fun a188 hA188 _ => ?_)
      refine sq (opk_call hA188 rfl (r_call (args := #[Sl.v o_91, .string (Bs name_2), .int .i64 (1 + r_44)]) Tryd.func14 (by decide) rfl (map_arr (ml_cons (hA188.get rfl) (ml_cons (hA188.get rfl) (ml_cons (hA188.get rfl) ml_nil)))) rfl) ht156 fun a190 v196 w191 hA190 _ hn193 hz194 hK195 => ?_)
      obtain ⟨r_189, rfl, ht192⟩ := hK195
      refine sq (opk_val hA190 rfl (r_assign (hA190.get rfl)) fun a197 hA197 _ => ?_)
      refine sq_end ?_
      have hA198 := hA197.keep [(1, .string (Bs name_2)), (9, .int .i64 (1 + r_44)), (10, .bool r_68), (11, Sl.v o_91), (13, .bool r_189)] ⟨rfl, rfl, rfl, rfl, rfl, trivial⟩
      refine then_normal ?_
      refine wp_seq ?_
      refine wp_region_lit ?_
      refine sq (opk_val hA198 rfl (r_move (hA198.get rfl)) fun a199 hA199 _ => ?_)
      refine sq (opk_val hA199 rfl (r_move (hA199.get rfl)) fun a200 hA200 _ => ?_)
      refine sq (opk_val hA200 rfl (r_beql (hA200.get rfl) (hA200.get rfl) Tryd.underlying4) fun a201 hA201 _ => ?_)
      refine sq (opk_val hA201 rfl (r_move (hA201.get rfl)) fun a202 hA202 _ => ?_)
      refine sq (opk_gval hA202 rfl rfl (g := true) (e := (r_189 == r_68)) rfl (fun hg => r_move (hA202.get rfl)) fun a203 hA203 _ => ?_)
      refine sq (opk_gnew2 (fun B => .slice (some ⟨B, 0, none⟩) 1 1) hA203 rfl rfl (g := true) (e := (r_189 == r_68)) rfl (fun hg => r_buildSlice (vs := #[(0, .string (Bs ([116, 97, 98, 108, 101] : Str)))]) (cs := [.string (Bs ([116, 97, 98, 108, 101] : Str))]) (map_arr2 (ml2_cons rfl (ml2_nil))) Tryd.underlying22 ti_9 rfl rfl (by kernel_rfl)) fun a206 w205 B_204 hE207 hge210 hB209 hA206 _ => ?_)
      have hB211 := fun hg => (hB209 hg).2
      have hge212 : w191.heap.size ≤ B_204 := hge210
      have hC213 : Chg [] w191 w205 := hE207
      have ht214 := ht192 w205    hC213
      have ht215 := ht214 B_204 hge212 (fun hp => hB211 ((g_mkt rfl hp)))
      obtain ⟨V_224, hc225, ht218⟩ := ht215
      refine sq (opk_grunW hA206 rfl rfl (g := true) (e := (r_189 == r_68)) rfl (fun hg _ _ hr => r_append (cv_get (hA206.get rfl) hg) (cv_get (hA206.get rfl) hg) hr) (fun hg => hc225 (g_t hg)) fun a216 v223 w217 hA216 _ hn219 hz220 hR221 hW222 => ?_)
      obtain ⟨r_228, hx226, hV227⟩ := cvty (α := Sl) (fun s => Sl.v s) (fun s w => V_224 s w) (fun hg => by obtain ⟨r_228, h1, h2⟩ := hR221 hg; exact ⟨r_228, h1, h2⟩)
      rw [hx226] at hA216
      have ht229 := ht218 r_228 w217 hz220 (fun hp => hV227 (g_mkt rfl hp)) (fun hn => hW222 (Bool.eq_false_iff.2 fun hg => hn (g_t hg)))
      refine sq (opk_gval hA216 rfl rfl (g := true) (e := (r_189 == r_68)) rfl (fun hg => r_move (hA216.get rfl)) fun a230 hA230 _ => ?_)
      refine sq (opk_gval hA230 rfl rfl (g := true) (e := (r_189 == r_68)) rfl (fun hg => r_move (hA230.get rfl)) fun a231 hA231 _ => ?_)
      obtain ⟨r_232, hc236, ht235⟩ := ht229
      refine sq (opk_gcall hA231 rfl rfl (g := true) (e := (r_189 == r_68)) rfl (fun hg => r_call (args := #[Sl.v r_228, .string (Bs name_2), .int .i64 (1 + r_44)]) Tryd.func14 (by decide) rfl (map_arr (ml_cons (cv_get (hA231.get rfl) hg) (ml_cons (cv_get (hA231.get rfl) hg) (ml_cons (cv_get (hA231.get rfl) hg) ml_nil)))) rfl) (fun hg => hc236 (g_t hg)) fun a233 w234 hA233 _ hE237 => ?_)
      have hC238 : Chg [] w217 w234 := hE237
      have ht239 := ht235 w234 hE237
      refine sq (opk_gval hA233 rfl rfl (g := true) (e := (r_189 == r_68)) rfl (fun hg => r_not (cv_get (hA233.get rfl) hg)) fun a240 hA240 _ => ?_)
      refine sq (opk_val hA240 rfl (r_pick_and (g := (true && ((r_189 == r_68) == true))) (hA240.get rfl) (hA240.get rfl) (fun he => g_mkt rfl he)) fun a241 hA241 _ => ?_)
      refine sq (opk_val hA241 rfl (r_move (hA241.get rfl)) fun a242 hA242 _ => ?_)
      refine sq (opk_gval hA242 rfl rfl (g := true) (e := ((r_189 == r_68) && (!r_232))) rfl (fun hg => r_move (hA242.get rfl)) fun a243 hA243 _ => ?_)
      refine sq (opk_gval hA243 rfl rfl (g := true) (e := ((r_189 == r_68) && (!r_232))) rfl (fun hg => r_move (hA243.get rfl)) fun a244 hA244 _ => ?_)
      refine sq (opk_gnew2 (fun B => .slice (some ⟨B, 0, none⟩) 1 1) hA244 rfl rfl (g := true) (e := ((r_189 == r_68) && (!r_232))) rfl (fun hg => r_buildSlice (vs := #[(0, .string (Bs name_2))]) (cs := [.string (Bs name_2)]) (map_arr2 (ml2_cons (cv_get (hA244.get rfl) hg) (ml2_nil))) Tryd.underlying22 ti_9 rfl rfl (by kernel_rfl)) fun a247 w246 B_245 hE248 hge251 hB250 hA247 _ => ?_)
      have hB252 := fun hg => (hB250 hg).2
      have hge253 : w234.heap.size ≤ B_245 := hge251
      have hC254 : Chg [] w234 w246 := hE248
      have ht255 := ht239 w246    hC254
      have ht256 := ht255 B_245 hge253 (fun hp => hB252 ((g_mkt rfl (b_and_mk ⟨hp.1, (b_not_mk hp.2)⟩))))
      obtain ⟨V_265, hc266, ht259⟩ := ht256
      refine sq (opk_grunW hA247 rfl rfl (g := true) (e := ((r_189 == r_68) && (!r_232))) rfl (fun hg _ _ hr => r_append (cv_get (hA247.get rfl) hg) (cv_get (hA247.get rfl) hg) hr) (fun hg => hc266 ⟨(b_and_t (g_t hg)).1, (b_not_t (b_and_t (g_t hg)).2)⟩) fun a257 v264 w258 hA257 _ hn260 hz261 hR262 hW263 => ?_)
      obtain ⟨r_269, hx267, hV268⟩ := cvty (α := Sl) (fun s => Sl.v s) (fun s w => V_265 s w) (fun hg => by obtain ⟨r_269, h1, h2⟩ := hR262 hg; exact ⟨r_269, h1, h2⟩)
      rw [hx267] at hA257
      have ht270 := ht259 r_269 w258 hz261 (fun hp => hV268 (g_mkt rfl (b_and_mk ⟨hp.1, (b_not_mk hp.2)⟩))) (fun hn => hW263 (Bool.eq_false_iff.2 fun hg => hn ⟨(b_and_t (g_t hg)).1, (b_not_t (b_and_t (g_t hg)).2)⟩))
      refine sq (opk_gval hA257 rfl rfl (g := true) (e := ((r_189 == r_68) && (!r_232))) rfl (fun hg => r_move (hA257.get rfl)) fun a271 hA271 _ => ?_)
      refine sq (opk_gval hA271 rfl rfl (g := true) (e := ((r_189 == r_68) && (!r_232))) rfl (fun hg => r_move (hA271.get rfl)) fun a272 hA272 _ => ?_)
      obtain ⟨r_273, hc277, ht276⟩ := ht270
      refine sq (opk_gcall hA272 rfl rfl (g := true) (e := ((r_189 == r_68) && (!r_232))) rfl (fun hg => r_call (args := #[Sl.v r_269, .string (Bs name_2), .int .i64 (1 + r_44)]) Tryd.func14 (by decide) rfl (map_arr (ml_cons (cv_get (hA272.get rfl) hg) (ml_cons (cv_get (hA272.get rfl) hg) (ml_cons (cv_get (hA272.get rfl) hg) ml_nil)))) rfl) (fun hg => hc277 ⟨(b_and_t (g_t hg)).1, (b_not_t (b_and_t (g_t hg)).2)⟩) fun a274 w275 hA274 _ hE278 => ?_)
      have hC279 : Chg [] w258 w275 := hE278
      have ht280 := ht276 w275 hE278
      refine sq (opk_val hA274 rfl (r_pick_and (g := (true && (((r_189 == r_68) && (!r_232)) == true))) (hA274.get rfl) (hA274.get rfl) (fun he => g_mkt rfl he)) fun a281 hA281 _ => ?_)
      refine sq (opk_val hA281 rfl (r_move (hA281.get rfl)) fun a282 hA282 _ => ?_)
      obtain ⟨r_283, hc287, ht286⟩ := ht280
      refine sq (opk_gcall hA282 rfl rfl (g := true) (e := (((r_189 == r_68) && (!r_232)) && r_273)) rfl (fun hg => r_call (args := #[]) Tryd.func11 (by decide) rfl (map_arr ml_nil) rfl) (fun hg => hc287 ⟨⟨(b_and_t (b_and_t (g_t hg)).1).1, (b_not_t (b_and_t (b_and_t (g_t hg)).1).2)⟩, (b_and_t (g_t hg)).2⟩) fun a284 w285 hA284 _ hE288 => ?_)
      have hC289 : Chg [] w275 w285 := hE288
      have ht290 := ht286 w285 hE288
      refine sq (opk_val hA284 rfl (r_pick_and (g := (true && ((((r_189 == r_68) && (!r_232)) && r_273) == true))) (hA284.get rfl) (hA284.get rfl) (fun he => g_mkt rfl he)) fun a291 hA291 _ => ?_)
      refine sq (opk_val hA291 rfl (r_assign (hA291.get rfl)) fun a292 hA292 _ => ?_)
      refine sq_end ?_
      have hA293 := hA292.keep [(8, .bool ((((r_189 == r_68) && (!r_232)) && r_273) && r_283))] ⟨rfl, trivial⟩
      refine then_normal ?_
      refine wp_ret ?_
      exact res_all (vs := [.bool ((((r_189 == r_68) && (!r_232)) && r_273) && r_283)]) rfl hA293 ⟨res_of_tmp hA293 rfl, trivial⟩ ht290

end Go.Proofs.YtnmpenfpajfoaaaDoor
