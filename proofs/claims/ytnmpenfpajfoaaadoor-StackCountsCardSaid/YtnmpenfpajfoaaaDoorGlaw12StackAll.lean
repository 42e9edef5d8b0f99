/-
  PRINTED BY PROGRAM: for each function its condition (vc), and that this suffices (ok).
-/
import Derived.Test.YtnmpenfpajfoaaaDoorGT
namespace Go.Proofs.YtnmpenfpajfoaaaDoor
open Go.RowKit
set_option linter.unusedVariables false

/-- The condition of topiary/topiarylaw12.StackAll. -/
def law12_StackAll.vc (name_1 : Str) (sort_2 : Int) (open_3 : Sl) (scope_4 : Int) (names_5 : Sl) (R : Value → World → Prop) (w : World) : Prop :=
CallK Tryd.prog 12 #[Sl.v open_3] w [] (fun v w11 => ∃ (r_9 : Bool), v = .bool r_9 ∧
∃ (r_20 : Bool), (((r_9 = true)) → Calls Tryd.prog 12 #[Sl.v names_5] w11 (Ret fun v w' => Ext w11 w' ∧ v = .bool r_20)) ∧
(∀ w22 : World, Ext w11 w22 →
((((r_9 = false) ∨ (r_20 = false)) ∨ (100 < (name_1.length : Int))) →
CallK Tryd.prog 11 #[] w22 [] (fun v w40 => ∃ (r_38 : Bool), v = .bool r_38 ∧
R (.bool r_38) w40)) ∧
((((r_9 = true) ∧ (r_20 = true)) ∧ (¬ (100 < (name_1.length : Int)))) →
RunK Tryd.prog (Builtin.append_ #[22, 22] 22 #[Sl.v Sl.nil, Sl.v open_3]) w22 [] (fun v w50 => ∃ (r_56 : Sl), v = Sl.v r_56 ∧
CallK Tryd.prog 9 #[.string (Bs name_1), .int .i64 sort_2] w50 [] (fun v w63 => ∃ (r_61 : Bool), v = .bool r_61 ∧
CallK Tryd.prog 10 #[.string (Bs name_1), .int .i64 sort_2] w63 [] (fun v w73 => ∃ (r_71 : Bool), v = .bool r_71 ∧
∃ (r_84 : Bool), ((((r_61 == r_71) = true)) → Calls Tryd.prog 14 #[Sl.v r_56, .string (Bs name_1), .int .i64 scope_4] w73 (Ret fun v w' => Ext w73 w' ∧ v = .bool r_84)) ∧
(∀ w86 : World, Ext w73 w86 →
∃ (r_95 : Bool), ((((r_61 == r_71) = true)) → Calls Tryd.prog 15 #[Sl.v open_3, .string (Bs name_1), .int .i64 scope_4] w86 (Ret fun v w' => Ext w86 w' ∧ v = .bool r_95)) ∧
(∀ w97 : World, Ext w86 w97 →
∃ (r_108 : Int), (((((r_61 == r_71) = true) ∧ ((r_84 == r_95) = true))) → Calls Tryd.prog 16 #[Sl.v r_56, .string (Bs name_1)] w97 (Ret fun v w' => Ext w97 w' ∧ v = .int .i64 r_108)) ∧
(∀ w110 : World, Ext w97 w110 →
∃ (r_118 : Int), (((((r_61 == r_71) = true) ∧ ((r_84 == r_95) = true))) → Calls Tryd.prog 17 #[Sl.v open_3, .string (Bs name_1)] w110 (Ret fun v w' => Ext w110 w' ∧ v = .int .i64 r_118)) ∧
(∀ w120 : World, Ext w110 w120 →
∃ V_139 : Sl → World → Prop, ((((((r_61 == r_71) = true) ∧ ((r_84 == r_95) = true)) ∧ (r_108 = r_118))) → ∃ v w', (Builtin.append_ #[22, 22] 22 #[Sl.v Sl.nil, Sl.v names_5]).run Tryd.prog w120 = .ok v w' ∧ NoTouch [] w120 w' ∧ w120.heap.size ≤ w'.heap.size ∧ ∃ r_143 : Sl, v = Sl.v r_143 ∧ V_139 r_143 w') ∧
(∀ (r_143 : Sl) (w132 : World), w120.heap.size ≤ w132.heap.size → ((((((r_61 == r_71) = true) ∧ ((r_84 == r_95) = true)) ∧ (r_108 = r_118))) → V_139 r_143 w132) → (¬ (((((r_61 == r_71) = true) ∧ ((r_84 == r_95) = true)) ∧ (r_108 = r_118))) → w132 = w120) →
∃ (r_145 : Int), ((((((r_61 == r_71) = true) ∧ ((r_84 == r_95) = true)) ∧ (r_108 = r_118))) → Calls Tryd.prog 18 #[Sl.v r_56, Sl.v r_143] w132 (Ret fun v w' => Ext w132 w' ∧ v = .int .i64 r_145)) ∧
(∀ w147 : World, Ext w132 w147 →
∃ (r_155 : Int), ((((((r_61 == r_71) = true) ∧ ((r_84 == r_95) = true)) ∧ (r_108 = r_118))) → Calls Tryd.prog 19 #[Sl.v open_3, Sl.v names_5] w147 (Ret fun v w' => Ext w147 w' ∧ v = .int .i64 r_155)) ∧
(∀ w157 : World, Ext w147 w157 →
∃ (r_166 : Bool), (((((((r_61 == r_71) = true) ∧ ((r_84 == r_95) = true)) ∧ (r_108 = r_118)) ∧ (r_145 = r_155))) → Calls Tryd.prog 11 #[] w157 (Ret fun v w' => Ext w157 w' ∧ v = .bool r_166)) ∧
(∀ w168 : World, Ext w157 w168 →
R (.bool (((((r_61 == r_71) && (r_84 == r_95)) && (decide (r_108 = r_118))) && (decide (r_145 = r_155))) && r_166)) w168))))))))))))))
set_option maxHeartbeats 1000000 in
set_option maxRecDepth 10000 in
theorem law12_StackAll.ok (name_1 : Str) (sort_2 : Int) (open_3 : Sl) (scope_4 : Int) (names_5 : Sl) {R : Value → World → Prop} {w : World} (ht0 : law12_StackAll.vc name_1 sort_2 open_3 scope_4 names_5 R w) : Calls Tryd.prog 6 #[.string (Bs name_1), .int .i64 sort_2, Sl.v open_3, .int .i64 scope_4, Sl.v names_5] w (Ret R) := by
  refine enter [.string (Bs name_1), .int .i64 sort_2, Sl.v open_3, .int .i64 scope_4, Sl.v names_5] Tryd.func6 rfl Tryd.ntmps6 rfl ?_
  intro a0 hA0
  unfold law12_StackAll.vc at ht0
  refine wp_seq ?_
  refine wp_region_lit ?_
  refine sq (opk_val hA0 rfl (r_assign rfl) fun a6 hA6 _ => ?_)
  refine sq_end ?_
  have hA7 := hA6.keep [(0, .string (Bs name_1)), (1, .int .i64 sort_2), (2, Sl.v open_3), (3, .int .i64 scope_4), (4, Sl.v names_5)] ⟨rfl, rfl, rfl, rfl, rfl, trivial⟩
  refine then_normal ?_
  refine wp_seq ?_
  refine wp_seq ?_
  refine wp_region_lit ?_
  refine sq (opk_val hA7 rfl (r_move (hA7.get rfl)) fun a8 hA8 _ => ?_)
  refine sq (opk_call hA8 rfl (r_call (args := #[Sl.v open_3]) Tryd.func12 (by decide) rfl (map_arr (ml_cons (hA8.get rfl) ml_nil)) rfl) ht0 fun a10 v16 w11 hA10 _ hn13 hz14 hK15 => ?_)
  obtain ⟨r_9, rfl, ht12⟩ := hK15
  refine sq (opk_val hA10 rfl (r_not (hA10.get rfl)) fun a17 hA17 _ => ?_)
  refine sq (opk_val hA17 rfl (r_move (hA17.get rfl)) fun a18 hA18 _ => ?_)
  refine sq (opk_gval hA18 rfl rfl (g := true) (e := (!r_9)) rfl (fun hg => r_move (hA18.get rfl)) fun a19 hA19 _ => ?_)
  obtain ⟨r_20, hc24, ht23⟩ := ht12
  refine sq (opk_gcall hA19 rfl rfl (g := true) (e := (!r_9)) rfl (fun hg => r_call (args := #[Sl.v names_5]) Tryd.func12 (by decide) rfl (map_arr (ml_cons (cv_get (hA19.get rfl) hg) ml_nil)) rfl) (fun hg => hc24 (b_not_f (g_f hg))) fun a21 w22 hA21 _ hE25 => ?_)
  have hC26 : Chg [] w11 w22 := hE25
  have ht27 := ht23 w22 hE25
  refine sq (opk_gval hA21 rfl rfl (g := true) (e := (!r_9)) rfl (fun hg => r_not (cv_get (hA21.get rfl) hg)) fun a28 hA28 _ => ?_)
  refine sq (opk_val hA28 rfl (r_pick_or (g := (true && ((!r_9) == false))) (hA28.get rfl) (hA28.get rfl) (fun he => g_mkf rfl he)) fun a29 hA29 _ => ?_)
  refine sq (opk_val hA29 rfl (r_move (hA29.get rfl)) fun a30 hA30 _ => ?_)
  refine sq (opk_gval hA30 rfl rfl (g := true) (e := ((!r_9) || (!r_20))) rfl (fun hg => r_move (hA30.get rfl)) fun a31 hA31 _ => ?_)
  refine sq (opk_gval hA31 rfl rfl (g := true) (e := ((!r_9) || (!r_20))) rfl (fun hg => r_slen (cv_get (hA31.get rfl) hg) Tryd.underlying9) fun a32 hA32 _ => ?_)
  refine sq (opk_gval hA32 rfl rfl (g := true) (e := ((!r_9) || (!r_20))) rfl (fun hg => r_gtr (cv_get (hA32.get rfl) hg) rfl) fun a33 hA33 _ => ?_)
  refine sq (opk_val hA33 rfl (r_pick_or (g := (true && (((!r_9) || (!r_20)) == false))) (hA33.get rfl) (hA33.get rfl) (fun he => g_mkf rfl he)) fun a34 hA34 _ => ?_)
  refine sq_end ?_
  have hA35 := hA34.keep [(0, .string (Bs name_1)), (1, .int .i64 sort_2), (2, Sl.v open_3), (3, .int .i64 scope_4), (4, Sl.v names_5), (24, .bool (((!r_9) || (!r_20)) || (decide (100 < (name_1.length : Int)))))] ⟨rfl, rfl, rfl, rfl, rfl, rfl, trivial⟩
  refine then_normal ?_
  refine wp_cond_split (hA35.get rfl) (fun hc => ?_) (fun hc => ?_)
  · have ht36 := ht27.1 ((b_or_t hc).imp (fun h => ((b_or_t h).imp (fun h => (b_not_t h)) (fun h => (b_not_t h)))) (fun h => (of_decide_eq_true h)))
    clear hc
    refine wp_seq ?_
    refine wp_region_lit ?_
    refine sq (opk_call hA35 rfl (r_call (args := #[]) Tryd.func11 (by decide) rfl (map_arr ml_nil) rfl) ht36 fun a39 v45 w40 hA39 _ hn42 hz43 hK44 => ?_)
    obtain ⟨r_38, rfl, ht41⟩ := hK44
    refine sq (opk_val hA39 rfl (r_assign (hA39.get rfl)) fun a46 hA46 _ => ?_)
    refine sq_end ?_
    have hA47 := hA46.keep [(10, .bool r_38)] ⟨rfl, trivial⟩
    refine then_normal ?_
    refine wp_ret ?_
    refine then_ret ?_
    exact res_all (vs := [.bool r_38]) rfl hA47 ⟨res_of_tmp hA47 rfl, trivial⟩ ht41
  · have ht37 := ht27.2 ⟨⟨(b_not_f (b_or_f (b_or_f hc).1).1), (b_not_f (b_or_f (b_or_f hc).1).2)⟩, (of_decide_eq_false (b_or_f hc).2)⟩
    clear hc
    refine wp_skip ?_
    refine then_normal ?_
    refine wp_seq ?_
    refine wp_region_lit ?_
    refine sq (opk_val hA35 rfl (r_move (hA35.get rfl)) fun a48 hA48 _ => ?_)
    refine sq (opk_run hA48 rfl (fun _ _ hr => r_append rfl (hA48.get rfl) hr) ht37 fun a49 v55 w50 hA49 _ hn52 hz53 hK54 => ?_)
    obtain ⟨r_56, rfl, ht51⟩ := hK54
    refine sq (opk_val hA49 rfl (r_assign (hA49.get rfl)) fun a57 hA57 _ => ?_)
    refine sq_end ?_
    have hA58 := hA57.keep [(0, .string (Bs name_1)), (1, .int .i64 sort_2), (2, Sl.v open_3), (3, .int .i64 scope_4), (4, Sl.v names_5), (11, Sl.v r_56)] ⟨rfl, rfl, rfl, rfl, rfl, rfl, trivial⟩
    refine then_normal ?_
    refine wp_seq ?_
    refine wp_region_lit ?_
    refine sq (opk_val hA58 rfl (r_move (hA58.get rfl)) fun a59 hA59 _ => ?_)
    refine sq (opk_val hA59 rfl (r_move (hA59.get rfl)) fun a60 hA60 _ => ?_)
    refine sq (opk_call hA60 rfl (r_call (args := #[.string (Bs name_1), .int .i64 sort_2]) Tryd.func9 (by decide) rfl (map_arr (ml_cons (hA60.get rfl) (ml_cons (hA60.get rfl) ml_nil))) rfl) ht51 fun a62 v68 w63 hA62 _ hn65 hz66 hK67 => ?_)
    obtain ⟨r_61, rfl, ht64⟩ := hK67
    refine sq (opk_val hA62 rfl (r_move (hA62.get rfl)) fun a69 hA69 _ => ?_)
    refine sq (opk_val hA69 rfl (r_move (hA69.get rfl)) fun a70 hA70 _ => ?_)
    refine sq (opk_call hA70 rfl (r_call (args := #[.string (Bs name_1), .int .i64 sort_2]) Tryd.func10 (by decide) rfl (map_arr (ml_cons (hA70.get rfl) (ml_cons (hA70.get rfl) ml_nil))) rfl) ht64 fun a72 v78 w73 hA72 _ hn75 hz76 hK77 => ?_)
    obtain ⟨r_71, rfl, ht74⟩ := hK77
    refine sq (opk_val hA72 rfl (r_beql (hA72.get rfl) (hA72.get rfl) Tryd.underlying4) fun a79 hA79 _ => ?_)
    refine sq (opk_val hA79 rfl (r_move (hA79.get rfl)) fun a80 hA80 _ => ?_)
    refine sq (opk_gval hA80 rfl rfl (g := true) (e := (r_61 == r_71)) rfl (fun hg => r_move (hA80.get rfl)) fun a81 hA81 _ => ?_)
    refine sq (opk_gval hA81 rfl rfl (g := true) (e := (r_61 == r_71)) rfl (fun hg => r_move (hA81.get rfl)) fun a82 hA82 _ => ?_)
    refine sq (opk_gval hA82 rfl rfl (g := true) (e := (r_61 == r_71)) rfl (fun hg => r_move (hA82.get rfl)) fun a83 hA83 _ => ?_)
    obtain ⟨r_84, hc88, ht87⟩ := ht74
    refine sq (opk_gcall hA83 rfl rfl (g := true) (e := (r_61 == r_71)) rfl (fun hg => r_call (args := #[Sl.v r_56, .string (Bs name_1), .int .i64 scope_4]) Tryd.func14 (by decide) rfl (map_arr (ml_cons (cv_get (hA83.get rfl) hg) (ml_cons (cv_get (hA83.get rfl) hg) (ml_cons (cv_get (hA83.get rfl) hg) ml_nil)))) rfl) (fun hg => hc88 (g_t hg)) fun a85 w86 hA85 _ hE89 => ?_)
    have hC90 : Chg [] w73 w86 := hE89
    have ht91 := ht87 w86 hE89
    refine sq (opk_gval hA85 rfl rfl (g := true) (e := (r_61 == r_71)) rfl (fun hg => r_move (hA85.get rfl)) fun a92 hA92 _ => ?_)
    refine sq (opk_gval hA92 rfl rfl (g := true) (e := (r_61 == r_71)) rfl (fun hg => r_move (hA92.get rfl)) fun a93 hA93 _ => ?_)
    refine sq (opk_gval hA93 rfl rfl (g := true) (e := (r_61 == r_71)) rfl (fun hg => r_move (hA93.get rfl)) fun a94 hA94 _ => ?_)
    obtain ⟨r_95, hc99, ht98⟩ := ht91
    refine sq (opk_gcall hA94 rfl rfl (g := true) (e := (r_61 == r_71)) rfl (fun hg => r_call (args := #[Sl.v open_3, .string (Bs name_1), .int .i64 scope_4]) Tryd.func15 (by decide) rfl (map_arr (ml_cons (cv_get (hA94.get rfl) hg) (ml_cons (cv_get (hA94.get rfl) hg) (ml_cons (cv_get (hA94.get rfl) hg) ml_nil)))) rfl) (fun hg => hc99 (g_t hg)) fun a96 w97 hA96 _ hE100 => ?_)
    have hC101 : Chg [] w86 w97 := hE100
    have ht102 := ht98 w97 hE100
    refine sq (opk_gval hA96 rfl rfl (g := true) (e := (r_61 == r_71)) rfl (fun hg => r_beql (cv_get (hA96.get rfl) hg) (cv_get (hA96.get rfl) hg) Tryd.underlying4) fun a103 hA103 _ => ?_)
    refine sq (opk_val hA103 rfl (r_pick_and (g := (true && ((r_61 == r_71) == true))) (hA103.get rfl) (hA103.get rfl) (fun he => g_mkt rfl he)) fun a104 hA104 _ => ?_)
    refine sq (opk_val hA104 rfl (r_move (hA104.get rfl)) fun a105 hA105 _ => ?_)
    refine sq (opk_gval hA105 rfl rfl (g := true) (e := ((r_61 == r_71) && (r_84 == r_95))) rfl (fun hg => r_move (hA105.get rfl)) fun a106 hA106 _ => ?_)
    refine sq (opk_gval hA106 rfl rfl (g := true) (e := ((r_61 == r_71) && (r_84 == r_95))) rfl (fun hg => r_move (hA106.get rfl)) fun a107 hA107 _ => ?_)
    obtain ⟨r_108, hc112, ht111⟩ := ht102
    refine sq (opk_gcall hA107 rfl rfl (g := true) (e := ((r_61 == r_71) && (r_84 == r_95))) rfl (fun hg => r_call (args := #[Sl.v r_56, .string (Bs name_1)]) Tryd.func16 (by decide) rfl (map_arr (ml_cons (cv_get (hA107.get rfl) hg) (ml_cons (cv_get (hA107.get rfl) hg) ml_nil))) rfl) (fun hg => hc112 ⟨(b_and_t (g_t hg)).1, (b_and_t (g_t hg)).2⟩) fun a109 w110 hA109 _ hE113 => ?_)
    have hC114 : Chg [] w97 w110 := hE113
    have ht115 := ht111 w110 hE113
    refine sq (opk_gval hA109 rfl rfl (g := true) (e := ((r_61 == r_71) && (r_84 == r_95))) rfl (fun hg => r_move (hA109.get rfl)) fun a116 hA116 _ => ?_)
    refine sq (opk_gval hA116 rfl rfl (g := true) (e := ((r_61 == r_71) && (r_84 == r_95))) rfl (fun hg => r_move (hA116.get rfl)) fun a117 hA117 _ => ?_)
    obtain ⟨r_118, hc122, ht121⟩ := ht115
    refine sq (opk_gcall hA117 rfl rfl (g := true) (e := ((r_61 == r_71) && (r_84 == r_95))) rfl (fun hg => r_call (args := #[Sl.v open_3, .string (Bs name_1)]) Tryd.func17 (by decide) rfl (map_arr (ml_cons (cv_get (hA117.get rfl) hg) (ml_cons (cv_get (hA117.get rfl) hg) ml_nil))) rfl) (fun hg => hc122 ⟨(b_and_t (g_t hg)).1, (b_and_t (g_t hg)).2⟩) fun a119 w120 hA119 _ hE123 => ?_)
    have hC124 : Chg [] w110 w120 := hE123
    have ht125 := ht121 w120 hE123
    refine sq (opk_gval hA119 rfl rfl (g := true) (e := ((r_61 == r_71) && (r_84 == r_95))) rfl (fun hg => r_eql (cv_get (hA119.get rfl) hg) (cv_get (hA119.get rfl) hg)) fun a126 hA126 _ => ?_)
    refine sq (opk_val hA126 rfl (r_pick_and (g := (true && (((r_61 == r_71) && (r_84 == r_95)) == true))) (hA126.get rfl) (hA126.get rfl) (fun he => g_mkt rfl he)) fun a127 hA127 _ => ?_)
    refine sq (opk_val hA127 rfl (r_move (hA127.get rfl)) fun a128 hA128 _ => ?_)
    refine sq (opk_gval hA128 rfl rfl (g := true) (e := (((r_61 == r_71) && (r_84 == r_95)) && (decide (r_108 = r_118)))) rfl (fun hg => r_move (hA128.get rfl)) fun a129 hA129 _ => ?_)
    refine sq (opk_gval hA129 rfl rfl (g := true) (e := (((r_61 == r_71) && (r_84 == r_95)) && (decide (r_108 = r_118)))) rfl (fun hg => r_move (hA129.get rfl)) fun a130 hA130 _ => ?_)
    obtain ⟨V_139, hc140, ht133⟩ := ht125
    refine sq (opk_grunW hA130 rfl rfl (g := true) (e := (((r_61 == r_71) && (r_84 == r_95)) && (decide (r_108 = r_118)))) rfl (fun hg _ _ hr => r_append rfl (cv_get (hA130.get rfl) hg) hr) (fun hg => hc140 ⟨⟨(b_and_t (b_and_t (g_t hg)).1).1, (b_and_t (b_and_t (g_t hg)).1).2⟩, (of_decide_eq_true (b_and_t (g_t hg)).2)⟩) fun a131 v138 w132 hA131 _ hn134 hz135 hR136 hW137 => ?_)
    obtain ⟨r_143, hx141, hV142⟩ := cvty (α := Sl) (fun s => Sl.v s) (fun s w => V_139 s w) (fun hg => by obtain ⟨r_143, h1, h2⟩ := hR136 hg; exact ⟨r_143, h1, h2⟩)
    rw [hx141] at hA131
    have ht144 := ht133 r_143 w132 hz135 (fun hp => hV142 (g_mkt rfl (b_and_mk ⟨(b_and_mk ⟨hp.1.1, hp.1.2⟩), (decide_eq_true hp.2)⟩))) (fun hn => hW137 (Bool.eq_false_iff.2 fun hg => hn ⟨⟨(b_and_t (b_and_t (g_t hg)).1).1, (b_and_t (b_and_t (g_t hg)).1).2⟩, (of_decide_eq_true (b_and_t (g_t hg)).2)⟩))
    obtain ⟨r_145, hc149, ht148⟩ := ht144
    refine sq (opk_gcall hA131 rfl rfl (g := true) (e := (((r_61 == r_71) && (r_84 == r_95)) && (decide (r_108 = r_118)))) rfl (fun hg => r_call (args := #[Sl.v r_56, Sl.v r_143]) Tryd.func18 (by decide) rfl (map_arr (ml_cons (cv_get (hA131.get rfl) hg) (ml_cons (cv_get (hA131.get rfl) hg) ml_nil))) rfl) (fun hg => hc149 ⟨⟨(b_and_t (b_and_t (g_t hg)).1).1, (b_and_t (b_and_t (g_t hg)).1).2⟩, (of_decide_eq_true (b_and_t (g_t hg)).2)⟩) fun a146 w147 hA146 _ hE150 => ?_)
    have hC151 : Chg [] w132 w147 := hE150
    have ht152 := ht148 w147 hE150
    refine sq (opk_gval hA146 rfl rfl (g := true) (e := (((r_61 == r_71) && (r_84 == r_95)) && (decide (r_108 = r_118)))) rfl (fun hg => r_move (hA146.get rfl)) fun a153 hA153 _ => ?_)
    refine sq (opk_gval hA153 rfl rfl (g := true) (e := (((r_61 == r_71) && (r_84 == r_95)) && (decide (r_108 = r_118)))) rfl (fun hg => r_move (hA153.get rfl)) fun a154 hA154 _ => ?_)
    obtain ⟨r_155, hc159, ht158⟩ := ht152
    refine sq (opk_gcall hA154 rfl rfl (g := true) (e := (((r_61 == r_71) && (r_84 == r_95)) && (decide (r_108 = r_118)))) rfl (fun hg => r_call (args := #[Sl.v open_3, Sl.v names_5]) Tryd.func19 (by decide) rfl (map_arr (ml_cons (cv_get (hA154.get rfl) hg) (ml_cons (cv_get (hA154.get rfl) hg) ml_nil))) rfl) (fun hg => hc159 ⟨⟨(b_and_t (b_and_t (g_t hg)).1).1, (b_and_t (b_and_t (g_t hg)).1).2⟩, (of_decide_eq_true (b_and_t (g_t hg)).2)⟩) fun a156 w157 hA156 _ hE160 => ?_)
    have hC161 : Chg [] w147 w157 := hE160
    have ht162 := ht158 w157 hE160
    refine sq (opk_gval hA156 rfl rfl (g := true) (e := (((r_61 == r_71) && (r_84 == r_95)) && (decide (r_108 = r_118)))) rfl (fun hg => r_eql (cv_get (hA156.get rfl) hg) (cv_get (hA156.get rfl) hg)) fun a163 hA163 _ => ?_)
    refine sq (opk_val hA163 rfl (r_pick_and (g := (true && ((((r_61 == r_71) && (r_84 == r_95)) && (decide (r_108 = r_118))) == true))) (hA163.get rfl) (hA163.get rfl) (fun he => g_mkt rfl he)) fun a164 hA164 _ => ?_)
    refine sq (opk_val hA164 rfl (r_move (hA164.get rfl)) fun a165 hA165 _ => ?_)
    obtain ⟨r_166, hc170, ht169⟩ := ht162
    refine sq (opk_gcall hA165 rfl rfl (g := true) (e := ((((r_61 == r_71) && (r_84 == r_95)) && (decide (r_108 = r_118))) && (decide (r_145 = r_155)))) rfl (fun hg => r_call (args := #[]) Tryd.func11 (by decide) rfl (map_arr ml_nil) rfl) (fun hg => hc170 ⟨⟨⟨(b_and_t (b_and_t (b_and_t (g_t hg)).1).1).1, (b_and_t (b_and_t (b_and_t (g_t hg)).1).1).2⟩, (of_decide_eq_true (b_and_t (b_and_t (g_t hg)).1).2)⟩, (of_decide_eq_true (b_and_t (g_t hg)).2)⟩) fun a167 w168 hA167 _ hE171 => ?_)
    have hC172 : Chg [] w157 w168 := hE171
    have ht173 := ht169 w168 hE171
    refine sq (opk_val hA167 rfl (r_pick_and (g := (true && (((((r_61 == r_71) && (r_84 == r_95)) && (decide (r_108 = r_118))) && (decide (r_145 = r_155))) == true))) (hA167.get rfl) (hA167.get rfl) (fun he => g_mkt rfl he)) fun a174 hA174 _ => ?_)
    refine sq (opk_val hA174 rfl (r_assign (hA174.get rfl)) fun a175 hA175 _ => ?_)
    refine sq_end ?_
    have hA176 := hA175.keep [(10, .bool (((((r_61 == r_71) && (r_84 == r_95)) && (decide (r_108 = r_118))) && (decide (r_145 = r_155))) && r_166))] ⟨rfl, trivial⟩
    refine then_normal ?_
    refine wp_ret ?_
    exact res_all (vs := [.bool (((((r_61 == r_71) && (r_84 == r_95)) && (decide (r_108 = r_118))) && (decide (r_145 = r_155))) && r_166)]) rfl hA176 ⟨res_of_tmp hA176 rfl, trivial⟩ ht173

end Go.Proofs.YtnmpenfpajfoaaaDoor
