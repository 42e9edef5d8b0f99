/-
  PRINTED BY PROGRAM: for each function its condition (vc), and that this suffices (ok).
-/
import Derived.Test.YtnmpenfpajfoaaaDoorGT
namespace Go.Proofs.YtnmpenfpajfoaaaDoor
open Go.RowKit
set_option linter.unusedVariables false

/-- The condition of topiary/topiarylaw12.StackSorts. -/
def law12_StackSorts.vc  (R : Value → World → Prop) (w : World) : Prop :=
∃ (J_10 : Sl → Int → World → Prop) (mu_11 : Sl → Int → World → Nat),
J_10 Sl.nil 1 w ∧
(∀ (all_7 : Sl) (s_8 : Int) (w9 : World), J_10 all_7 s_8 w9 →
((s_8 ≤ 8) →
CallK Tryd.prog 8 #[.int .i64 s_8] w9 [] (fun v w58 => ∃ (r_56 : Sl), v = Sl.v r_56 ∧
RunK Tryd.prog (Builtin.append_ #[22, 22] 22 #[Sl.v all_7, Sl.v r_56]) w58 [] (fun v w65 => ∃ (r_71 : Sl), v = Sl.v r_71 ∧
(I64 (s_8 + 1)) ∧
J_10 r_71 (s_8 + 1) w65 ∧ mu_11 r_71 (s_8 + 1) w65 < mu_11 all_7 s_8 w9))) ∧
((¬ (s_8 ≤ 8)) →
∀ (w84 : World) (B_83 : Nat), New w9 B_83 w84 → Chg [] w9 w84 →
∀ (_ : Box w84 B_83 9 [.string (Bs ([] : Str)), .string (Bs ([115, 112, 97, 110] : Str)), .string (Bs ([104, 55] : Str)), .string (Bs ([65] : Str)), .string (Bs ([98, 82] : Str))]),
RunK Tryd.prog (Builtin.append_ #[22, 22] 22 #[Sl.v all_7, Sl.v (Sl.mk (some ⟨B_83, 0, none⟩) 5 5)]) w84 [] (fun v w94 => ∃ (r_100 : Sl), v = Sl.v r_100 ∧
∃ (J_107 : Int → World → Prop) (mu_108 : Int → World → Nat),
J_107 0 w94 ∧
(∀ (i_105 : Int) (w106 : World), J_107 i_105 w106 →
((i_105 < (r_100.n : Int)) →
∃ (J_272 : Int → World → Prop) (mu_273 : Int → World → Nat),
J_272 0 w106 ∧
(∀ (s_270 : Int) (w271 : World), J_272 s_270 w271 →
((s_270 ≤ 9) →
∀ (w344 : World), Chg [] w271 w344 →
∃ p_350 : Addr, (((0 : Int) ≤ i_105 ∧ i_105 < (r_100.n : Int)) ∧ r_100.a = some p_350) ∧
∃ (x_354 : Str), (w344.cell? (p_350.add (i_105.toNat * 1)) = some (.string (Bs x_354))) ∧
∃ (r_359 : Bool), (∀ w' : World, Ext w344 w' → Calls Tryd.prog 9 #[.string (Bs x_354), .int .i64 s_270] w' (Ret fun v w'' => Ext w' w'' ∧ v = .bool r_359)) ∧
∃ p_364 : Addr, (((0 : Int) ≤ i_105 ∧ i_105 < (r_100.n : Int)) ∧ r_100.a = some p_364) ∧
∃ (x_368 : Str), (w344.cell? (p_364.add (i_105.toNat * 1)) = some (.string (Bs x_368))) ∧
∃ (r_373 : Bool), (∀ w' : World, Ext w344 w' → Calls Tryd.prog 10 #[.string (Bs x_368), .int .i64 s_270] w' (Ret fun v w'' => Ext w' w'' ∧ v = .bool r_373)) ∧
(((r_359 == r_373) = false) →
∀ (w379 : World), Chg [] w344 w379 →
R (.bool false) w379) ∧
(((r_359 == r_373) = true) →
(I64 (s_270 + 1)) ∧
∀ (w379 : World), Chg [] w344 w379 →
J_272 (s_270 + 1) w379 ∧ mu_273 (s_270 + 1) w379 < mu_273 s_270 w271)) ∧
((¬ (s_270 ≤ 9)) →
(I64 (i_105 + 1)) ∧
J_107 (i_105 + 1) w271 ∧ mu_108 (i_105 + 1) w271 < mu_108 i_105 w106))) ∧
((¬ (i_105 < (r_100.n : Int))) →
∃ (r_414 : Bool), (((150 < (r_100.n : Int))) → Calls Tryd.prog 11 #[] w106 (Ret fun v w' => Ext w106 w' ∧ v = .bool r_414)) ∧
(∀ w416 : World, Ext w106 w416 →
R (.bool ((decide (150 < (r_100.n : Int))) && r_414)) w416))))))
set_option maxHeartbeats 1000000 in
set_option maxRecDepth 10000 in
theorem law12_StackSorts.ok  {R : Value → World → Prop} {w : World} (ht0 : law12_StackSorts.vc  R w) : Calls Tryd.prog 3 #[] w (Ret R) := by
  refine enter [] Tryd.func3 rfl Tryd.ntmps3 rfl ?_
  intro a0 hA0
  unfold law12_StackSorts.vc at ht0
  refine wp_seq ?_
  refine wp_region_lit ?_
  refine sq (opk_val hA0 rfl (r_assign rfl) fun a1 hA1 _ => ?_)
  refine sq_end ?_
  have hA2 := hA1.keep [] trivial
  refine then_normal ?_
  refine wp_seq ?_
  refine wp_region_lit ?_
  refine sq (opk_val hA2 rfl (r_assign rfl) fun a3 hA3 _ => ?_)
  refine sq_end ?_
  have hA4 := hA3.keep [(1, Sl.v Sl.nil)] ⟨rfl, trivial⟩
  refine then_normal ?_
  refine wp_seq ?_
  refine wp_seq ?_
  refine wp_region_lit ?_
  refine sq (opk_val hA4 rfl (r_assign rfl) fun a5 hA5 _ => ?_)
  refine sq_end ?_
  have hA6 := hA5.keep [(1, Sl.v Sl.nil), (2, .int .i64 1)] ⟨rfl, rfl, trivial⟩
  refine then_normal ?_
  refine wp_block ?_
  obtain ⟨J_10, mu_11, h046, ht45⟩ := ht0
  refine wp_loop_st (σ := Sl × Int × World) (fun s a w => Ag 45 a [(1, Sl.v s.1), (2, .int .i64 s.2.1)] ∧ w = s.2.2 ∧ J_10 s.1 s.2.1 s.2.2) (fun s => mu_11 s.1 s.2.1 s.2.2) (Sl.nil, 1, w) ⟨hA6.keep [(1, Sl.v Sl.nil), (2, .int .i64 1)] ⟨rfl, rfl, trivial⟩, rfl, h046⟩ ?_
  rintro ⟨all_7, s_8, w9⟩ a44 w_ ⟨hA44, hw_, hJ48⟩
  have hw_ : w9 = w_ := hw_.symm
  subst hw_
  have ht47 := ht45 all_7 s_8 _ hJ48
  refine wp_seq ?_
  refine wp_seq ?_
  refine wp_region_lit ?_
  refine sq (opk_val hA44 rfl (r_move (hA44.get rfl)) fun a49 hA49 _ => ?_)
  refine sq (opk_val hA49 rfl (r_leq (hA49.get rfl) rfl) fun a50 hA50 _ => ?_)
  refine sq_end ?_
  have hA51 := hA50.keep [(1, Sl.v all_7), (2, .int .i64 s_8), (6, .bool (decide (s_8 ≤ 8)))] ⟨rfl, rfl, rfl, trivial⟩
  refine then_normal ?_
  refine wp_cond_split (hA51.get rfl) (fun hc => ?_) (fun hc => ?_)
  · have ht52 := ht47.1 (of_decide_eq_true hc)
    clear hc
    refine wp_skip ?_
    refine then_normal ?_
    refine wp_seq ?_
    refine wp_block ?_
    refine wp_region_lit ?_
    refine sq (opk_val hA51 rfl (r_move (hA51.get rfl)) fun a54 hA54 _ => ?_)
    refine sq (opk_val hA54 rfl (r_move (hA54.get rfl)) fun a55 hA55 _ => ?_)
    refine sq (opk_call hA55 rfl (r_call (args := #[.int .i64 s_8]) Tryd.func8 (by decide) rfl (map_arr (ml_cons (hA55.get rfl) ml_nil)) rfl) ht52 fun a57 v63 w58 hA57 _ hn60 hz61 hK62 => ?_)
    obtain ⟨r_56, rfl, ht59⟩ := hK62
    refine sq (opk_run hA57 rfl (fun _ _ hr => r_append (hA57.get rfl) (hA57.get rfl) hr) ht59 fun a64 v70 w65 hA64 _ hn67 hz68 hK69 => ?_)
    obtain ⟨r_71, rfl, ht66⟩ := hK69
    refine sq (opk_val hA64 rfl (r_assign (hA64.get rfl)) fun a72 hA72 _ => ?_)
    refine sq_end ?_
    have hA73 := hA72.keep [(1, Sl.v r_71), (2, .int .i64 s_8)] ⟨rfl, rfl, trivial⟩
    refine block_normal ?_
    refine then_normal ?_
    refine wp_region_lit ?_
    refine sq (opk_val hA73 rfl (r_move (hA73.get rfl)) fun a74 hA74 _ => ?_)
    obtain ⟨hS76, ht77⟩ := ht66
    refine sq (opk_val hA74 rfl (r_addI (hA74.get rfl) rfl hS76) fun a75 hA75 _ => ?_)
    refine sq (opk_val hA75 rfl (r_assign (hA75.get rfl)) fun a78 hA78 _ => ?_)
    refine sq_end ?_
    have hA79 := hA78.keep [(1, Sl.v r_71), (2, .int .i64 (s_8 + 1))] ⟨rfl, rfl, trivial⟩
    have hA80 := hA79.keep [(1, Sl.v r_71), (2, .int .i64 (s_8 + 1))] ⟨rfl, rfl, trivial⟩
    exact then_normal ⟨(r_71, s_8 + 1, w65), ⟨hA80, rfl, ht77.1⟩, ht77.2⟩
  · have ht53 := ht47.2 (of_decide_eq_false hc)
    clear hc
    refine wp_exit ?_
    refine then_exit ?_
    refine then_exit ?_
    refine block_hit ?_
    have hA81 := hA51.keep [(1, Sl.v all_7)] ⟨rfl, trivial⟩
    refine then_normal ?_
    refine wp_seq ?_
    refine wp_region_lit ?_
    refine sq (opk_val hA81 rfl (r_move (hA81.get rfl)) fun a82 hA82 _ => ?_)
    refine sq (opk_new (fun B => .slice (some ⟨B, 0, none⟩) 5 5) hA82 rfl (r_buildSlice (vs := #[(0, .string (Bs ([] : Str))), (1, .string (Bs ([115, 112, 97, 110] : Str))), (2, .string (Bs ([104, 55] : Str))), (3, .string (Bs ([65] : Str))), (4, .string (Bs ([98, 82] : Str)))]) (cs := [.string (Bs ([] : Str)), .string (Bs ([115, 112, 97, 110] : Str)), .string (Bs ([104, 55] : Str)), .string (Bs ([65] : Str)), .string (Bs ([98, 82] : Str))]) (map_arr2 (ml2_cons rfl (ml2_cons rfl (ml2_cons rfl (ml2_cons rfl (ml2_cons rfl (ml2_nil))))))) Tryd.underlying22 ti_9 rfl rfl (by kernel_rfl)) fun a85 w84 B_83 hE86 hN87 hB88 hA85 _ => ?_)
    have hN89 : New w9 B_83 w84 := hN87
    have hC90 : Chg [] w9 w84 := hE86
    have ht91 := ht53 w84 B_83 hN89  hC90
    have ht92 := ht91 hB88
    refine sq (opk_run hA85 rfl (fun _ _ hr => r_append (hA85.get rfl) (hA85.get rfl) hr) ht92 fun a93 v99 w94 hA93 _ hn96 hz97 hK98 => ?_)
    obtain ⟨r_100, rfl, ht95⟩ := hK98
    refine sq (opk_val hA93 rfl (r_assign (hA93.get rfl)) fun a101 hA101 _ => ?_)
    refine sq_end ?_
    have hA102 := hA101.keep [(1, Sl.v r_100)] ⟨rfl, trivial⟩
    refine then_normal ?_
    refine wp_seq ?_
    refine wp_seq ?_
    refine wp_region_lit ?_
    refine sq (opk_val hA102 rfl (r_assign rfl) fun a103 hA103 _ => ?_)
    refine sq_end ?_
    have hA104 := hA103.keep [(1, Sl.v r_100), (3, .int .i64 0)] ⟨rfl, rfl, trivial⟩
    refine then_normal ?_
    refine wp_block ?_
    obtain ⟨J_107, mu_108, h0258, ht257⟩ := ht95
    refine wp_loop_st (σ := Int × World) (fun s a w => Ag 45 a [(1, Sl.v r_100), (3, .int .i64 s.1)] ∧ w = s.2 ∧ J_107 s.1 s.2) (fun s => mu_108 s.1 s.2) (0, w94) ⟨hA104.keep [(1, Sl.v r_100), (3, .int .i64 0)] ⟨rfl, rfl, trivial⟩, rfl, h0258⟩ ?_
    rintro ⟨i_105, w106⟩ a256 w_ ⟨hA256, hw_, hJ260⟩
    have hw_ : w106 = w_ := hw_.symm
    subst hw_
    have ht259 := ht257 i_105 _ hJ260
    refine wp_seq ?_
    refine wp_seq ?_
    refine wp_region_lit ?_
    refine sq (opk_val hA256 rfl (r_move (hA256.get rfl)) fun a261 hA261 _ => ?_)
    refine sq (opk_val hA261 rfl (r_move (hA261.get rfl)) fun a262 hA262 _ => ?_)
    refine sq (opk_val hA262 rfl (r_len (hA262.get rfl) Tryd.underlying22) fun a263 hA263 _ => ?_)
    refine sq (opk_val hA263 rfl (r_lss (hA263.get rfl) (hA263.get rfl)) fun a264 hA264 _ => ?_)
    refine sq_end ?_
    have hA265 := hA264.keep [(1, Sl.v r_100), (3, .int .i64 i_105), (19, .bool (decide (i_105 < (r_100.n : Int))))] ⟨rfl, rfl, rfl, trivial⟩
    refine then_normal ?_
    refine wp_cond_split (hA265.get rfl) (fun hc => ?_) (fun hc => ?_)
    · have ht266 := ht259.1 (of_decide_eq_true hc)
      clear hc
      refine wp_skip ?_
      refine then_normal ?_
      refine wp_seq ?_
      refine wp_block ?_
      refine wp_seq ?_
      refine wp_region_lit ?_
      refine sq (opk_val hA265 rfl (r_assign rfl) fun a268 hA268 _ => ?_)
      refine sq_end ?_
      have hA269 := hA268.keep [(1, Sl.v r_100), (3, .int .i64 i_105), (4, .int .i64 0)] ⟨rfl, rfl, rfl, trivial⟩
      refine then_normal ?_
      refine wp_block ?_
      obtain ⟨J_272, mu_273, h0336, ht335⟩ := ht266
      refine wp_loop_st (σ := Int × World) (fun s a w => Ag 45 a [(1, Sl.v r_100), (3, .int .i64 i_105), (4, .int .i64 s.1)] ∧ w = s.2 ∧ J_272 s.1 s.2) (fun s => mu_273 s.1 s.2) (0, w106) ⟨hA269.keep [(1, Sl.v r_100), (3, .int .i64 i_105), (4, .int .i64 0)] ⟨rfl, rfl, rfl, trivial⟩, rfl, h0336⟩ ?_
      rintro ⟨s_270, w271⟩ a334 w_ ⟨hA334, hw_, hJ338⟩
      have hw_ : w271 = w_ := hw_.symm
      subst hw_
      have ht337 := ht335 s_270 _ hJ338
      refine wp_seq ?_
      refine wp_seq ?_
      refine wp_region_lit ?_
      refine sq (opk_val hA334 rfl (r_move (hA334.get rfl)) fun a339 hA339 _ => ?_)
      refine sq (opk_val hA339 rfl (r_leq (hA339.get rfl) rfl) fun a340 hA340 _ => ?_)
      refine sq_end ?_
      have hA341 := hA340.keep [(1, Sl.v r_100), (3, .int .i64 i_105), (4, .int .i64 s_270), (23, .bool (decide (s_270 ≤ 9)))] ⟨rfl, rfl, rfl, rfl, trivial⟩
      refine then_normal ?_
      refine wp_cond_split (hA341.get rfl) (fun hc => ?_) (fun hc => ?_)
      · have ht342 := ht337.1 (of_decide_eq_true hc)
        clear hc
        refine wp_skip ?_
        refine then_normal ?_
        refine wp_seq ?_
        refine wp_block ?_
        refine wp_seq ?_
        refine draw' (by kernel_rfl) fun w344 hE345 => ?_
        have hC346 : Chg [] w271 w344 := hE345
        have ht347 := ht342 w344    hC346
        obtain ⟨p_350, hp351, ht352⟩ := ht347
        obtain ⟨x_354, hx355, ht356⟩ := ht352
        obtain ⟨r_359, hc360, ht361⟩ := ht356
        obtain ⟨p_364, hp365, ht366⟩ := ht361
        obtain ⟨x_368, hx369, ht370⟩ := ht366
        obtain ⟨r_373, hc374, ht375⟩ := ht370
        refine par (D := [[], [], [0, 1], [0, 1, 2], [], [0, 1, 2, 3, 4], [], [], [6, 7], [6, 7, 8], [], [0, 1, 2, 3, 4, 5, 6, 7, 8, 9, 10], [0, 1, 2, 3, 4, 5, 6, 7, 8, 9, 10, 11]]) (S := [0, 1, 2, 3, 4, 5, 6, 7, 8, 9, 10, 11, 12]) (F := []) (V := VL [(0, fun v _ => v = Sl.v r_100), (1, fun v _ => v = .int .i64 i_105), (2, fun v _ => v = .pointer (some (p_350.add (i_105.toNat * 1)))), (3, fun v _ => v = .string (Bs x_354)), (4, fun v _ => v = .int .i64 s_270), (5, fun v _ => v = .bool r_359), (6, fun v _ => v = Sl.v r_100), (7, fun v _ => v = .int .i64 i_105), (8, fun v _ => v = .pointer (some (p_364.add (i_105.toNat * 1)))), (9, fun v _ => v = .string (Bs x_368)), (10, fun v _ => v = .int .i64 s_270), (11, fun v _ => v = .bool r_373), (12, fun v _ => v = .bool (!(r_359 == r_373)))]) hA341 (by kernel_rfl) ⟨fun _ _ _ _ h => by first | exact h | (change _ = _ at h; change _ = _; exact h), fun _ _ _ _ h => by first | exact h | (change _ = _ at h; change _ = _; exact h), fun _ _ _ _ h => by first | exact h | (change _ = _ at h; change _ = _; exact h), fun _ _ _ _ h => by first | exact h | (change _ = _ at h; change _ = _; exact h), fun _ _ _ _ h => by first | exact h | (change _ = _ at h; change _ = _; exact h), fun _ _ _ _ h => by first | exact h | (change _ = _ at h; change _ = _; exact h), fun _ _ _ _ h => by first | exact h | (change _ = _ at h; change _ = _; exact h), fun _ _ _ _ h => by first | exact h | (change _ = _ at h; change _ = _; exact h), fun _ _ _ _ h => by first | exact h | (change _ = _ at h; change _ = _; exact h), fun _ _ _ _ h => by first | exact h | (change _ = _ at h; change _ = _; exact h), fun _ _ _ _ h => by first | exact h | (change _ = _ at h; change _ = _; exact h), fun _ _ _ _ h => by first | exact h | (change _ = _ at h; change _ = _; exact h), fun _ _ _ _ h => by first | exact h | (change _ = _ at h; change _ = _; exact h), trivial⟩ ⟨?_, ?_, ?_, ?_, ?_, ?_, ?_, ?_, ?_, ?_, ?_, ?_, ?_, trivial⟩ ?_
        · intro a w hT
          have hAp := hT.ag hA341 [(1, Sl.v r_100)] ⟨rfl, trivial⟩ (by kernel_rfl)
          exact opk_val hAp rfl (r_move (hAp.get rfl)) fun _ _ e => ⟨_, e, Chg.refl _ _, fun _ => Eq.refl _⟩
        · intro a w hT
          have hAp := hT.ag hA341 [(3, .int .i64 i_105)] ⟨rfl, trivial⟩ (by kernel_rfl)
          exact opk_val hAp rfl (r_move (hAp.get rfl)) fun _ _ e => ⟨_, e, Chg.refl _ _, fun _ => Eq.refl _⟩
        · intro a w hT
          have hAp := hT.ag hA341 [] trivial (by kernel_rfl)
          have e348 : a.tmps.getD 26 undef = Sl.v r_100 := hT.vals 0 rfl 26 rfl
          have hAp := hAp.add e348
          have e349 : a.tmps.getD 27 undef = .int .i64 i_105 := hT.vals 1 rfl 27 rfl
          have hAp := hAp.add e349
          exact opk_val hAp rfl (r_indexAddr (hAp.get rfl) (hAp.get rfl) Tryd.underlying22 ti_9 hp351.1 hp351.2) fun _ _ e => ⟨_, e, Chg.refl _ _, fun _ => Eq.refl _⟩
        · intro a w hT
          have hAp := hT.ag hA341 [] trivial (by kernel_rfl)
          have e353 : a.tmps.getD 28 undef = .pointer (some (p_350.add (i_105.toNat * 1))) := hT.vals 2 rfl 28 rfl
          have hAp := hAp.add e353
          exact opk_val hAp rfl (r_load1 Tryd.underlying9 rfl (hAp.get rfl) (Ext.cell hT.chg hx355)) fun _ _ e => ⟨_, e, Chg.refl _ _, fun _ => Eq.refl _⟩
        · intro a w hT
          have hAp := hT.ag hA341 [(4, .int .i64 s_270)] ⟨rfl, trivial⟩ (by kernel_rfl)
          exact opk_val hAp rfl (r_move (hAp.get rfl)) fun _ _ e => ⟨_, e, Chg.refl _ _, fun _ => Eq.refl _⟩
        · intro a w hT
          have hAp := hT.ag hA341 [] trivial (by kernel_rfl)
          have e357 : a.tmps.getD 29 undef = .string (Bs x_354) := hT.vals 3 rfl 29 rfl
          have hAp := hAp.add e357
          have e358 : a.tmps.getD 30 undef = .int .i64 s_270 := hT.vals 4 rfl 30 rfl
          have hAp := hAp.add e358
          exact opk_callX hAp rfl (r_call (args := #[.string (Bs x_354), .int .i64 s_270]) Tryd.func9 (by decide) rfl (map_arr (ml_cons (hAp.get rfl) (ml_cons (hAp.get rfl) ml_nil))) rfl) (hc360 w hT.chg) fun _ _ _ _ e hR => ⟨_, e, hR.1, fun _ => hR.2⟩
        · intro a w hT
          have hAp := hT.ag hA341 [(1, Sl.v r_100)] ⟨rfl, trivial⟩ (by kernel_rfl)
          exact opk_val hAp rfl (r_move (hAp.get rfl)) fun _ _ e => ⟨_, e, Chg.refl _ _, fun _ => Eq.refl _⟩
        · intro a w hT
          have hAp := hT.ag hA341 [(3, .int .i64 i_105)] ⟨rfl, trivial⟩ (by kernel_rfl)
          exact opk_val hAp rfl (r_move (hAp.get rfl)) fun _ _ e => ⟨_, e, Chg.refl _ _, fun _ => Eq.refl _⟩
        · intro a w hT
          have hAp := hT.ag hA341 [] trivial (by kernel_rfl)
          have e362 : a.tmps.getD 32 undef = Sl.v r_100 := hT.vals 6 rfl 32 rfl
          have hAp := hAp.add e362
          have e363 : a.tmps.getD 33 undef = .int .i64 i_105 := hT.vals 7 rfl 33 rfl
          have hAp := hAp.add e363
          exact opk_val hAp rfl (r_indexAddr (hAp.get rfl) (hAp.get rfl) Tryd.underlying22 ti_9 hp365.1 hp365.2) fun _ _ e => ⟨_, e, Chg.refl _ _, fun _ => Eq.refl _⟩
        · intro a w hT
          have hAp := hT.ag hA341 [] trivial (by kernel_rfl)
          have e367 : a.tmps.getD 34 undef = .pointer (some (p_364.add (i_105.toNat * 1))) := hT.vals 8 rfl 34 rfl
          have hAp := hAp.add e367
          exact opk_val hAp rfl (r_load1 Tryd.underlying9 rfl (hAp.get rfl) (Ext.cell hT.chg hx369)) fun _ _ e => ⟨_, e, Chg.refl _ _, fun _ => Eq.refl _⟩
        · intro a w hT
          have hAp := hT.ag hA341 [(4, .int .i64 s_270)] ⟨rfl, trivial⟩ (by kernel_rfl)
          exact opk_val hAp rfl (r_move (hAp.get rfl)) fun _ _ e => ⟨_, e, Chg.refl _ _, fun _ => Eq.refl _⟩
        · intro a w hT
          have hAp := hT.ag hA341 [] trivial (by kernel_rfl)
          have e371 : a.tmps.getD 35 undef = .string (Bs x_368) := hT.vals 9 rfl 35 rfl
          have hAp := hAp.add e371
          have e372 : a.tmps.getD 36 undef = .int .i64 s_270 := hT.vals 10 rfl 36 rfl
          have hAp := hAp.add e372
          exact opk_callX hAp rfl (r_call (args := #[.string (Bs x_368), .int .i64 s_270]) Tryd.func10 (by decide) rfl (map_arr (ml_cons (hAp.get rfl) (ml_cons (hAp.get rfl) ml_nil))) rfl) (hc374 w hT.chg) fun _ _ _ _ e hR => ⟨_, e, hR.1, fun _ => hR.2⟩
        · intro a w hT
          have hAp := hT.ag hA341 [] trivial (by kernel_rfl)
          have e376 : a.tmps.getD 31 undef = .bool r_359 := hT.vals 5 rfl 31 rfl
          have hAp := hAp.add e376
          have e377 : a.tmps.getD 37 undef = .bool r_373 := hT.vals 11 rfl 37 rfl
          have hAp := hAp.add e377
          exact opk_val hAp rfl (r_bneq (hAp.get rfl) (hAp.get rfl) Tryd.underlying4) fun _ _ e => ⟨_, e, Chg.refl _ _, fun _ => Eq.refl _⟩
        · intro a378 w379 hE380 hag381 hv382
          have hA378 := hag381 [(1, Sl.v r_100), (3, .int .i64 i_105), (4, .int .i64 s_270)] ⟨rfl, rfl, rfl, trivial⟩ (by kernel_rfl)
          have e384 : a378.tmps.getD 38 undef = .bool (!(r_359 == r_373)) := hv382 12 rfl 38 rfl
          have hA385 := hA378.add e384
          have hC386 : Chg [] w344 w379 := hE380
          refine PR_end (by kernel_rfl) ?_
          have hA387 := hA385.keep [(1, Sl.v r_100), (3, .int .i64 i_105), (4, .int .i64 s_270), (38, .bool (!(r_359 == r_373)))] ⟨rfl, rfl, rfl, rfl, trivial⟩
          refine then_normal ?_
          refine wp_cond_split (hA387.get rfl) (fun hc => ?_) (fun hc => ?_)
          · have ht388 := ht375.1 (b_not_t hc)
            clear hc
            refine wp_seq ?_
            refine wp_region_lit ?_
            refine sq (opk_val hA387 rfl (r_assign rfl) fun a390 hA390 _ => ?_)
            refine sq_end ?_
            have hA391 := hA390.keep [(0, .bool false)] ⟨rfl, trivial⟩
            refine then_normal ?_
            refine wp_ret ?_
            refine block_ret ?_
            refine then_ret ?_
            refine then_ret ?_
            refine block_ret ?_
            refine block_ret ?_
            refine then_ret ?_
            refine then_ret ?_
            refine block_ret ?_
            refine then_ret ?_
            have ht392 := ht388 w379    hC386
            exact res_all (vs := [.bool false]) rfl hA391 ⟨res_of_tmp hA391 rfl, trivial⟩ ht392
          · have ht389 := ht375.2 (b_not_f hc)
            clear hc
            refine wp_skip ?_
            refine block_normal ?_
            refine then_normal ?_
            refine wp_region_lit ?_
            refine sq (opk_val hA387 rfl (r_move (hA387.get rfl)) fun a393 hA393 _ => ?_)
            obtain ⟨hS395, ht396⟩ := ht389
            refine sq (opk_val hA393 rfl (r_addI (hA393.get rfl) rfl hS395) fun a394 hA394 _ => ?_)
            refine sq (opk_val hA394 rfl (r_assign (hA394.get rfl)) fun a397 hA397 _ => ?_)
            refine sq_end ?_
            have hA398 := hA397.keep [(1, Sl.v r_100), (3, .int .i64 i_105), (4, .int .i64 (s_270 + 1))] ⟨rfl, rfl, rfl, trivial⟩
            have ht399 := ht396 w379    hC386
            have hA400 := hA398.keep [(1, Sl.v r_100), (3, .int .i64 i_105), (4, .int .i64 (s_270 + 1))] ⟨rfl, rfl, rfl, trivial⟩
            exact then_normal ⟨(s_270 + 1, w379), ⟨hA400, rfl, ht399.1⟩, ht399.2⟩
      · have ht343 := ht337.2 (of_decide_eq_false hc)
        clear hc
        refine wp_exit ?_
        refine then_exit ?_
        refine then_exit ?_
        refine block_hit ?_
        have hA401 := hA341.keep [(1, Sl.v r_100), (3, .int .i64 i_105)] ⟨rfl, rfl, trivial⟩
        refine block_normal ?_
        refine then_normal ?_
        refine wp_region_lit ?_
        refine sq (opk_val hA401 rfl (r_move (hA401.get rfl)) fun a402 hA402 _ => ?_)
        obtain ⟨hS404, ht405⟩ := ht343
        refine sq (opk_val hA402 rfl (r_addI (hA402.get rfl) rfl hS404) fun a403 hA403 _ => ?_)
        refine sq (opk_val hA403 rfl (r_assign (hA403.get rfl)) fun a406 hA406 _ => ?_)
        refine sq_end ?_
        have hA407 := hA406.keep [(1, Sl.v r_100), (3, .int .i64 (i_105 + 1))] ⟨rfl, rfl, trivial⟩
        have hA408 := hA407.keep [(1, Sl.v r_100), (3, .int .i64 (i_105 + 1))] ⟨rfl, rfl, trivial⟩
        exact then_normal ⟨(i_105 + 1, w271), ⟨hA408, rfl, ht405.1⟩, ht405.2⟩
    · have ht267 := ht259.2 (of_decide_eq_false hc)
      clear hc
      refine wp_exit ?_
      refine then_exit ?_
      refine then_exit ?_
      refine block_hit ?_
      have hA409 := hA265.keep [(1, Sl.v r_100)] ⟨rfl, trivial⟩
      refine then_normal ?_
      refine wp_seq ?_
      refine wp_region_lit ?_
      refine sq (opk_val hA409 rfl (r_move (hA409.get rfl)) fun a410 hA410 _ => ?_)
      refine sq (opk_val hA410 rfl (r_len (hA410.get rfl) Tryd.underlying22) fun a411 hA411 _ => ?_)
      refine sq (opk_val hA411 rfl (r_gtr (hA411.get rfl) rfl) fun a412 hA412 _ => ?_)
      refine sq (opk_val hA412 rfl (r_move (hA412.get rfl)) fun a413 hA413 _ => ?_)
      obtain ⟨r_414, hc418, ht417⟩ := ht267
      refine sq (opk_gcall hA413 rfl rfl (g := true) (e := (decide (150 < (r_100.n : Int)))) rfl (fun hg => r_call (args := #[]) Tryd.func11 (by decide) rfl (map_arr ml_nil) rfl) (fun hg => hc418 (of_decide_eq_true (g_t hg))) fun a415 w416 hA415 _ hE419 => ?_)
      have hC420 : Chg [] w106 w416 := hE419
      have ht421 := ht417 w416 hE419
      refine sq (opk_val hA415 rfl (r_pick_and (g := (true && ((decide (150 < (r_100.n : Int))) == true))) (hA415.get rfl) (hA415.get rfl) (fun he => g_mkt rfl he)) fun a422 hA422 _ => ?_)
      refine sq (opk_val hA422 rfl (r_assign (hA422.get rfl)) fun a423 hA423 _ => ?_)
      refine sq_end ?_
      have hA424 := hA423.keep [(0, .bool ((decide (150 < (r_100.n : Int))) && r_414))] ⟨rfl, trivial⟩
      refine then_normal ?_
      refine wp_ret ?_
      exact res_all (vs := [.bool ((decide (150 < (r_100.n : Int))) && r_414)]) rfl hA424 ⟨res_of_tmp hA424 rfl, trivial⟩ ht421

end Go.Proofs.YtnmpenfpajfoaaaDoor
