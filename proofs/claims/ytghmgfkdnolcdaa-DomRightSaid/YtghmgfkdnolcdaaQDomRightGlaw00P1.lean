/-
  PRINTED BY PROGRAM: for each function its condition (vc), and that this suffices (ok).
-/
import Derived.Test.YtghmgfkdnolcdaaQDomRightGT
namespace Go.Proofs.Ytghmgfkdnolcdaa
open Go.RowKit
set_option linter.unusedVariables false

/-- The condition of topiary/topiarylaw00.Grown. -/
def law00_Grown.vc (l_1 : Sl) (R : Value → World → Prop) (w : World) : Prop :=
∀ (w77 : World) (B_2 : Nat) (B_11 : Nat) (B_22 : Nat) (B_60 : Nat), New w B_2 w77 → New w B_11 w77 → New w B_22 w77 → New w B_60 w77 → B_2 ≠ B_11 → B_2 ≠ B_22 → B_2 ≠ B_60 → B_11 ≠ B_22 → B_11 ≠ B_60 → B_22 ≠ B_60 → Chg [] w w77 →
∀ (_ : Box w77 B_11 3 [.int .i64 0]),
CallK Try.prog 54 #[Sl.v l_1, .pointer (some (⟨B_11, 0, none⟩ : Addr))] w77 [B_2, B_22, B_60] (fun v w96 => ∃ (r_94 : Int), v = .int .i64 r_94 ∧
∀ (_ : Box w96 B_22 3 [.int .i64 0]),
∃ (J_334 : Int → Sl → World → Prop) (mu_335 : Int → Sl → World → Nat),
J_334 (r_94.tmod 4) Sl.nil w96 ∧
(∀ (k_331 : Int) (c_332 : Sl) (w333 : World), J_334 k_331 c_332 w333 →
∃ (x_454 : Int), (((0 ≤ k_331)) → w333.cell? (⟨B_22, 0, none⟩ : Addr) = some (.int .i64 x_454)) ∧
(((0 ≤ k_331) ∧ (x_454 < 40)) →
∀ (w462 : World), Chg [] w333 w462 →
CallK Try.prog 55 #[Sl.v l_1, .pointer (some (⟨B_11, 0, none⟩ : Addr)), .pointer (some (⟨B_22, 0, none⟩ : Addr)), .int .i64 1] w462 [B_2, B_60] (fun v w474 => ∃ (r_472_Kind : Int) (r_472_Name : Str) (r_472_Text : Str) (r_472_Attrs : Sl) (r_472_Kids : Sl), v = .agg #[.int .i64 r_472_Kind, .string (Bs r_472_Name), .string (Bs r_472_Text), Sl.v r_472_Attrs, Sl.v r_472_Kids] ∧
∀ (w489 : World) (B_482 : Nat), Ext w474 w489 → w474.heap.size ≤ B_482 → Box w489 B_482 29 [.int .i64 r_472_Kind, .string (Bs r_472_Name), .string (Bs r_472_Text), Sl.v r_472_Attrs, Sl.v r_472_Kids] → 
∀ (w506 : World), Chg [] w489 w506 →
∀ (_ : Box w506 B_482 29 [.int .i64 r_472_Kind, .string (Bs r_472_Name), .string (Bs r_472_Text), Sl.v r_472_Attrs, Sl.v r_472_Kids]),
RunK Try.prog (Builtin.append_ #[27, 27] 27 #[Sl.v c_332, Sl.v (Sl.mk (some ⟨B_482, 0, none⟩) 1 1)]) w506 [B_2, B_60] (fun v w519 => ∃ (r_525 : Sl), v = Sl.v r_525 ∧
(I64 (k_331 - 1)) ∧
∀ (w539 : World), Chg [B_60] w519 w539 →
J_334 (k_331 - 1) r_525 w539 ∧ mu_335 (k_331 - 1) r_525 w539 < mu_335 k_331 c_332 w333))) ∧
(((¬ (0 ≤ k_331)) ∨ (¬ (x_454 < 40))) →
∀ (w558 : World), Chg [B_2] w333 w558 →
R (.agg #[.int .i64 1, .string (Bs ([] : Str)), .string (Bs ([] : Str)), Sl.v Sl.nil, Sl.v c_332]) w558)))
set_option maxHeartbeats 1000000 in
set_option maxRecDepth 10000 in
theorem law00_Grown.ok (l_1 : Sl) {R : Value → World → Prop} {w : World} (ht0 : law00_Grown.vc l_1 R w) : Calls Try.prog 20 #[Sl.v l_1] w (Ret R) := by
  refine enter [Sl.v l_1] Try.func20 rfl Try.ntmps20 rfl ?_
  intro a0 hA0
  unfold law00_Grown.vc at ht0
  refine wp_seq ?_
  refine wp_region_lit ?_
  refine sq (opk_new (fun B => .pointer (some ⟨B, 0, none⟩)) hA0 rfl (r_alloc (cs := [.int .i64 0, .string (Bs ([] : Str)), .string (Bs ([] : Str)), Sl.v Sl.nil, Sl.v Sl.nil]) ti_29 rfl) fun a4 w3 B_2 hE5 hN6 hB7 hA4 _ => ?_)
  have hN8 : New w B_2 w3 := hN6
  have hC9 : Chg [] w w3 := hE5
  refine sq_end ?_
  have hA10 := hA4.keep [(0, Sl.v l_1), (2, .pointer (some (⟨B_2, 0, none⟩ : Addr)))] ⟨rfl, rfl, trivial⟩
  refine then_normal ?_
  refine wp_seq ?_
  refine wp_region_lit ?_
  refine sq (opk_new (fun B => .pointer (some ⟨B, 0, none⟩)) hA10 rfl (r_alloc (cs := [.int .i64 0]) ti_3 rfl) fun a13 w12 B_11 hE14 hN15 hB16 hA13 _ => ?_)
  have hne17 : B_2 ≠ B_11 := Nat.ne_of_lt (Nat.lt_of_lt_of_le hB7.lt hN15.ge)
  have hN18 := New.of hC9 hN15
  have hB19 := hB7.ext hE14
  have hC20 := hC9.more hE14
  have hN21 := hN8.up hE14.size
  refine sq (opk_new (fun B => .pointer (some ⟨B, 0, none⟩)) hA13 rfl (r_alloc (cs := [.int .i64 0]) ti_3 rfl) fun a24 w23 B_22 hE25 hN26 hB27 hA24 _ => ?_)
  have hne28 : B_2 ≠ B_22 := Nat.ne_of_lt (Nat.lt_of_lt_of_le hB19.lt hN26.ge)
  have hne29 : B_11 ≠ B_22 := Nat.ne_of_lt (Nat.lt_of_lt_of_le hB16.lt hN26.ge)
  have hN30 := New.of hC20 hN26
  have hB31 := hB19.ext hE25
  have hB32 := hB16.ext hE25
  have hC33 := hC20.more hE25
  have hN34 := hN21.up hE25.size
  have hN35 := hN18.up hE25.size
  refine sq (opk_store hA24 hB32 (r_store (vs := [.int .i64 0]) (hA24.get rfl) rfl rfl ti_3 hB32 rfl (ones_all [.int .i64 0] rfl)) fun a37 w36 hS38 hB39 hA37 => ?_)
  have hB40 : Box w36 B_11 3 [.int .i64 0] := hB39
  have hB41 := hB31.keep hS38 (by simpa using hne17)
  have hB42 := hB27.keep hS38 (by simpa using hne29.symm)
  have hC43 := hC33.storeNew hN35 hS38
  have hN44 := hN34.up hS38.size
  have hN45 := hN35.up hS38.size
  have hN46 := hN30.up hS38.size
  refine sq (opk_store hA37 hB42 (r_store (vs := [.int .i64 0]) (hA37.get rfl) rfl rfl ti_3 hB42 rfl (ones_all [.int .i64 0] rfl)) fun a48 w47 hS49 hB50 hA48 => ?_)
  have hB51 : Box w47 B_22 3 [.int .i64 0] := hB50
  have hB52 := hB41.keep hS49 (by simpa using hne28)
  have hB53 := hB40.keep hS49 (by simpa using hne29)
  have hC54 := hC43.storeNew hN46 hS49
  have hN55 := hN44.up hS49.size
  have hN56 := hN45.up hS49.size
  have hN57 := hN46.up hS49.size
  refine sq_end ?_
  have hA58 := hA48.keep [(0, Sl.v l_1), (2, .pointer (some (⟨B_2, 0, none⟩ : Addr))), (3, .pointer (some (⟨B_11, 0, none⟩ : Addr))), (4, .pointer (some (⟨B_22, 0, none⟩ : Addr)))] ⟨rfl, rfl, rfl, rfl, trivial⟩
  refine then_normal ?_
  refine wp_seq ?_
  refine wp_region_lit ?_
  refine sq (opk_val hA58 rfl (r_build (vs := #[(0, .int .i64 1)]) (cells := #[.int .i64 1, .string (Bs ([] : Str)), .string (Bs ([] : Str)), Sl.v Sl.nil, Sl.v Sl.nil]) (map_arr2 (ml2_cons rfl (ml2_nil))) ti_29 Try.underlying29 pl_29 (by kernel_rfl)) fun a59 hA59 _ => ?_)
  refine sq (opk_new (fun B => .pointer (some ⟨B, 0, none⟩)) hA59 rfl (r_alloc (cs := [.int .i64 0, .string (Bs ([] : Str)), .string (Bs ([] : Str)), Sl.v Sl.nil, Sl.v Sl.nil]) ti_29 rfl) fun a62 w61 B_60 hE63 hN64 hB65 hA62 _ => ?_)
  have hne66 : B_2 ≠ B_60 := Nat.ne_of_lt (Nat.lt_of_lt_of_le hB52.lt hN64.ge)
  have hne67 : B_11 ≠ B_60 := Nat.ne_of_lt (Nat.lt_of_lt_of_le hB53.lt hN64.ge)
  have hne68 : B_22 ≠ B_60 := Nat.ne_of_lt (Nat.lt_of_lt_of_le hB51.lt hN64.ge)
  have hN69 := New.of hC54 hN64
  have hB70 := hB52.ext hE63
  have hB71 := hB53.ext hE63
  have hB72 := hB51.ext hE63
  have hC73 := hC54.more hE63
  have hN74 := hN55.up hE63.size
  have hN75 := hN56.up hE63.size
  have hN76 := hN57.up hE63.size
  refine sq (opk_store hA62 hB65 (r_store (vs := [.int .i64 1, .string (Bs ([] : Str)), .string (Bs ([] : Str)), Sl.v Sl.nil, Sl.v Sl.nil]) (hA62.get rfl) (hA62.get rfl) rfl ti_29 hB65 rfl (ones_all [.int .i64 1, .string (Bs ([] : Str)), .string (Bs ([] : Str)), Sl.v Sl.nil, Sl.v Sl.nil] rfl)) fun a78 w77 hS79 hB80 hA78 => ?_)
  have hB81 : Box w77 B_60 29 [.int .i64 1, .string (Bs ([] : Str)), .string (Bs ([] : Str)), Sl.v Sl.nil, Sl.v Sl.nil] := hB80
  have hB82 := hB70.keep hS79 (by simpa using hne66)
  have hB83 := hB71.keep hS79 (by simpa using hne67)
  have hB84 := hB72.keep hS79 (by simpa using hne68)
  have hC85 := hC73.storeNew hN69 hS79
  have hN86 := hN74.up hS79.size
  have hN87 := hN75.up hS79.size
  have hN88 := hN76.up hS79.size
  have hN89 := hN69.up hS79.size
  refine sq_end ?_
  have hA90 := hA78.keep [(0, Sl.v l_1), (2, .pointer (some (⟨B_2, 0, none⟩ : Addr))), (3, .pointer (some (⟨B_11, 0, none⟩ : Addr))), (4, .pointer (some (⟨B_22, 0, none⟩ : Addr))), (5, .pointer (some (⟨B_60, 0, none⟩ : Addr)))] ⟨rfl, rfl, rfl, rfl, rfl, trivial⟩
  refine then_normal ?_
  refine wp_seq ?_
  refine wp_seq ?_
  refine wp_region_lit ?_
  refine sq (opk_val hA90 rfl (r_move (hA90.get rfl)) fun a91 hA91 _ => ?_)
  have ht92 := ht0 w77 B_2 B_11 B_22 B_60 hN86 hN87 hN88 hN89 hne17 hne28 hne66 hne29 hne67 hne68 hC85
  have ht93 := ht92 hB83
  refine sq (opk_call hA91 rfl (r_call (args := #[Sl.v l_1, .pointer (some (⟨B_11, 0, none⟩ : Addr))]) Try.func54 (by decide) rfl (map_arr (ml_cons (hA91.get rfl) (ml_cons (hA91.get rfl) ml_nil))) rfl) ht93 fun a95 v101 w96 hA95 _ hn98 hz99 hK100 => ?_)
  obtain ⟨r_94, rfl, ht97⟩ := hK100
  have hB102 := hB82.kept hn98 (.head _)
  have hB103 := hB84.kept hn98 (.tail _ (.head _))
  have hB104 := hB81.kept hn98 (.tail _ (.tail _ (.head _)))
  refine sq (opk_val hA95 rfl (r_rem (hA95.get rfl) rfl (by decide)) fun a105 hA105 _ => ?_)
  refine sq (opk_val hA105 rfl (r_assign (hA105.get rfl)) fun a106 hA106 _ => ?_)
  refine sq_end ?_
  have hA107 := hA106.keep [(0, Sl.v l_1), (2, .pointer (some (⟨B_2, 0, none⟩ : Addr))), (3, .pointer (some (⟨B_11, 0, none⟩ : Addr))), (4, .pointer (some (⟨B_22, 0, none⟩ : Addr))), (5, .pointer (some (⟨B_60, 0, none⟩ : Addr))), (6, .int .i64 (r_94.tmod 4))] ⟨rfl, rfl, rfl, rfl, rfl, rfl, trivial⟩
  refine then_normal ?_
  refine wp_block ?_
  have ht219 := ht97 hB103
  obtain ⟨J_334, mu_335, h0447, ht446⟩ := ht219
  refine wp_loop_st (σ := Int × Sl × World) (fun s a w => Ag 27 a [(0, Sl.v l_1), (2, .pointer (some (⟨B_2, 0, none⟩ : Addr))), (3, .pointer (some (⟨B_11, 0, none⟩ : Addr))), (4, .pointer (some (⟨B_22, 0, none⟩ : Addr))), (5, .pointer (some (⟨B_60, 0, none⟩ : Addr))), (6, .int .i64 s.1)] ∧ Box w B_2 29 [.int .i64 0, .string (Bs ([] : Str)), .string (Bs ([] : Str)), Sl.v Sl.nil, Sl.v Sl.nil] ∧ Box w B_60 29 [.int .i64 1, .string (Bs ([] : Str)), .string (Bs ([] : Str)), Sl.v Sl.nil, Sl.v s.2.1] ∧ w = s.2.2 ∧ J_334 s.1 s.2.1 s.2.2) (fun s => mu_335 s.1 s.2.1 s.2.2) (r_94.tmod 4, Sl.nil, w96) ⟨hA107.keep [(0, Sl.v l_1), (2, .pointer (some (⟨B_2, 0, none⟩ : Addr))), (3, .pointer (some (⟨B_11, 0, none⟩ : Addr))), (4, .pointer (some (⟨B_22, 0, none⟩ : Addr))), (5, .pointer (some (⟨B_60, 0, none⟩ : Addr))), (6, .int .i64 (r_94.tmod 4))] ⟨rfl, rfl, rfl, rfl, rfl, rfl, trivial⟩, hB102, hB104, rfl, h0447⟩ ?_
  rintro ⟨k_331, c_332, w333⟩ a443 w_ ⟨hA443, hB444, hB445, hw_, hJ449⟩
  have hw_ : w333 = w_ := hw_.symm
  subst hw_
  have ht448 := ht446 k_331 c_332 _ hJ449
  refine wp_seq ?_
  refine wp_seq ?_
  refine wp_region_lit ?_
  refine sq (opk_val hA443 rfl (r_move (hA443.get rfl)) fun a450 hA450 _ => ?_)
  refine sq (opk_val hA450 rfl (r_geq (hA450.get rfl) rfl) fun a451 hA451 _ => ?_)
  refine sq (opk_val hA451 rfl (r_move (hA451.get rfl)) fun a452 hA452 _ => ?_)
  obtain ⟨x_454, hx455, ht456⟩ := ht448
  refine sq (opk_gval hA452 rfl rfl (g := true) (e := (decide (0 ≤ k_331))) rfl (fun hg => r_load1 Try.underlying3 rfl (hA452.get rfl) (hx455 (of_decide_eq_true (g_t hg)))) fun a453 hA453 _ => ?_)
  refine sq (opk_gval hA453 rfl rfl (g := true) (e := (decide (0 ≤ k_331))) rfl (fun hg => r_lss (cv_get (hA453.get rfl) hg) rfl) fun a457 hA457 _ => ?_)
  refine sq (opk_val hA457 rfl (r_pick_and (g := (true && ((decide (0 ≤ k_331)) == true))) (hA457.get rfl) (hA457.get rfl) (fun he => g_mkt rfl he)) fun a458 hA458 _ => ?_)
  refine sq_end ?_
  have hA459 := hA458.keep [(0, Sl.v l_1), (2, .pointer (some (⟨B_2, 0, none⟩ : Addr))), (3, .pointer (some (⟨B_11, 0, none⟩ : Addr))), (4, .pointer (some (⟨B_22, 0, none⟩ : Addr))), (5, .pointer (some (⟨B_60, 0, none⟩ : Addr))), (6, .int .i64 k_331), (16, .bool ((decide (0 ≤ k_331)) && (decide (x_454 < 40))))] ⟨rfl, rfl, rfl, rfl, rfl, rfl, rfl, trivial⟩
  refine then_normal ?_
  refine wp_cond_split (hA459.get rfl) (fun hc => ?_) (fun hc => ?_)
  · have ht460 := ht456.1 ⟨(of_decide_eq_true (b_and_t hc).1), (of_decide_eq_true (b_and_t hc).2)⟩
    clear hc
    refine wp_skip ?_
    refine then_normal ?_
    refine wp_seq ?_
    refine wp_block ?_
    refine draw' (by kernel_rfl) fun w462 hE463 => ?_
    have hB464 := hB444.ext hE463
    have hB465 := hB445.ext hE463
    have hC466 : Chg [] w333 w462 := hE463
    have ht467 := ht460 w462    hC466
    refine startF (D := [[], [0], [], [2], [2, 3], [0, 1, 2, 3, 4], [0, 1, 2, 3, 4, 5], [0, 1, 2, 3, 4, 5, 6]]) (Fs := [0, 1, 2]) (Ef := [(0, fun v _ => v = .pointer (some (⟨B_60, 4, none⟩ : Addr))), (1, fun v _ => v = Sl.v c_332), (2, fun v _ => v = Sl.v l_1)]) (by kernel_rfl) ?_
    refine oneF (c := 3) hA459 rfl (by kernel_rfl) (constF ⟨fun _ _ _ h => by first | exact h | (change _ = _ at h; change _ = _; exact h), fun _ _ _ h => by first | exact h | (change _ = _ at h; change _ = _; exact h), fun _ _ _ h => by first | exact h | (change _ = _ at h; change _ = _; exact h), trivial⟩) ⟨?_, ?_, ?_, trivial⟩ ?_
    · intro a hT
      have hAp := hT.ag hA459 [(5, .pointer (some (⟨B_60, 0, none⟩ : Addr)))] ⟨rfl, trivial⟩ (by kernel_rfl)
      exact opk_val hAp rfl (r_fieldAddr (hAp.get rfl) Try.underlying29 rfl ti_27 (by decide)) fun _ _ e => ⟨_, e, rfl, fun _ => Eq.refl _⟩
    · intro a hT
      have hAp := hT.ag hA459 [] trivial (by kernel_rfl)
      have e468 : a.tmps.getD 19 undef = .pointer (some (⟨B_60, 4, none⟩ : Addr)) := hT.vals 0 rfl 19 rfl
      have hAp := hAp.add e468
      exact opk_val hAp rfl (r_load1 Try.underlying27 rfl (hAp.get rfl) ((hB465.ext hT.chg).cell 4 _ rfl)) fun _ _ e => ⟨_, e, rfl, fun _ => Eq.refl _⟩
    · intro a hT
      have hAp := hT.ag hA459 [(0, Sl.v l_1)] ⟨rfl, trivial⟩ (by kernel_rfl)
      exact opk_val hAp rfl (r_move (hAp.get rfl)) fun _ _ e => ⟨_, e, rfl, fun _ => Eq.refl _⟩
    · intro a469 hT
      have hA469 := hT.ag hA459 [(0, Sl.v l_1), (2, .pointer (some (⟨B_2, 0, none⟩ : Addr))), (3, .pointer (some (⟨B_11, 0, none⟩ : Addr))), (4, .pointer (some (⟨B_22, 0, none⟩ : Addr))), (5, .pointer (some (⟨B_60, 0, none⟩ : Addr))), (6, .int .i64 k_331), (16, .bool ((decide (0 ≤ k_331)) && (decide (x_454 < 40))))] ⟨rfl, rfl, rfl, rfl, rfl, rfl, rfl, trivial⟩ (by kernel_rfl)
      have e470 : a469.tmps.getD 21 undef = Sl.v l_1 := hT.vals 2 rfl 21 rfl
      have hA471 := hA469.add e470
      refine (opk_call hA471 rfl (r_call (args := #[Sl.v l_1, .pointer (some (⟨B_11, 0, none⟩ : Addr)), .pointer (some (⟨B_22, 0, none⟩ : Addr)), .int .i64 1]) Try.func55 (by decide) rfl (map_arr (ml_cons (hA471.get rfl) (ml_cons (hA471.get rfl) (ml_cons (hA471.get rfl) (ml_cons rfl ml_nil))))) rfl) ht467 fun a473 v479 w474 hA473 heq555 hn476 hz477 hK478 => ?_)
      refine ⟨_, heq555, ?_⟩
      obtain ⟨r_472_Kind, r_472_Name, r_472_Text, r_472_Attrs, r_472_Kids, rfl, ht475⟩ := hK478
      have hB480 := hB464.kept hn476 (.head _)
      have hB481 := hB465.kept hn476 (.tail _ (.head _))
      refine parF (D := [[], [0], [], [2], [2, 3], [0, 1, 2, 3, 4], [0, 1, 2, 3, 4, 5], [0, 1, 2, 3, 4, 5, 6]]) (S := [4]) (F := []) (KE := [4]) (E := [(4, fun v w' => ∃ B_482 : Nat, w474.heap.size ≤ B_482 ∧ Box w' B_482 29 [.int .i64 r_472_Kind, .string (Bs r_472_Name), .string (Bs r_472_Text), Sl.v r_472_Attrs, Sl.v r_472_Kids] ∧ v = Sl.v (Sl.mk (some ⟨B_482, 0, none⟩) 1 1))]) hA473 rfl (by kernel_rfl) ⟨fun _ _ _ hE ⟨B_482, h0_, h1_, e⟩ => ⟨B_482, h0_, (h1_.ext hE), e⟩, fun _ _ _ _ h => by first | exact h | (change _ = _ at h; change _ = _; exact h), fun _ _ _ _ h => by first | exact h | (change _ = _ at h; change _ = _; exact h), fun _ _ _ _ h => by first | exact h | (change _ = _ at h; change _ = _; exact h), trivial⟩ ⟨?_, ?_, ?_, ?_, trivial⟩ ?_
      · intro a w hT
        have hAp := hT.ag hA473 [(22, .agg #[.int .i64 r_472_Kind, .string (Bs r_472_Name), .string (Bs r_472_Text), Sl.v r_472_Attrs, Sl.v r_472_Kids])] ⟨rfl, trivial⟩ (by kernel_rfl)
        exact opk_new (fun B => .slice (some ⟨B, 0, none⟩) 1 1) hAp rfl (r_buildSlice (vs := #[(0, .agg #[.int .i64 r_472_Kind, .string (Bs r_472_Name), .string (Bs r_472_Text), Sl.v r_472_Attrs, Sl.v r_472_Kids])]) (cs := [.int .i64 r_472_Kind, .string (Bs r_472_Name), .string (Bs r_472_Text), Sl.v r_472_Attrs, Sl.v r_472_Kids]) (map_arr2 (ml2_cons (hAp.get rfl) (ml2_nil))) Try.underlying27 ti_29 rfl rfl (by kernel_rfl)) fun _ w483 B_482 hE484 hN485 hB486 _ e => ⟨_, e, hE484, fun _ => ⟨B_482, Nat.le_trans hT.chg.size hN485.ge, hB486, rfl⟩⟩
      · intro a w hT
        have hAp := hT.ag hA473 [(5, .pointer (some (⟨B_60, 0, none⟩ : Addr)))] ⟨rfl, trivial⟩ (by kernel_rfl)
        exact opk_val hAp rfl (r_fieldAddr (hAp.get rfl) Try.underlying29 rfl ti_27 (by decide)) fun _ _ e => ⟨_, e, Chg.refl _ _, fun _ => Eq.refl _⟩
      · intro a w hT
        have hAp := hT.ag hA473 [] trivial (by kernel_rfl)
        have e487 : a.tmps.getD 19 undef = .pointer (some (⟨B_60, 4, none⟩ : Addr)) := hT.vals 0 rfl 19 rfl
        have hAp := hAp.add e487
        exact opk_val hAp rfl (r_load1 Try.underlying27 rfl (hAp.get rfl) ((hB481.ext hT.chg).cell 4 _ rfl)) fun _ _ e => ⟨_, e, Chg.refl _ _, fun _ => Eq.refl _⟩
      · intro a w hT
        have hAp := hT.ag hA473 [(0, Sl.v l_1)] ⟨rfl, trivial⟩ (by kernel_rfl)
        exact opk_val hAp rfl (r_move (hAp.get rfl)) fun _ _ e => ⟨_, e, Chg.refl _ _, fun _ => Eq.refl _⟩
      · intro a488 w489 hE490 hag491 hv492
        have hA488 := hag491 [(0, Sl.v l_1), (2, .pointer (some (⟨B_2, 0, none⟩ : Addr))), (3, .pointer (some (⟨B_11, 0, none⟩ : Addr))), (4, .pointer (some (⟨B_22, 0, none⟩ : Addr))), (5, .pointer (some (⟨B_60, 0, none⟩ : Addr))), (6, .int .i64 k_331)] ⟨rfl, rfl, rfl, rfl, rfl, rfl, trivial⟩ (by kernel_rfl)
        obtain ⟨B_482, hf496, hf497, e494⟩ := hv492 4 rfl 23 rfl
        have hA495 := hA488.add e494
        have hB498 := hB480.ext hE490
        have hB499 := hB481.ext hE490
        have hC500 : Chg [] w474 w489 := hE490
        have ht501 := ht475 w489 B_482 hE490 hf496 hf497
        have hne502 : B_2 ≠ B_482 := Nat.ne_of_lt (Nat.lt_of_lt_of_le hB480.lt hf496)
        have hne503 : B_60 ≠ B_482 := Nat.ne_of_lt (Nat.lt_of_lt_of_le hB481.lt hf496)
        refine joinF hA495 (by kernel_rfl) ⟨fun _ _ _ _ h => by first | exact h | (change _ = _ at h; change _ = _; exact h), fun _ _ _ _ h => by first | exact h | (change _ = _ at h; change _ = _; exact h), fun _ _ _ _ h => by first | exact h | (change _ = _ at h; change _ = _; exact h), trivial⟩ ⟨?_, ?_, ?_, trivial⟩ ?_
        · intro a w hT
          have hAp := hT.ag hA495 [(5, .pointer (some (⟨B_60, 0, none⟩ : Addr)))] ⟨rfl, trivial⟩ (by kernel_rfl)
          exact opk_val hAp rfl (r_fieldAddr (hAp.get rfl) Try.underlying29 rfl ti_27 (by decide)) fun _ _ e => ⟨_, e, Chg.refl _ _, fun _ => Eq.refl _⟩
        · intro a w hT
          have hAp := hT.ag hA495 [] trivial (by kernel_rfl)
          have e504 : a.tmps.getD 19 undef = .pointer (some (⟨B_60, 4, none⟩ : Addr)) := hT.vals 0 rfl 19 rfl
          have hAp := hAp.add e504
          exact opk_val hAp rfl (r_load1 Try.underlying27 rfl (hAp.get rfl) ((hB499.ext hT.chg).cell 4 _ rfl)) fun _ _ e => ⟨_, e, Chg.refl _ _, fun _ => Eq.refl _⟩
        · intro a w hT
          have hAp := hT.ag hA495 [(0, Sl.v l_1)] ⟨rfl, trivial⟩ (by kernel_rfl)
          exact opk_val hAp rfl (r_move (hAp.get rfl)) fun _ _ e => ⟨_, e, Chg.refl _ _, fun _ => Eq.refl _⟩
        · intro a505 w506 hE507 hag508 hv509
          have hA505 := hag508 [(0, Sl.v l_1), (2, .pointer (some (⟨B_2, 0, none⟩ : Addr))), (3, .pointer (some (⟨B_11, 0, none⟩ : Addr))), (4, .pointer (some (⟨B_22, 0, none⟩ : Addr))), (5, .pointer (some (⟨B_60, 0, none⟩ : Addr))), (6, .int .i64 k_331), (23, Sl.v (Sl.mk (some ⟨B_482, 0, none⟩) 1 1))] ⟨rfl, rfl, rfl, rfl, rfl, rfl, rfl, trivial⟩ (by kernel_rfl)
          have e510 : a505.tmps.getD 20 undef = Sl.v c_332 := hv509 1 rfl 20 rfl
          have hA511 := hA505.add e510
          have hB512 := hB498.ext hE507
          have hB513 := hB499.ext hE507
          have hB514 := hf497.ext hE507
          have hC515 : Chg [] w489 w506 := hE507
          have ht516 := ht501 w506    hC515
          have ht517 := ht516 hB514
          refine one (D := [[], [0], [], [2], [2, 3], [0, 1, 2, 3, 4], [0, 1, 2, 3, 4, 5], [0, 1, 2, 3, 4, 5, 6]]) (i := 5) rfl (by kernel_rfl) (opk_run hA511 rfl (fun _ _ hr => r_append (hA511.get rfl) (hA511.get rfl) hr) ht517 fun a518 v524 w519 hA518 _ hn521 hz522 hK523 => ?_)
          obtain ⟨r_525, rfl, ht520⟩ := hK523
          have hB526 := hB512.kept hn521 (.head _)
          have hB527 := hB513.kept hn521 (.tail _ (.head _))
          refine par (D := [[], [0], [], [2], [2, 3], [0, 1, 2, 3, 4], [0, 1, 2, 3, 4, 5], [0, 1, 2, 3, 4, 5, 6]]) (S := [6]) (F := []) (V := VL [(6, fun v _ => v = .pointer (some (⟨B_60, 4, none⟩ : Addr)))]) hA518 (by kernel_rfl) ⟨fun _ _ _ _ h => by first | exact h | (change _ = _ at h; change _ = _; exact h), trivial⟩ ⟨?_, trivial⟩ ?_
          · intro a w hT
            have hAp := hT.ag hA518 [(5, .pointer (some (⟨B_60, 0, none⟩ : Addr)))] ⟨rfl, trivial⟩ (by kernel_rfl)
            exact opk_val hAp rfl (r_fieldAddr (hAp.get rfl) Try.underlying29 rfl ti_27 (by decide)) fun _ _ e => ⟨_, e, Chg.refl _ _, fun _ => Eq.refl _⟩
          · intro a528 w529 hE530 hag531 hv532
            have hA528 := hag531 [(0, Sl.v l_1), (2, .pointer (some (⟨B_2, 0, none⟩ : Addr))), (3, .pointer (some (⟨B_11, 0, none⟩ : Addr))), (4, .pointer (some (⟨B_22, 0, none⟩ : Addr))), (5, .pointer (some (⟨B_60, 0, none⟩ : Addr))), (6, .int .i64 k_331), (24, Sl.v r_525)] ⟨rfl, rfl, rfl, rfl, rfl, rfl, rfl, trivial⟩ (by kernel_rfl)
            have e534 : a528.tmps.getD 25 undef = .pointer (some (⟨B_60, 4, none⟩ : Addr)) := hv532 6 rfl 25 rfl
            have hA535 := hA528.add e534
            have hB536 := hB526.ext hE530
            have hB537 := hB527.ext hE530
            have hC538 : Chg [] w519 w529 := hE530
            refine one (D := [[], [0], [], [2], [2, 3], [0, 1, 2, 3, 4], [0, 1, 2, 3, 4, 5], [0, 1, 2, 3, 4, 5, 6]]) (i := 7) rfl (by kernel_rfl) (opk_store hA535 hB537 (r_store (vs := [Sl.v r_525]) (hA535.get rfl) (hA535.get rfl) rfl ti_27 hB537 rfl (ones_all [Sl.v r_525] rfl)) fun a540 w539 hS541 hB542 hA540 => ?_)
            have hB543 : Box w539 B_60 29 [.int .i64 1, .string (Bs ([] : Str)), .string (Bs ([] : Str)), Sl.v Sl.nil, Sl.v r_525] := hB542
            have hB544 := hB536.keep hS541 (by simpa using hne66)
            have hC545 := hC538.storeOld hS541
            refine PR_end (by kernel_rfl) ?_
            have hA546 := hA540.keep [(0, Sl.v l_1), (2, .pointer (some (⟨B_2, 0, none⟩ : Addr))), (3, .pointer (some (⟨B_11, 0, none⟩ : Addr))), (4, .pointer (some (⟨B_22, 0, none⟩ : Addr))), (5, .pointer (some (⟨B_60, 0, none⟩ : Addr))), (6, .int .i64 k_331)] ⟨rfl, rfl, rfl, rfl, rfl, rfl, trivial⟩
            refine block_normal ?_
            refine then_normal ?_
            refine wp_region_lit ?_
            refine sq (opk_val hA546 rfl (r_move (hA546.get rfl)) fun a547 hA547 _ => ?_)
            obtain ⟨hS549, ht550⟩ := ht520
            refine sq (opk_val hA547 rfl (r_subI (hA547.get rfl) rfl hS549) fun a548 hA548 _ => ?_)
            refine sq (opk_val hA548 rfl (r_assign (hA548.get rfl)) fun a551 hA551 _ => ?_)
            refine sq_end ?_
            have hA552 := hA551.keep [(0, Sl.v l_1), (2, .pointer (some (⟨B_2, 0, none⟩ : Addr))), (3, .pointer (some (⟨B_11, 0, none⟩ : Addr))), (4, .pointer (some (⟨B_22, 0, none⟩ : Addr))), (5, .pointer (some (⟨B_60, 0, none⟩ : Addr))), (6, .int .i64 (k_331 - 1))] ⟨rfl, rfl, rfl, rfl, rfl, rfl, trivial⟩
            have ht553 := ht550 w539    hC545
            have hA554 := hA552.keep [(0, Sl.v l_1), (2, .pointer (some (⟨B_2, 0, none⟩ : Addr))), (3, .pointer (some (⟨B_11, 0, none⟩ : Addr))), (4, .pointer (some (⟨B_22, 0, none⟩ : Addr))), (5, .pointer (some (⟨B_60, 0, none⟩ : Addr))), (6, .int .i64 (k_331 - 1))] ⟨rfl, rfl, rfl, rfl, rfl, rfl, trivial⟩
            exact then_normal ⟨(k_331 - 1, r_525, w539), ⟨hA554, hB544, hB543, rfl, ht553.1⟩, ht553.2⟩
  · have ht461 := ht456.2 ((b_and_f hc).imp (fun h => (of_decide_eq_false h)) (fun h => (of_decide_eq_false h)))
    clear hc
    refine wp_exit ?_
    refine then_exit ?_
    refine then_exit ?_
    refine block_hit ?_
    have hA556 := hA459.keep [(2, .pointer (some (⟨B_2, 0, none⟩ : Addr))), (5, .pointer (some (⟨B_60, 0, none⟩ : Addr)))] ⟨rfl, rfl, trivial⟩
    refine then_normal ?_
    refine wp_seq ?_
    refine wp_region_lit ?_
    refine sq (opk_val hA556 rfl (r_loadN (cs := [.int .i64 1, .string (Bs ([] : Str)), .string (Bs ([] : Str)), Sl.v Sl.nil, Sl.v c_332]) Try.underlying29 rfl ti_29 (hA556.get rfl) (hB445.part 0 _ rfl)) fun a557 hA557 _ => ?_)
    refine sq (opk_store hA557 hB444 (r_store (vs := [.int .i64 1, .string (Bs ([] : Str)), .string (Bs ([] : Str)), Sl.v Sl.nil, Sl.v c_332]) (hA557.get rfl) (hA557.get rfl) rfl ti_29 hB444 rfl (ones_all [.int .i64 1, .string (Bs ([] : Str)), .string (Bs ([] : Str)), Sl.v Sl.nil, Sl.v c_332] rfl)) fun a559 w558 hS560 hB561 hA559 => ?_)
    have hB562 : Box w558 B_2 29 [.int .i64 1, .string (Bs ([] : Str)), .string (Bs ([] : Str)), Sl.v Sl.nil, Sl.v c_332] := hB561
    have hB563 := hB445.keep hS560 (by simpa using hne66.symm)
    have hC564 : Chg [B_2] w333 w558 := hS560
    refine sq_end ?_
    have hA565 := hA559.keep [(2, .pointer (some (⟨B_2, 0, none⟩ : Addr)))] ⟨rfl, trivial⟩
    refine then_normal ?_
    refine wp_ret ?_
    have ht566 := ht461 w558    hC564
    exact res_all (vs := [.agg #[.int .i64 1, .string (Bs ([] : Str)), .string (Bs ([] : Str)), Sl.v Sl.nil, Sl.v c_332]]) rfl hA565 ⟨res_of_cell hA565 rfl hB562 Try.underlying29 rfl ti_29, trivial⟩ ht566

/-- The condition of topiary/topiarylaw00.Place. -/
def law00_Place.vc (v_1 : Int) (n_2 : Int) (R : Value → World → Prop) (w : World) : Prop :=
(n_2 ≠ 0) ∧
(((v_1.tmod n_2) < 0) →
(I64 ((v_1.tmod n_2) + n_2)) ∧
R (.int .i64 ((v_1.tmod n_2) + n_2)) w) ∧
((¬ ((v_1.tmod n_2) < 0)) →
R (.int .i64 (v_1.tmod n_2)) w)
set_option maxHeartbeats 1000000 in
set_option maxRecDepth 10000 in
theorem law00_Place.ok (v_1 : Int) (n_2 : Int) {R : Value → World → Prop} {w : World} (ht0 : law00_Place.vc v_1 n_2 R w) : Calls Try.prog 28 #[.int .i64 v_1, .int .i64 n_2] w (Ret R) := by
  refine enter [.int .i64 v_1, .int .i64 n_2] Try.func28 rfl Try.ntmps28 rfl ?_
  intro a0 hA0
  unfold law00_Place.vc at ht0
  refine wp_seq ?_
  refine wp_region_lit ?_
  refine sq (opk_val hA0 rfl (r_assign rfl) fun a3 hA3 _ => ?_)
  refine sq_end ?_
  have hA4 := hA3.keep [(0, .int .i64 v_1), (1, .int .i64 n_2)] ⟨rfl, rfl, trivial⟩
  refine then_normal ?_
  refine wp_seq ?_
  refine wp_region_lit ?_
  refine sq (opk_val hA4 rfl (r_move (hA4.get rfl)) fun a5 hA5 _ => ?_)
  refine sq (opk_val hA5 rfl (r_move (hA5.get rfl)) fun a6 hA6 _ => ?_)
  obtain ⟨hS8, ht9⟩ := ht0
  refine sq (opk_val hA6 rfl (r_rem (hA6.get rfl) (hA6.get rfl) hS8) fun a7 hA7 _ => ?_)
  refine sq (opk_val hA7 rfl (r_assign (hA7.get rfl)) fun a10 hA10 _ => ?_)
  refine sq_end ?_
  have hA11 := hA10.keep [(1, .int .i64 n_2), (5, .int .i64 (v_1.tmod n_2))] ⟨rfl, rfl, trivial⟩
  refine then_normal ?_
  refine wp_seq ?_
  refine wp_seq ?_
  refine wp_region_lit ?_
  refine sq (opk_val hA11 rfl (r_move (hA11.get rfl)) fun a12 hA12 _ => ?_)
  refine sq (opk_val hA12 rfl (r_lss (hA12.get rfl) rfl) fun a13 hA13 _ => ?_)
  refine sq_end ?_
  have hA14 := hA13.keep [(1, .int .i64 n_2), (5, .int .i64 (v_1.tmod n_2)), (10, .bool (decide ((v_1.tmod n_2) < 0)))] ⟨rfl, rfl, rfl, trivial⟩
  refine then_normal ?_
  refine wp_cond_split (hA14.get rfl) (fun hc => ?_) (fun hc => ?_)
  · have ht15 := ht9.1 (of_decide_eq_true hc)
    clear hc
    refine wp_region_lit ?_
    refine sq (opk_val hA14 rfl (r_move (hA14.get rfl)) fun a17 hA17 _ => ?_)
    refine sq (opk_val hA17 rfl (r_move (hA17.get rfl)) fun a18 hA18 _ => ?_)
    obtain ⟨hS20, ht21⟩ := ht15
    refine sq (opk_val hA18 rfl (r_addI (hA18.get rfl) (hA18.get rfl) hS20) fun a19 hA19 _ => ?_)
    refine sq (opk_val hA19 rfl (r_assign (hA19.get rfl)) fun a22 hA22 _ => ?_)
    refine sq_end ?_
    have hA23 := hA22.keep [(5, .int .i64 ((v_1.tmod n_2) + n_2))] ⟨rfl, trivial⟩
    refine then_normal ?_
    refine wp_seq ?_
    refine wp_region_lit ?_
    refine sq (opk_val hA23 rfl (r_move (hA23.get rfl)) fun a24 hA24 _ => ?_)
    refine sq (opk_val hA24 rfl (r_assign (hA24.get rfl)) fun a25 hA25 _ => ?_)
    refine sq_end ?_
    have hA26 := hA25.keep [(4, .int .i64 ((v_1.tmod n_2) + n_2))] ⟨rfl, trivial⟩
    refine then_normal ?_
    refine wp_ret ?_
    exact res_all (vs := [.int .i64 ((v_1.tmod n_2) + n_2)]) rfl hA26 ⟨res_of_tmp hA26 rfl, trivial⟩ ht21
  · have ht16 := ht9.2 (of_decide_eq_false hc)
    clear hc
    refine wp_skip ?_
    refine then_normal ?_
    refine wp_seq ?_
    refine wp_region_lit ?_
    refine sq (opk_val hA14 rfl (r_move (hA14.get rfl)) fun a27 hA27 _ => ?_)
    refine sq (opk_val hA27 rfl (r_assign (hA27.get rfl)) fun a28 hA28 _ => ?_)
    refine sq_end ?_
    have hA29 := hA28.keep [(4, .int .i64 (v_1.tmod n_2))] ⟨rfl, trivial⟩
    refine then_normal ?_
    refine wp_ret ?_
    exact res_all (vs := [.int .i64 (v_1.tmod n_2)]) rfl hA29 ⟨res_of_tmp hA29 rfl, trivial⟩ ht16

/-- The condition of topiary/topiarylaw00.next. -/
def law00_next.vc (l_1 : Sl) (at_2 : Addr) (R : Value → World → Prop) (w : World) : Prop :=
(((l_1.n : Int) = 0) →
R (.int .i64 0) w) ∧
((¬ ((l_1.n : Int) = 0)) →
∃ (x_16 : Int), (w.cell? at_2 = some (.int .i64 x_16)) ∧
(I64 (x_16 + 1)) ∧
∃ (B_27 o_28 : Nat) (T_29 : TypeId) (cs_30 : List Value), at_2 = ⟨B_27, o_28, none⟩ ∧ Box w B_27 T_29 cs_30 ∧ o_28 + 1 ≤ cs_30.length ∧ (∀ b ∈ [], b ≠ B_27) ∧
(∀ w23 : World, Chg [B_27] w w23 → Box w23 B_27 T_29 (putAt cs_30 o_28 [.int .i64 (x_16 + 1)]) →
∀ (w38 : World), Chg [] w23 w38 →
∃ (x_44 : Int), (w38.cell? at_2 = some (.int .i64 x_44)) ∧
(I64 (x_44 * 5)) ∧
∃ (x_52 : Int), (w38.cell? at_2 = some (.int .i64 x_52)) ∧
((l_1.n : Int) ≠ 0 ∧ I64 (x_52.tdiv (l_1.n : Int))) ∧
(I64 ((x_44 * 5) + (x_52.tdiv (l_1.n : Int)))) ∧
∃ (r_67 : Int), (∀ w' : World, Ext w38 w' → Calls Try.prog 28 #[.int .i64 ((x_44 * 5) + (x_52.tdiv (l_1.n : Int))), .int .i64 (l_1.n : Int)] w' (Ret fun v w'' => Ext w' w'' ∧ v = .int .i64 r_67)) ∧
∃ p_72 : Addr, (((0 : Int) ≤ r_67 ∧ r_67 < (l_1.n : Int)) ∧ l_1.a = some p_72) ∧
∃ (x_76 : Int), (w38.cell? (p_72.add (r_67.toNat * 1)) = some (.int .i64 x_76)) ∧
∀ (w82 : World), Chg [] w38 w82 →
R (.int .i64 (bits .and .i64 x_76 1099511627775)) w82))
set_option maxHeartbeats 1000000 in
set_option maxRecDepth 10000 in
theorem law00_next.ok (l_1 : Sl) (at_2 : Addr) {R : Value → World → Prop} {w : World} (ht0 : law00_next.vc l_1 at_2 R w) : Calls Try.prog 54 #[Sl.v l_1, .pointer (some at_2)] w (Ret R) := by
  refine enter [Sl.v l_1, .pointer (some at_2)] Try.func54 rfl Try.ntmps54 rfl ?_
  intro a0 hA0
  unfold law00_next.vc at ht0
  refine wp_seq ?_
  refine wp_region_lit ?_
  refine sq (opk_val hA0 rfl (r_assign rfl) fun a3 hA3 _ => ?_)
  refine sq_end ?_
  have hA4 := hA3.keep [(0, Sl.v l_1), (1, .pointer (some at_2))] ⟨rfl, rfl, trivial⟩
  refine then_normal ?_
  refine wp_seq ?_
  refine wp_seq ?_
  refine wp_region_lit ?_
  refine sq (opk_val hA4 rfl (r_move (hA4.get rfl)) fun a5 hA5 _ => ?_)
  refine sq (opk_val hA5 rfl (r_len (hA5.get rfl) Try.underlying36) fun a6 hA6 _ => ?_)
  refine sq (opk_val hA6 rfl (r_eql (hA6.get rfl) rfl) fun a7 hA7 _ => ?_)
  refine sq_end ?_
  have hA8 := hA7.keep [(0, Sl.v l_1), (1, .pointer (some at_2)), (7, .bool (decide ((l_1.n : Int) = 0)))] ⟨rfl, rfl, rfl, trivial⟩
  refine then_normal ?_
  refine wp_cond_split (hA8.get rfl) (fun hc => ?_) (fun hc => ?_)
  · have ht9 := ht0.1 (of_decide_eq_true hc)
    clear hc
    refine wp_seq ?_
    refine wp_region_lit ?_
    refine sq (opk_val hA8 rfl (r_assign rfl) fun a11 hA11 _ => ?_)
    refine sq_end ?_
    have hA12 := hA11.keep [(4, .int .i64 0)] ⟨rfl, trivial⟩
    refine then_normal ?_
    refine wp_ret ?_
    refine then_ret ?_
    exact res_all (vs := [.int .i64 0]) rfl hA12 ⟨res_of_tmp hA12 rfl, trivial⟩ ht9
  · have ht10 := ht0.2 (of_decide_eq_false hc)
    clear hc
    refine wp_skip ?_
    refine then_normal ?_
    refine wp_seq ?_
    refine wp_region_lit ?_
    refine sq (opk_val hA8 rfl (r_move (hA8.get rfl)) fun a13 hA13 _ => ?_)
    refine sq (opk_val hA13 rfl (r_nilCheck (hA13.get rfl)) fun a14 hA14 _ => ?_)
    obtain ⟨x_16, hx17, ht18⟩ := ht10
    refine sq (opk_val hA14 rfl (r_load1 Try.underlying3 rfl (hA14.get rfl) hx17) fun a15 hA15 _ => ?_)
    obtain ⟨hS20, ht21⟩ := ht18
    refine sq (opk_val hA15 rfl (r_addI (hA15.get rfl) rfl hS20) fun a19 hA19 _ => ?_)
    refine sq (opk_val hA19 rfl (r_nilCheck (hA19.get rfl)) fun a22 hA22 _ => ?_)
    obtain ⟨B_27, o_28, T_29, cs_30, he31, hb32, hl33, hx34, ht35⟩ := ht21
    refine sq (opk_store hA22 hb32 (r_store (vs := [.int .i64 (x_16 + 1)]) (((hA22.get rfl)).trans (congrArg (fun a => Value.pointer (some a)) he31)) (hA22.get rfl) rfl ti_3 hb32 (Nat.ble_eq_true_of_le hl33) (ones_all [.int .i64 (x_16 + 1)] rfl)) fun a24 w23 hS25 hB26 hA24 => ?_)
    have ht36 := ht35 w23 hS25 hB26
    refine sq_end ?_
    have hA37 := hA24.keep [(0, Sl.v l_1), (1, .pointer (some at_2))] ⟨rfl, rfl, trivial⟩
    refine then_normal ?_
    refine wp_seq ?_
    refine draw' (by kernel_rfl) fun w38 hE39 => ?_
    have hC40 : Chg [] w23 w38 := hE39
    have ht41 := ht36 w38    hC40
    obtain ⟨x_44, hx45, ht46⟩ := ht41
    obtain ⟨hS48, ht49⟩ := ht46
    obtain ⟨x_52, hx53, ht54⟩ := ht49
    obtain ⟨hS58, ht59⟩ := ht54
    obtain ⟨hS62, ht63⟩ := ht59
    obtain ⟨r_67, hc68, ht69⟩ := ht63
    obtain ⟨p_72, hp73, ht74⟩ := ht69
    obtain ⟨x_76, hx77, ht78⟩ := ht74
    refine par (D := [[], [], [1], [1, 2], [1, 2, 3], [], [5], [5, 6], [], [8], [5, 6, 7, 8, 9], [1, 2, 3, 4, 5, 6, 7, 8, 9, 10], [], [12], [1, 2, 3, 4, 5, 6, 7, 8, 9, 10, 11, 12, 13], [0, 1, 2, 3, 4, 5, 6, 7, 8, 9, 10, 11, 12, 13, 14], [0, 1, 2, 3, 4, 5, 6, 7, 8, 9, 10, 11, 12, 13, 14, 15], [0, 1, 2, 3, 4, 5, 6, 7, 8, 9, 10, 11, 12, 13, 14, 15, 16], [0, 1, 2, 3, 4, 5, 6, 7, 8, 9, 10, 11, 12, 13, 14, 15, 16, 17]]) (S := [0, 1, 2, 3, 4, 5, 6, 7, 8, 9, 10, 11, 12, 13, 14, 15, 16, 17, 18]) (F := []) (V := VL [(0, fun v _ => v = Sl.v l_1), (1, fun v _ => v = .pointer (some at_2)), (2, fun v _ => v = .pointer (some at_2)), (3, fun v _ => v = .int .i64 x_44), (4, fun v _ => v = .int .i64 (x_44 * 5)), (5, fun v _ => v = .pointer (some at_2)), (6, fun v _ => v = .pointer (some at_2)), (7, fun v _ => v = .int .i64 x_52), (8, fun v _ => v = Sl.v l_1), (9, fun v _ => v = .int .i64 (l_1.n : Int)), (10, fun v _ => v = .int .i64 (x_52.tdiv (l_1.n : Int))), (11, fun v _ => v = .int .i64 ((x_44 * 5) + (x_52.tdiv (l_1.n : Int)))), (12, fun v _ => v = Sl.v l_1), (13, fun v _ => v = .int .i64 (l_1.n : Int)), (14, fun v _ => v = .int .i64 r_67), (15, fun v _ => v = .pointer (some (p_72.add (r_67.toNat * 1)))), (16, fun v _ => v = .int .i64 x_76), (17, fun v _ => v = .int .i64 (bits .and .i64 x_76 1099511627775)), (18, fun v _ => v = .int .i64 (bits .and .i64 x_76 1099511627775))]) hA37 (by kernel_rfl) ⟨fun _ _ _ _ h => by first | exact h | (change _ = _ at h; change _ = _; exact h), fun _ _ _ _ h => by first | exact h | (change _ = _ at h; change _ = _; exact h), fun _ _ _ _ h => by first | exact h | (change _ = _ at h; change _ = _; exact h), fun _ _ _ _ h => by first | exact h | (change _ = _ at h; change _ = _; exact h), fun _ _ _ _ h => by first | exact h | (change _ = _ at h; change _ = _; exact h), fun _ _ _ _ h => by first | exact h | (change _ = _ at h; change _ = _; exact h), fun _ _ _ _ h => by first | exact h | (change _ = _ at h; change _ = _; exact h), fun _ _ _ _ h => by first | exact h | (change _ = _ at h; change _ = _; exact h), fun _ _ _ _ h => by first | exact h | (change _ = _ at h; change _ = _; exact h), fun _ _ _ _ h => by first | exact h | (change _ = _ at h; change _ = _; exact h), fun _ _ _ _ h => by first | exact h | (change _ = _ at h; change _ = _; exact h), fun _ _ _ _ h => by first | exact h | (change _ = _ at h; change _ = _; exact h), fun _ _ _ _ h => by first | exact h | (change _ = _ at h; change _ = _; exact h), fun _ _ _ _ h => by first | exact h | (change _ = _ at h; change _ = _; exact h), fun _ _ _ _ h => by first | exact h | (change _ = _ at h; change _ = _; exact h), fun _ _ _ _ h => by first | exact h | (change _ = _ at h; change _ = _; exact h), fun _ _ _ _ h => by first | exact h | (change _ = _ at h; change _ = _; exact h), fun _ _ _ _ h => by first | exact h | (change _ = _ at h; change _ = _; exact h), fun _ _ _ _ h => by first | exact h | (change _ = _ at h; change _ = _; exact h), trivial⟩ ⟨?_, ?_, ?_, ?_, ?_, ?_, ?_, ?_, ?_, ?_, ?_, ?_, ?_, ?_, ?_, ?_, ?_, ?_, ?_, trivial⟩ ?_
    · intro a w hT
      have hAp := hT.ag hA37 [(0, Sl.v l_1)] ⟨rfl, trivial⟩ (by kernel_rfl)
      exact opk_val hAp rfl (r_move (hAp.get rfl)) fun _ _ e => ⟨_, e, Chg.refl _ _, fun _ => Eq.refl _⟩
    · intro a w hT
      have hAp := hT.ag hA37 [(1, .pointer (some at_2))] ⟨rfl, trivial⟩ (by kernel_rfl)
      exact opk_val hAp rfl (r_move (hAp.get rfl)) fun _ _ e => ⟨_, e, Chg.refl _ _, fun _ => Eq.refl _⟩
    · intro a w hT
      have hAp := hT.ag hA37 [] trivial (by kernel_rfl)
      have e42 : a.tmps.getD 14 undef = .pointer (some at_2) := hT.vals 1 rfl 14 rfl
      have hAp := hAp.add e42
      exact opk_val hAp rfl (r_nilCheck (hAp.get rfl)) fun _ _ e => ⟨_, e, Chg.refl _ _, fun _ => Eq.refl _⟩
    · intro a w hT
      have hAp := hT.ag hA37 [] trivial (by kernel_rfl)
      have e43 : a.tmps.getD 15 undef = .pointer (some at_2) := hT.vals 2 rfl 15 rfl
      have hAp := hAp.add e43
      exact opk_val hAp rfl (r_load1 Try.underlying3 rfl (hAp.get rfl) (Ext.cell hT.chg hx45)) fun _ _ e => ⟨_, e, Chg.refl _ _, fun _ => Eq.refl _⟩
    · intro a w hT
      have hAp := hT.ag hA37 [] trivial (by kernel_rfl)
      have e47 : a.tmps.getD 16 undef = .int .i64 x_44 := hT.vals 3 rfl 16 rfl
      have hAp := hAp.add e47
      exact opk_val hAp rfl (r_mulI (hAp.get rfl) rfl hS48) fun _ _ e => ⟨_, e, Chg.refl _ _, fun _ => Eq.refl _⟩
    · intro a w hT
      have hAp := hT.ag hA37 [(1, .pointer (some at_2))] ⟨rfl, trivial⟩ (by kernel_rfl)
      exact opk_val hAp rfl (r_move (hAp.get rfl)) fun _ _ e => ⟨_, e, Chg.refl _ _, fun _ => Eq.refl _⟩
    · intro a w hT
      have hAp := hT.ag hA37 [] trivial (by kernel_rfl)
      have e50 : a.tmps.getD 18 undef = .pointer (some at_2) := hT.vals 5 rfl 18 rfl
      have hAp := hAp.add e50
      exact opk_val hAp rfl (r_nilCheck (hAp.get rfl)) fun _ _ e => ⟨_, e, Chg.refl _ _, fun _ => Eq.refl _⟩
    · intro a w hT
      have hAp := hT.ag hA37 [] trivial (by kernel_rfl)
      have e51 : a.tmps.getD 19 undef = .pointer (some at_2) := hT.vals 6 rfl 19 rfl
      have hAp := hAp.add e51
      exact opk_val hAp rfl (r_load1 Try.underlying3 rfl (hAp.get rfl) (Ext.cell hT.chg hx53)) fun _ _ e => ⟨_, e, Chg.refl _ _, fun _ => Eq.refl _⟩
    · intro a w hT
      have hAp := hT.ag hA37 [(0, Sl.v l_1)] ⟨rfl, trivial⟩ (by kernel_rfl)
      exact opk_val hAp rfl (r_move (hAp.get rfl)) fun _ _ e => ⟨_, e, Chg.refl _ _, fun _ => Eq.refl _⟩
    · intro a w hT
      have hAp := hT.ag hA37 [] trivial (by kernel_rfl)
      have e55 : a.tmps.getD 21 undef = Sl.v l_1 := hT.vals 8 rfl 21 rfl
      have hAp := hAp.add e55
      exact opk_val hAp rfl (r_len (hAp.get rfl) Try.underlying36) fun _ _ e => ⟨_, e, Chg.refl _ _, fun _ => Eq.refl _⟩
    · intro a w hT
      have hAp := hT.ag hA37 [] trivial (by kernel_rfl)
      have e56 : a.tmps.getD 20 undef = .int .i64 x_52 := hT.vals 7 rfl 20 rfl
      have hAp := hAp.add e56
      have e57 : a.tmps.getD 22 undef = .int .i64 (l_1.n : Int) := hT.vals 9 rfl 22 rfl
      have hAp := hAp.add e57
      exact opk_val hAp rfl (r_quoI (hAp.get rfl) (hAp.get rfl) hS58.1 hS58.2) fun _ _ e => ⟨_, e, Chg.refl _ _, fun _ => Eq.refl _⟩
    · intro a w hT
      have hAp := hT.ag hA37 [] trivial (by kernel_rfl)
      have e60 : a.tmps.getD 17 undef = .int .i64 (x_44 * 5) := hT.vals 4 rfl 17 rfl
      have hAp := hAp.add e60
      have e61 : a.tmps.getD 23 undef = .int .i64 (x_52.tdiv (l_1.n : Int)) := hT.vals 10 rfl 23 rfl
      have hAp := hAp.add e61
      exact opk_val hAp rfl (r_addI (hAp.get rfl) (hAp.get rfl) hS62) fun _ _ e => ⟨_, e, Chg.refl _ _, fun _ => Eq.refl _⟩
    · intro a w hT
      have hAp := hT.ag hA37 [(0, Sl.v l_1)] ⟨rfl, trivial⟩ (by kernel_rfl)
      exact opk_val hAp rfl (r_move (hAp.get rfl)) fun _ _ e => ⟨_, e, Chg.refl _ _, fun _ => Eq.refl _⟩
    · intro a w hT
      have hAp := hT.ag hA37 [] trivial (by kernel_rfl)
      have e64 : a.tmps.getD 25 undef = Sl.v l_1 := hT.vals 12 rfl 25 rfl
      have hAp := hAp.add e64
      exact opk_val hAp rfl (r_len (hAp.get rfl) Try.underlying36) fun _ _ e => ⟨_, e, Chg.refl _ _, fun _ => Eq.refl _⟩
    · intro a w hT
      have hAp := hT.ag hA37 [] trivial (by kernel_rfl)
      have e65 : a.tmps.getD 24 undef = .int .i64 ((x_44 * 5) + (x_52.tdiv (l_1.n : Int))) := hT.vals 11 rfl 24 rfl
      have hAp := hAp.add e65
      have e66 : a.tmps.getD 26 undef = .int .i64 (l_1.n : Int) := hT.vals 13 rfl 26 rfl
      have hAp := hAp.add e66
      exact opk_callX hAp rfl (r_call (args := #[.int .i64 ((x_44 * 5) + (x_52.tdiv (l_1.n : Int))), .int .i64 (l_1.n : Int)]) Try.func28 (by decide) rfl (map_arr (ml_cons (hAp.get rfl) (ml_cons (hAp.get rfl) ml_nil))) rfl) (hc68 w hT.chg) fun _ _ _ _ e hR => ⟨_, e, hR.1, fun _ => hR.2⟩
    · intro a w hT
      have hAp := hT.ag hA37 [] trivial (by kernel_rfl)
      have e70 : a.tmps.getD 13 undef = Sl.v l_1 := hT.vals 0 rfl 13 rfl
      have hAp := hAp.add e70
      have e71 : a.tmps.getD 27 undef = .int .i64 r_67 := hT.vals 14 rfl 27 rfl
      have hAp := hAp.add e71
      exact opk_val hAp rfl (r_indexAddr (hAp.get rfl) (hAp.get rfl) Try.underlying36 ti_3 hp73.1 hp73.2) fun _ _ e => ⟨_, e, Chg.refl _ _, fun _ => Eq.refl _⟩
    · intro a w hT
      have hAp := hT.ag hA37 [] trivial (by kernel_rfl)
      have e75 : a.tmps.getD 28 undef = .pointer (some (p_72.add (r_67.toNat * 1))) := hT.vals 15 rfl 28 rfl
      have hAp := hAp.add e75
      exact opk_val hAp rfl (r_load1 Try.underlying3 rfl (hAp.get rfl) (Ext.cell hT.chg hx77)) fun _ _ e => ⟨_, e, Chg.refl _ _, fun _ => Eq.refl _⟩
    · intro a w hT
      have hAp := hT.ag hA37 [] trivial (by kernel_rfl)
      have e79 : a.tmps.getD 29 undef = .int .i64 x_76 := hT.vals 16 rfl 29 rfl
      have hAp := hAp.add e79
      exact opk_val hAp rfl (r_and (hAp.get rfl) rfl) fun _ _ e => ⟨_, e, Chg.refl _ _, fun _ => Eq.refl _⟩
    · intro a w hT
      have hAp := hT.ag hA37 [] trivial (by kernel_rfl)
      have e80 : a.tmps.getD 30 undef = .int .i64 (bits .and .i64 x_76 1099511627775) := hT.vals 17 rfl 30 rfl
      have hAp := hAp.add e80
      exact opk_val hAp rfl (r_assign (hAp.get rfl)) fun _ _ e => ⟨_, e, Chg.refl _ _, fun _ => Eq.refl _⟩
    · intro a81 w82 hE83 hag84 hv85
      have hA81 := hag84 [] trivial (by kernel_rfl)
      have e87 : a81.tmps.getD 4 undef = .int .i64 (bits .and .i64 x_76 1099511627775) := hv85 18 rfl 4 rfl
      have hA88 := hA81.add e87
      have hC89 : Chg [] w38 w82 := hE83
      refine PR_end (by kernel_rfl) ?_
      have hA90 := hA88.keep [(4, .int .i64 (bits .and .i64 x_76 1099511627775))] ⟨rfl, trivial⟩
      refine then_normal ?_
      refine wp_ret ?_
      have ht91 := ht78 w82    hC89
      exact res_all (vs := [.int .i64 (bits .and .i64 x_76 1099511627775)]) rfl hA90 ⟨res_of_tmp hA90 rfl, trivial⟩ ht91

end Go.Proofs.Ytghmgfkdnolcdaa
