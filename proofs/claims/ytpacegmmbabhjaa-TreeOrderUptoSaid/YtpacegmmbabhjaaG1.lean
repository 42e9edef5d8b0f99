/-
  PRINTED BY PROGRAM: for each function its condition (vc), and that this suffices (ok).
-/
import Derived.Test.YtpacegmmbabhjaaGT
namespace Go.Proofs.Ytpacegmmbabhjaa
open Go.RowKit
set_option linter.unusedVariables false

/-- The condition of topiary/topiarylaw05.TreeSpoilt. -/
def law05_TreeSpoilt.vc (l_1 : Sl) (at_2 : Int) (how_3 : Int) (R : Value → World → Prop) (w : World) : Prop :=
CallK Try.prog 11 #[Sl.v l_1] w [] (fun v w9 => ∃ (r_7_Kind : Int) (r_7_Name : Str) (r_7_Text : Str) (r_7_Attrs : Sl) (r_7_Kids : Sl), v = .agg #[.int .i64 r_7_Kind, .string (Bs r_7_Name), .string (Bs r_7_Text), Sl.v r_7_Attrs, Sl.v r_7_Kids] ∧
∀ (w23 : World) (B_15 : Nat), New w9 B_15 w23 → Chg [] w9 w23 →
CallK Try.prog 13 #[.agg #[.int .i64 r_7_Kind, .string (Bs r_7_Name), .string (Bs r_7_Text), Sl.v r_7_Attrs, Sl.v r_7_Kids]] w23 [B_15] (fun v w35 => ∃ (r_33_Kind : Int) (r_33_Name : Str) (r_33_Text : Str) (r_33_Attrs : Sl) (r_33_Kids : Sl), v = .agg #[.int .i64 r_33_Kind, .string (Bs r_33_Name), .string (Bs r_33_Text), Sl.v r_33_Attrs, Sl.v r_33_Kids] ∧
CallK Try.prog 12 #[.agg #[.int .i64 r_33_Kind, .string (Bs r_33_Name), .string (Bs r_33_Text), Sl.v r_33_Attrs, Sl.v r_33_Kids]] w35 [B_15] (fun v w44 => ∃ (r_42 : Bool), v = .bool r_42 ∧
((r_42 = false) →
R (.bool false) w44) ∧
((r_42 = true) →
∀ (w57 : World), Chg [] w44 w57 →
∃ (r_67 : Int), (∀ w' : World, Ext w57 w' → Calls Try.prog 14 #[.int .i64 at_2, .int .i64 (r_7_Kids.n : Int)] w' (Ret fun v w'' => Ext w' w'' ∧ v = .int .i64 r_67)) ∧
∃ p_72 : Addr, (((0 : Int) ≤ r_67 ∧ r_67 < (r_7_Kids.n : Int)) ∧ r_7_Kids.a = some p_72) ∧
∀ (w77 : World), Chg [] w57 w77 →
CallK Try.prog 14 #[.int .i64 how_3, .int .i64 6] w77 [B_15] (fun v w90 => ∃ (r_88 : Int), v = .int .i64 r_88 ∧
∃ J_265 : World → Prop,
(((r_88 = 0) →
∃ (B_280 o_281 : Nat) (T_282 : TypeId) (cs_283 : List Value), ((p_72.add (r_67.toNat * 5)).add 0) = ⟨B_280, o_281, none⟩ ∧ Box w90 B_280 T_282 cs_283 ∧ o_281 + 1 ≤ cs_283.length ∧ (∀ b ∈ [B_15], b ≠ B_280) ∧
(∀ w276 : World, Chg [B_280] w90 w276 → Box w276 B_280 T_282 (putAt cs_283 o_281 [.int .i64 1]) →
J_265 w276)) ∧
((¬ (r_88 = 0)) →
((r_88 = 1) →
∃ (B_305 o_306 : Nat) (T_307 : TypeId) (cs_308 : List Value), ((p_72.add (r_67.toNat * 5)).add 0) = ⟨B_305, o_306, none⟩ ∧ Box w90 B_305 T_307 cs_308 ∧ o_306 + 1 ≤ cs_308.length ∧ (∀ b ∈ [B_15], b ≠ B_305) ∧
(∀ w301 : World, Chg [B_305] w90 w301 → Box w301 B_305 T_307 (putAt cs_308 o_306 [.int .i64 0]) →
J_265 w301)) ∧
((¬ (r_88 = 1)) →
((r_88 = 2) →
∃ (B_330 o_331 : Nat) (T_332 : TypeId) (cs_333 : List Value), (p_72.add (r_67.toNat * 5)) = ⟨B_330, o_331, none⟩ ∧ Box w90 B_330 T_332 cs_333 ∧ o_331 + 5 ≤ cs_333.length ∧ (∀ b ∈ [B_15], b ≠ B_330) ∧
(∀ w326 : World, Chg [B_330] w90 w326 → Box w326 B_330 T_332 (putAt cs_333 o_331 [.int .i64 3, .string (Bs ([] : Str)), .string (Bs ([] : Str)), Sl.v Sl.nil, Sl.v Sl.nil]) →
J_265 w326)) ∧
((¬ (r_88 = 2)) →
((r_88 = 3) →
∃ (B_355 o_356 : Nat) (T_357 : TypeId) (cs_358 : List Value), (p_72.add (r_67.toNat * 5)) = ⟨B_355, o_356, none⟩ ∧ Box w90 B_355 T_357 cs_358 ∧ o_356 + 5 ≤ cs_358.length ∧ (∀ b ∈ [B_15], b ≠ B_355) ∧
(∀ w351 : World, Chg [B_355] w90 w351 → Box w351 B_355 T_357 (putAt cs_358 o_356 [.int .i64 2, .string (Bs ([65] : Str)), .string (Bs ([] : Str)), Sl.v Sl.nil, Sl.v Sl.nil]) →
J_265 w351)) ∧
((¬ (r_88 = 3)) →
((r_88 = 4) →
∀ (w377 : World) (B_376 : Nat), New w90 B_376 w377 → Chg [] w90 w377 →
∀ (_ : Box w377 B_376 33 [.string (Bs ([121] : Str)), .string (Bs ([] : Str)), .string (Bs ([120] : Str)), .string (Bs ([] : Str))]),
∃ (B_394 o_395 : Nat) (T_396 : TypeId) (cs_397 : List Value), (p_72.add (r_67.toNat * 5)) = ⟨B_394, o_395, none⟩ ∧ Box w377 B_394 T_396 cs_397 ∧ o_395 + 5 ≤ cs_397.length ∧ (∀ b ∈ [B_15], b ≠ B_394) ∧
(∀ w388 : World, Chg [B_394] w377 w388 → Box w388 B_394 T_396 (putAt cs_397 o_395 [.int .i64 2, .string (Bs ([97] : Str)), .string (Bs ([] : Str)), Sl.v (Sl.mk (some ⟨B_376, 0, none⟩) 2 2), Sl.v Sl.nil]) →
J_265 w388)) ∧
((¬ (r_88 = 4)) →
∀ (w410 : World) (B_409 : Nat), New w90 B_409 w410 → Chg [] w90 w410 →
∀ (_ : Box w410 B_409 26 [.int .i64 3, .string (Bs ([] : Str)), .string (Bs ([97] : Str)), Sl.v Sl.nil, Sl.v Sl.nil]),
∃ (B_427 o_428 : Nat) (T_429 : TypeId) (cs_430 : List Value), (p_72.add (r_67.toNat * 5)) = ⟨B_427, o_428, none⟩ ∧ Box w410 B_427 T_429 cs_430 ∧ o_428 + 5 ≤ cs_430.length ∧ (∀ b ∈ [B_15], b ≠ B_427) ∧
(∀ w421 : World, Chg [B_427] w410 w421 → Box w421 B_427 T_429 (putAt cs_430 o_428 [.int .i64 4, .string (Bs ([] : Str)), .string (Bs ([] : Str)), Sl.v Sl.nil, Sl.v (Sl.mk (some ⟨B_409, 0, none⟩) 1 1)]) →
J_265 w421))))))) ∧
(∀ (w264 : World), J_265 w264 →
CallK Try.prog 12 #[.agg #[.int .i64 r_7_Kind, .string (Bs r_7_Name), .string (Bs r_7_Text), Sl.v r_7_Attrs, Sl.v r_7_Kids]] w264 [B_15] (fun v w446 => ∃ (r_444 : Bool), v = .bool r_444 ∧
∃ (r_455 : Bool), (((r_444 = false)) → Calls Try.prog 15 #[] w446 (Ret fun v w' => Ext w446 w' ∧ v = .bool r_455)) ∧
(∀ w457 : World, Ext w446 w457 →
R (.bool ((!r_444) && r_455)) w457))))))))
set_option maxHeartbeats 1000000 in
set_option maxRecDepth 10000 in
theorem law05_TreeSpoilt.ok (l_1 : Sl) (at_2 : Int) (how_3 : Int) {R : Value → World → Prop} {w : World} (ht0 : law05_TreeSpoilt.vc l_1 at_2 how_3 R w) : Calls Try.prog 3 #[Sl.v l_1, .int .i64 at_2, .int .i64 how_3] w (Ret R) := by
  refine enter [Sl.v l_1, .int .i64 at_2, .int .i64 how_3] Try.func3 rfl Try.ntmps3 rfl ?_
  intro a0 hA0
  unfold law05_TreeSpoilt.vc at ht0
  refine wp_seq ?_
  refine wp_region_lit ?_
  refine sq (opk_val hA0 rfl (r_assign rfl) fun a4 hA4 _ => ?_)
  refine sq_end ?_
  have hA5 := hA4.keep [(0, Sl.v l_1), (1, .int .i64 at_2), (2, .int .i64 how_3)] ⟨rfl, rfl, rfl, trivial⟩
  refine then_normal ?_
  refine wp_seq ?_
  refine wp_region_lit ?_
  refine sq (opk_val hA5 rfl (r_move (hA5.get rfl)) fun a6 hA6 _ => ?_)
  refine sq (opk_call hA6 rfl (r_call (args := #[Sl.v l_1]) Try.func11 (by decide) rfl (map_arr (ml_cons (hA6.get rfl) ml_nil)) rfl) ht0 fun a8 v14 w9 hA8 _ hn11 hz12 hK13 => ?_)
  obtain ⟨r_7_Kind, r_7_Name, r_7_Text, r_7_Attrs, r_7_Kids, rfl, ht10⟩ := hK13
  refine sq (opk_new (fun B => .pointer (some ⟨B, 0, none⟩)) hA8 rfl (r_alloc (cs := [.int .i64 0, .string (Bs ([] : Str)), .string (Bs ([] : Str)), Sl.v Sl.nil, Sl.v Sl.nil]) ti_26 rfl) fun a17 w16 B_15 hE18 hN19 hB20 hA17 _ => ?_)
  have hN21 : New w9 B_15 w16 := hN19
  have hC22 : Chg [] w9 w16 := hE18
  refine sq (opk_store hA17 hB20 (r_store (vs := [.int .i64 r_7_Kind, .string (Bs r_7_Name), .string (Bs r_7_Text), Sl.v r_7_Attrs, Sl.v r_7_Kids]) (hA17.get rfl) (hA17.get rfl) rfl ti_26 hB20 rfl (ones_all [.int .i64 r_7_Kind, .string (Bs r_7_Name), .string (Bs r_7_Text), Sl.v r_7_Attrs, Sl.v r_7_Kids] rfl)) fun a24 w23 hS25 hB26 hA24 => ?_)
  have hB27 : Box w23 B_15 26 [.int .i64 r_7_Kind, .string (Bs r_7_Name), .string (Bs r_7_Text), Sl.v r_7_Attrs, Sl.v r_7_Kids] := hB26
  have hC28 := hC22.storeNew hN21 hS25
  have hN29 := hN21.up hS25.size
  refine sq_end ?_
  have hA30 := hA24.keep [(1, .int .i64 at_2), (2, .int .i64 how_3), (7, .pointer (some ⟨B_15, 0, none⟩))] ⟨rfl, rfl, rfl, trivial⟩
  refine then_normal ?_
  refine wp_seq ?_
  refine wp_seq ?_
  refine wp_region_lit ?_
  refine sq (opk_val hA30 rfl (r_loadN (cs := [.int .i64 r_7_Kind, .string (Bs r_7_Name), .string (Bs r_7_Text), Sl.v r_7_Attrs, Sl.v r_7_Kids]) Try.underlying26 rfl ti_26 (hA30.get rfl) (hB27.part 0 _ rfl)) fun a31 hA31 _ => ?_)
  have ht32 := ht10 w23 B_15 hN29  hC28
  refine sq (opk_call hA31 rfl (r_call (args := #[.agg #[.int .i64 r_7_Kind, .string (Bs r_7_Name), .string (Bs r_7_Text), Sl.v r_7_Attrs, Sl.v r_7_Kids]]) Try.func13 (by decide) rfl (map_arr (ml_cons (hA31.get rfl) ml_nil)) rfl) ht32 fun a34 v40 w35 hA34 _ hn37 hz38 hK39 => ?_)
  obtain ⟨r_33_Kind, r_33_Name, r_33_Text, r_33_Attrs, r_33_Kids, rfl, ht36⟩ := hK39
  have hB41 := hB27.kept hn37 (.head _)
  refine sq (opk_call hA34 rfl (r_call (args := #[.agg #[.int .i64 r_33_Kind, .string (Bs r_33_Name), .string (Bs r_33_Text), Sl.v r_33_Attrs, Sl.v r_33_Kids]]) Try.func12 (by decide) rfl (map_arr (ml_cons (hA34.get rfl) ml_nil)) rfl) ht36 fun a43 v49 w44 hA43 _ hn46 hz47 hK48 => ?_)
  obtain ⟨r_42, rfl, ht45⟩ := hK48
  have hB50 := hB41.kept hn46 (.head _)
  refine sq (opk_val hA43 rfl (r_not (hA43.get rfl)) fun a51 hA51 _ => ?_)
  refine sq_end ?_
  have hA52 := hA51.keep [(1, .int .i64 at_2), (2, .int .i64 how_3), (7, .pointer (some ⟨B_15, 0, none⟩)), (14, .bool (!r_42))] ⟨rfl, rfl, rfl, rfl, trivial⟩
  refine then_normal ?_
  refine wp_cond_split (hA52.get rfl) (fun hc => ?_) (fun hc => ?_)
  · have ht53 := ht45.1 (b_not_t hc)
    clear hc
    refine wp_seq ?_
    refine wp_region_lit ?_
    refine sq (opk_val hA52 rfl (r_assign rfl) fun a55 hA55 _ => ?_)
    refine sq_end ?_
    have hA56 := hA55.keep [(6, .bool false)] ⟨rfl, trivial⟩
    refine then_normal ?_
    refine wp_ret ?_
    refine then_ret ?_
    exact res_all (vs := [.bool false]) rfl hA56 ⟨res_of_tmp hA56 rfl, trivial⟩ ht53
  · have ht54 := ht45.2 (b_not_f hc)
    clear hc
    refine wp_skip ?_
    refine then_normal ?_
    refine wp_seq ?_
    refine draw' (by kernel_rfl) fun w57 hE58 => ?_
    have hB59 := hB50.ext hE58
    have hC60 : Chg [] w44 w57 := hE58
    have ht61 := ht54 w57    hC60
    obtain ⟨r_67, hc68, ht69⟩ := ht61
    obtain ⟨p_72, hp73, ht74⟩ := ht69
    refine par (D := [[], [0], [], [], [3], [3, 4], [2, 3, 4, 5], [0, 1, 2, 3, 4, 5, 6], [0, 1, 2, 3, 4, 5, 6, 7]]) (S := [0, 1, 2, 3, 4, 5, 6, 7, 8]) (F := []) (V := VL [(0, fun v _ => v = .pointer (some ⟨B_15, 4, none⟩)), (1, fun v _ => v = Sl.v r_7_Kids), (2, fun v _ => v = .int .i64 at_2), (3, fun v _ => v = .pointer (some ⟨B_15, 4, none⟩)), (4, fun v _ => v = Sl.v r_7_Kids), (5, fun v _ => v = .int .i64 (r_7_Kids.n : Int)), (6, fun v _ => v = .int .i64 r_67), (7, fun v _ => v = .pointer (some (p_72.add (r_67.toNat * 5)))), (8, fun v _ => v = .pointer (some (p_72.add (r_67.toNat * 5))))]) hA52 (by kernel_rfl) ⟨fun _ _ _ _ h => by first | exact h | (change _ = _ at h; change _ = _; exact h), fun _ _ _ _ h => by first | exact h | (change _ = _ at h; change _ = _; exact h), fun _ _ _ _ h => by first | exact h | (change _ = _ at h; change _ = _; exact h), fun _ _ _ _ h => by first | exact h | (change _ = _ at h; change _ = _; exact h), fun _ _ _ _ h => by first | exact h | (change _ = _ at h; change _ = _; exact h), fun _ _ _ _ h => by first | exact h | (change _ = _ at h; change _ = _; exact h), fun _ _ _ _ h => by first | exact h | (change _ = _ at h; change _ = _; exact h), fun _ _ _ _ h => by first | exact h | (change _ = _ at h; change _ = _; exact h), fun _ _ _ _ h => by first | exact h | (change _ = _ at h; change _ = _; exact h), trivial⟩ ⟨?_, ?_, ?_, ?_, ?_, ?_, ?_, ?_, ?_, trivial⟩ ?_
    · intro a w hT
      have hAp := hT.ag hA52 [(7, .pointer (some ⟨B_15, 0, none⟩))] ⟨rfl, trivial⟩ (by kernel_rfl)
      exact opk_val hAp rfl (r_fieldAddr (hAp.get rfl) Try.underlying26 rfl ti_24 (by decide)) fun _ _ e => ⟨_, e, Chg.refl _ _, fun _ => Eq.refl _⟩
    · intro a w hT
      have hAp := hT.ag hA52 [] trivial (by kernel_rfl)
      have e62 : a.tmps.getD 15 undef = .pointer (some ⟨B_15, 4, none⟩) := hT.vals 0 rfl 15 rfl
      have hAp := hAp.add e62
      exact opk_val hAp rfl (r_load1 Try.underlying24 rfl (hAp.get rfl) ((hB59.ext hT.chg).cell 4 _ rfl)) fun _ _ e => ⟨_, e, Chg.refl _ _, fun _ => Eq.refl _⟩
    · intro a w hT
      have hAp := hT.ag hA52 [(1, .int .i64 at_2)] ⟨rfl, trivial⟩ (by kernel_rfl)
      exact opk_val hAp rfl (r_move (hAp.get rfl)) fun _ _ e => ⟨_, e, Chg.refl _ _, fun _ => Eq.refl _⟩
    · intro a w hT
      have hAp := hT.ag hA52 [(7, .pointer (some ⟨B_15, 0, none⟩))] ⟨rfl, trivial⟩ (by kernel_rfl)
      exact opk_val hAp rfl (r_fieldAddr (hAp.get rfl) Try.underlying26 rfl ti_24 (by decide)) fun _ _ e => ⟨_, e, Chg.refl _ _, fun _ => Eq.refl _⟩
    · intro a w hT
      have hAp := hT.ag hA52 [] trivial (by kernel_rfl)
      have e63 : a.tmps.getD 18 undef = .pointer (some ⟨B_15, 4, none⟩) := hT.vals 3 rfl 18 rfl
      have hAp := hAp.add e63
      exact opk_val hAp rfl (r_load1 Try.underlying24 rfl (hAp.get rfl) ((hB59.ext hT.chg).cell 4 _ rfl)) fun _ _ e => ⟨_, e, Chg.refl _ _, fun _ => Eq.refl _⟩
    · intro a w hT
      have hAp := hT.ag hA52 [] trivial (by kernel_rfl)
      have e64 : a.tmps.getD 19 undef = Sl.v r_7_Kids := hT.vals 4 rfl 19 rfl
      have hAp := hAp.add e64
      exact opk_val hAp rfl (r_len (hAp.get rfl) Try.underlying24) fun _ _ e => ⟨_, e, Chg.refl _ _, fun _ => Eq.refl _⟩
    · intro a w hT
      have hAp := hT.ag hA52 [] trivial (by kernel_rfl)
      have e65 : a.tmps.getD 17 undef = .int .i64 at_2 := hT.vals 2 rfl 17 rfl
      have hAp := hAp.add e65
      have e66 : a.tmps.getD 20 undef = .int .i64 (r_7_Kids.n : Int) := hT.vals 5 rfl 20 rfl
      have hAp := hAp.add e66
      exact opk_callX hAp rfl (r_call (args := #[.int .i64 at_2, .int .i64 (r_7_Kids.n : Int)]) Try.func14 (by decide) rfl (map_arr (ml_cons (hAp.get rfl) (ml_cons (hAp.get rfl) ml_nil))) rfl) (hc68 w hT.chg) fun _ _ _ _ e hR => ⟨_, e, hR.1, fun _ => hR.2⟩
    · intro a w hT
      have hAp := hT.ag hA52 [] trivial (by kernel_rfl)
      have e70 : a.tmps.getD 16 undef = Sl.v r_7_Kids := hT.vals 1 rfl 16 rfl
      have hAp := hAp.add e70
      have e71 : a.tmps.getD 21 undef = .int .i64 r_67 := hT.vals 6 rfl 21 rfl
      have hAp := hAp.add e71
      exact opk_val hAp rfl (r_indexAddr (hAp.get rfl) (hAp.get rfl) Try.underlying24 ti_26 hp73.1 hp73.2) fun _ _ e => ⟨_, e, Chg.refl _ _, fun _ => Eq.refl _⟩
    · intro a w hT
      have hAp := hT.ag hA52 [] trivial (by kernel_rfl)
      have e75 : a.tmps.getD 22 undef = .pointer (some (p_72.add (r_67.toNat * 5))) := hT.vals 7 rfl 22 rfl
      have hAp := hAp.add e75
      exact opk_val hAp rfl (r_assign (hAp.get rfl)) fun _ _ e => ⟨_, e, Chg.refl _ _, fun _ => Eq.refl _⟩
    · intro a76 w77 hE78 hag79 hv80
      have hA76 := hag79 [(2, .int .i64 how_3), (7, .pointer (some ⟨B_15, 0, none⟩))] ⟨rfl, rfl, trivial⟩ (by kernel_rfl)
      have e81 : a76.tmps.getD 8 undef = .pointer (some (p_72.add (r_67.toNat * 5))) := hv80 8 rfl 8 rfl
      have hA82 := hA76.add e81
      have hB83 := hB59.ext hE78
      have hC84 : Chg [] w57 w77 := hE78
      refine PR_end (by kernel_rfl) ?_
      have hA85 := hA82.keep [(2, .int .i64 how_3), (7, .pointer (some ⟨B_15, 0, none⟩)), (8, .pointer (some (p_72.add (r_67.toNat * 5))))] ⟨rfl, rfl, rfl, trivial⟩
      refine then_normal ?_
      refine wp_seq ?_
      refine wp_seq ?_
      refine wp_region_lit ?_
      refine sq (opk_val hA85 rfl (r_move (hA85.get rfl)) fun a86 hA86 _ => ?_)
      have ht87 := ht74 w77    hC84
      refine sq (opk_call hA86 rfl (r_call (args := #[.int .i64 how_3, .int .i64 6]) Try.func14 (by decide) rfl (map_arr (ml_cons (hA86.get rfl) (ml_cons rfl ml_nil))) rfl) ht87 fun a89 v95 w90 hA89 _ hn92 hz93 hK94 => ?_)
      obtain ⟨r_88, rfl, ht91⟩ := hK94
      have hB96 := hB83.kept hn92 (.head _)
      refine sq_end ?_
      have hA97 := hA89.keep [(7, .pointer (some ⟨B_15, 0, none⟩)), (8, .pointer (some (p_72.add (r_67.toNat * 5)))), (24, .int .i64 r_88)] ⟨rfl, rfl, rfl, trivial⟩
      refine then_normal ?_
      obtain ⟨J_265, ht266, hr267⟩ := ht91
      refine wp_meet (fun a w => Ag 64 a [(7, .pointer (some ⟨B_15, 0, none⟩))] ∧ Box w B_15 26 [.int .i64 r_7_Kind, .string (Bs r_7_Name), .string (Bs r_7_Text), Sl.v r_7_Attrs, Sl.v r_7_Kids] ∧ J_265 w) ?_ ?_
      · refine wp_block ?_
        refine wp_seq ?_
        refine wp_region_lit ?_
        refine sq (opk_val hA97 rfl (r_eql (hA97.get rfl) rfl) fun a268 hA268 _ => ?_)
        refine sq (opk_val hA268 rfl (r_assign (hA268.get rfl)) fun a269 hA269 _ => ?_)
        refine sq_end ?_
        have hA270 := hA269.keep [(7, .pointer (some ⟨B_15, 0, none⟩)), (8, .pointer (some (p_72.add (r_67.toNat * 5)))), (24, .int .i64 r_88), (30, .bool (decide (r_88 = 0)))] ⟨rfl, rfl, rfl, rfl, trivial⟩
        refine then_normal ?_
        refine wp_cond_split (hA270.get rfl) (fun hc => ?_) (fun hc => ?_)
        · have ht271 := ht266.1 (of_decide_eq_true hc)
          clear hc
          refine wp_region_lit ?_
          refine sq (opk_val hA270 rfl (r_move (hA270.get rfl)) fun a273 hA273 _ => ?_)
          refine sq (opk_val hA273 rfl (r_nilCheck (hA273.get rfl)) fun a274 hA274 _ => ?_)
          refine sq (opk_val hA274 rfl (r_fieldAddr (hA274.get rfl) Try.underlying26 rfl ti_3 (by decide)) fun a275 hA275 _ => ?_)
          obtain ⟨B_280, o_281, T_282, cs_283, he284, hb285, hl286, hx287, ht288⟩ := ht271
          refine sq (opk_store hA275 hb285 (r_store (vs := [.int .i64 1]) (((hA275.get rfl)).trans (congrArg (fun a => Value.pointer (some a)) he284)) rfl rfl ti_3 hb285 (Nat.ble_eq_true_of_le hl286) (ones_all [.int .i64 1] rfl)) fun a277 w276 hS278 hB279 hA277 => ?_)
          have hB289 := hB96.keep hS278 (by have := hx287 B_15 (by simp); simpa using this)
          have ht290 := ht288 w276 hS278 hB279
          refine sq_end ?_
          have hA291 := hA277.keep [(7, .pointer (some ⟨B_15, 0, none⟩))] ⟨rfl, trivial⟩
          refine block_normal ?_
          have hA292 := hA291.keep [(7, .pointer (some ⟨B_15, 0, none⟩))] ⟨rfl, trivial⟩
          exact then_normal ⟨hA292, hB289, ht290⟩
        · have ht272 := ht266.2 (of_decide_eq_false hc)
          clear hc
          refine wp_seq ?_
          refine wp_region_lit ?_
          refine sq (opk_val hA270 rfl (r_eql (hA270.get rfl) rfl) fun a293 hA293 _ => ?_)
          refine sq (opk_val hA293 rfl (r_assign (hA293.get rfl)) fun a294 hA294 _ => ?_)
          refine sq_end ?_
          have hA295 := hA294.keep [(7, .pointer (some ⟨B_15, 0, none⟩)), (8, .pointer (some (p_72.add (r_67.toNat * 5)))), (24, .int .i64 r_88), (35, .bool (decide (r_88 = 1)))] ⟨rfl, rfl, rfl, rfl, trivial⟩
          refine then_normal ?_
          refine wp_cond_split (hA295.get rfl) (fun hc => ?_) (fun hc => ?_)
          · have ht296 := ht272.1 (of_decide_eq_true hc)
            clear hc
            refine wp_region_lit ?_
            refine sq (opk_val hA295 rfl (r_move (hA295.get rfl)) fun a298 hA298 _ => ?_)
            refine sq (opk_val hA298 rfl (r_nilCheck (hA298.get rfl)) fun a299 hA299 _ => ?_)
            refine sq (opk_val hA299 rfl (r_fieldAddr (hA299.get rfl) Try.underlying26 rfl ti_3 (by decide)) fun a300 hA300 _ => ?_)
            obtain ⟨B_305, o_306, T_307, cs_308, he309, hb310, hl311, hx312, ht313⟩ := ht296
            refine sq (opk_store hA300 hb310 (r_store (vs := [.int .i64 0]) (((hA300.get rfl)).trans (congrArg (fun a => Value.pointer (some a)) he309)) rfl rfl ti_3 hb310 (Nat.ble_eq_true_of_le hl311) (ones_all [.int .i64 0] rfl)) fun a302 w301 hS303 hB304 hA302 => ?_)
            have hB314 := hB96.keep hS303 (by have := hx312 B_15 (by simp); simpa using this)
            have ht315 := ht313 w301 hS303 hB304
            refine sq_end ?_
            have hA316 := hA302.keep [(7, .pointer (some ⟨B_15, 0, none⟩))] ⟨rfl, trivial⟩
            refine block_normal ?_
            have hA317 := hA316.keep [(7, .pointer (some ⟨B_15, 0, none⟩))] ⟨rfl, trivial⟩
            exact then_normal ⟨hA317, hB314, ht315⟩
          · have ht297 := ht272.2 (of_decide_eq_false hc)
            clear hc
            refine wp_seq ?_
            refine wp_region_lit ?_
            refine sq (opk_val hA295 rfl (r_eql (hA295.get rfl) rfl) fun a318 hA318 _ => ?_)
            refine sq (opk_val hA318 rfl (r_assign (hA318.get rfl)) fun a319 hA319 _ => ?_)
            refine sq_end ?_
            have hA320 := hA319.keep [(7, .pointer (some ⟨B_15, 0, none⟩)), (8, .pointer (some (p_72.add (r_67.toNat * 5)))), (24, .int .i64 r_88), (40, .bool (decide (r_88 = 2)))] ⟨rfl, rfl, rfl, rfl, trivial⟩
            refine then_normal ?_
            refine wp_cond_split (hA320.get rfl) (fun hc => ?_) (fun hc => ?_)
            · have ht321 := ht297.1 (of_decide_eq_true hc)
              clear hc
              refine wp_region_lit ?_
              refine sq (opk_val hA320 rfl (r_move (hA320.get rfl)) fun a323 hA323 _ => ?_)
              refine sq (opk_val hA323 rfl (r_build (vs := #[(0, .int .i64 3)]) (cells := #[.int .i64 3, .string (Bs ([] : Str)), .string (Bs ([] : Str)), Sl.v Sl.nil, Sl.v Sl.nil]) (map_arr2 (ml2_cons rfl (ml2_nil))) ti_26 Try.underlying26 pl_26 (by kernel_rfl)) fun a324 hA324 _ => ?_)
              refine sq (opk_val hA324 rfl (r_nilCheck (hA324.get rfl)) fun a325 hA325 _ => ?_)
              obtain ⟨B_330, o_331, T_332, cs_333, he334, hb335, hl336, hx337, ht338⟩ := ht321
              refine sq (opk_store hA325 hb335 (r_store (vs := [.int .i64 3, .string (Bs ([] : Str)), .string (Bs ([] : Str)), Sl.v Sl.nil, Sl.v Sl.nil]) (((hA325.get rfl)).trans (congrArg (fun a => Value.pointer (some a)) he334)) (hA325.get rfl) rfl ti_26 hb335 (Nat.ble_eq_true_of_le hl336) (ones_all [.int .i64 3, .string (Bs ([] : Str)), .string (Bs ([] : Str)), Sl.v Sl.nil, Sl.v Sl.nil] rfl)) fun a327 w326 hS328 hB329 hA327 => ?_)
              have hB339 := hB96.keep hS328 (by have := hx337 B_15 (by simp); simpa using this)
              have ht340 := ht338 w326 hS328 hB329
              refine sq_end ?_
              have hA341 := hA327.keep [(7, .pointer (some ⟨B_15, 0, none⟩))] ⟨rfl, trivial⟩
              refine block_normal ?_
              have hA342 := hA341.keep [(7, .pointer (some ⟨B_15, 0, none⟩))] ⟨rfl, trivial⟩
              exact then_normal ⟨hA342, hB339, ht340⟩
            · have ht322 := ht297.2 (of_decide_eq_false hc)
              clear hc
              refine wp_seq ?_
              refine wp_region_lit ?_
              refine sq (opk_val hA320 rfl (r_eql (hA320.get rfl) rfl) fun a343 hA343 _ => ?_)
              refine sq (opk_val hA343 rfl (r_assign (hA343.get rfl)) fun a344 hA344 _ => ?_)
              refine sq_end ?_
              have hA345 := hA344.keep [(7, .pointer (some ⟨B_15, 0, none⟩)), (8, .pointer (some (p_72.add (r_67.toNat * 5)))), (24, .int .i64 r_88), (45, .bool (decide (r_88 = 3)))] ⟨rfl, rfl, rfl, rfl, trivial⟩
              refine then_normal ?_
              refine wp_cond_split (hA345.get rfl) (fun hc => ?_) (fun hc => ?_)
              · have ht346 := ht322.1 (of_decide_eq_true hc)
                clear hc
                refine wp_region_lit ?_
                refine sq (opk_val hA345 rfl (r_move (hA345.get rfl)) fun a348 hA348 _ => ?_)
                refine sq (opk_val hA348 rfl (r_build (vs := #[(0, .int .i64 2), (1, .string (Bs ([65] : Str)))]) (cells := #[.int .i64 2, .string (Bs ([65] : Str)), .string (Bs ([] : Str)), Sl.v Sl.nil, Sl.v Sl.nil]) (map_arr2 (ml2_cons rfl (ml2_cons rfl (ml2_nil)))) ti_26 Try.underlying26 pl_26 (by kernel_rfl)) fun a349 hA349 _ => ?_)
                refine sq (opk_val hA349 rfl (r_nilCheck (hA349.get rfl)) fun a350 hA350 _ => ?_)
                obtain ⟨B_355, o_356, T_357, cs_358, he359, hb360, hl361, hx362, ht363⟩ := ht346
                refine sq (opk_store hA350 hb360 (r_store (vs := [.int .i64 2, .string (Bs ([65] : Str)), .string (Bs ([] : Str)), Sl.v Sl.nil, Sl.v Sl.nil]) (((hA350.get rfl)).trans (congrArg (fun a => Value.pointer (some a)) he359)) (hA350.get rfl) rfl ti_26 hb360 (Nat.ble_eq_true_of_le hl361) (ones_all [.int .i64 2, .string (Bs ([65] : Str)), .string (Bs ([] : Str)), Sl.v Sl.nil, Sl.v Sl.nil] rfl)) fun a352 w351 hS353 hB354 hA352 => ?_)
                have hB364 := hB96.keep hS353 (by have := hx362 B_15 (by simp); simpa using this)
                have ht365 := ht363 w351 hS353 hB354
                refine sq_end ?_
                have hA366 := hA352.keep [(7, .pointer (some ⟨B_15, 0, none⟩))] ⟨rfl, trivial⟩
                refine block_normal ?_
                have hA367 := hA366.keep [(7, .pointer (some ⟨B_15, 0, none⟩))] ⟨rfl, trivial⟩
                exact then_normal ⟨hA367, hB364, ht365⟩
              · have ht347 := ht322.2 (of_decide_eq_false hc)
                clear hc
                refine wp_seq ?_
                refine wp_region_lit ?_
                refine sq (opk_val hA345 rfl (r_eql (hA345.get rfl) rfl) fun a368 hA368 _ => ?_)
                refine sq (opk_val hA368 rfl (r_assign (hA368.get rfl)) fun a369 hA369 _ => ?_)
                refine sq_end ?_
                have hA370 := hA369.keep [(7, .pointer (some ⟨B_15, 0, none⟩)), (8, .pointer (some (p_72.add (r_67.toNat * 5)))), (50, .bool (decide (r_88 = 4)))] ⟨rfl, rfl, rfl, trivial⟩
                refine then_normal ?_
                refine wp_cond_split (hA370.get rfl) (fun hc => ?_) (fun hc => ?_)
                · have ht371 := ht347.1 (of_decide_eq_true hc)
                  clear hc
                  refine wp_region_lit ?_
                  refine sq (opk_val hA370 rfl (r_move (hA370.get rfl)) fun a373 hA373 _ => ?_)
                  refine sq (opk_val hA373 rfl (r_build (vs := #[(0, .string (Bs ([121] : Str)))]) (cells := #[.string (Bs ([121] : Str)), .string (Bs ([] : Str))]) (map_arr2 (ml2_cons rfl (ml2_nil))) ti_33 Try.underlying33 pl_33 (by kernel_rfl)) fun a374 hA374 _ => ?_)
                  refine sq (opk_val hA374 rfl (r_build (vs := #[(0, .string (Bs ([120] : Str)))]) (cells := #[.string (Bs ([120] : Str)), .string (Bs ([] : Str))]) (map_arr2 (ml2_cons rfl (ml2_nil))) ti_33 Try.underlying33 pl_33 (by kernel_rfl)) fun a375 hA375 _ => ?_)
                  refine sq (opk_new (fun B => .slice (some ⟨B, 0, none⟩) 2 2) hA375 rfl (r_buildSlice (vs := #[(0, .agg #[.string (Bs ([121] : Str)), .string (Bs ([] : Str))]), (1, .agg #[.string (Bs ([120] : Str)), .string (Bs ([] : Str))])]) (cs := [.string (Bs ([121] : Str)), .string (Bs ([] : Str)), .string (Bs ([120] : Str)), .string (Bs ([] : Str))]) (map_arr2 (ml2_cons (hA375.get rfl) (ml2_cons (hA375.get rfl) (ml2_nil)))) Try.underlying23 ti_33 rfl rfl (by kernel_rfl)) fun a378 w377 B_376 hE379 hN380 hB381 hA378 _ => ?_)
                  have hne382 : B_15 ≠ B_376 := Nat.ne_of_lt (Nat.lt_of_lt_of_le hB96.lt hN380.ge)
                  have hN383 : New w90 B_376 w377 := hN380
                  have hB384 := hB96.ext hE379
                  have hC385 : Chg [] w90 w377 := hE379
                  refine sq (opk_val hA378 rfl (r_build (vs := #[(0, .int .i64 2), (1, .string (Bs ([97] : Str))), (3, Sl.v (Sl.mk (some ⟨B_376, 0, none⟩) 2 2))]) (cells := #[.int .i64 2, .string (Bs ([97] : Str)), .string (Bs ([] : Str)), Sl.v (Sl.mk (some ⟨B_376, 0, none⟩) 2 2), Sl.v Sl.nil]) (map_arr2 (ml2_cons rfl (ml2_cons rfl (ml2_cons (hA378.get rfl) (ml2_nil))))) ti_26 Try.underlying26 pl_26 (by kernel_rfl)) fun a386 hA386 _ => ?_)
                  refine sq (opk_val hA386 rfl (r_nilCheck (hA386.get rfl)) fun a387 hA387 _ => ?_)
                  have ht392 := ht371 w377 B_376 hN383  hC385
                  have ht393 := ht392 hB381
                  obtain ⟨B_394, o_395, T_396, cs_397, he398, hb399, hl400, hx401, ht402⟩ := ht393
                  refine sq (opk_store hA387 hb399 (r_store (vs := [.int .i64 2, .string (Bs ([97] : Str)), .string (Bs ([] : Str)), Sl.v (Sl.mk (some ⟨B_376, 0, none⟩) 2 2), Sl.v Sl.nil]) (((hA387.get rfl)).trans (congrArg (fun a => Value.pointer (some a)) he398)) (hA387.get rfl) rfl ti_26 hb399 (Nat.ble_eq_true_of_le hl400) (ones_all [.int .i64 2, .string (Bs ([97] : Str)), .string (Bs ([] : Str)), Sl.v (Sl.mk (some ⟨B_376, 0, none⟩) 2 2), Sl.v Sl.nil] rfl)) fun a389 w388 hS390 hB391 hA389 => ?_)
                  have hB403 := hB384.keep hS390 (by have := hx401 B_15 (by simp); simpa using this)
                  have ht404 := ht402 w388 hS390 hB391
                  refine sq_end ?_
                  have hA405 := hA389.keep [(7, .pointer (some ⟨B_15, 0, none⟩))] ⟨rfl, trivial⟩
                  refine block_normal ?_
                  have hA406 := hA405.keep [(7, .pointer (some ⟨B_15, 0, none⟩))] ⟨rfl, trivial⟩
                  exact then_normal ⟨hA406, hB403, ht404⟩
                · have ht372 := ht347.2 (of_decide_eq_false hc)
                  clear hc
                  refine wp_region_lit ?_
                  refine sq (opk_val hA370 rfl (r_move (hA370.get rfl)) fun a407 hA407 _ => ?_)
                  refine sq (opk_val hA407 rfl (r_build (vs := #[(0, .int .i64 3), (2, .string (Bs ([97] : Str)))]) (cells := #[.int .i64 3, .string (Bs ([] : Str)), .string (Bs ([97] : Str)), Sl.v Sl.nil, Sl.v Sl.nil]) (map_arr2 (ml2_cons rfl (ml2_cons rfl (ml2_nil)))) ti_26 Try.underlying26 pl_26 (by kernel_rfl)) fun a408 hA408 _ => ?_)
                  refine sq (opk_new (fun B => .slice (some ⟨B, 0, none⟩) 1 1) hA408 rfl (r_buildSlice (vs := #[(0, .agg #[.int .i64 3, .string (Bs ([] : Str)), .string (Bs ([97] : Str)), Sl.v Sl.nil, Sl.v Sl.nil])]) (cs := [.int .i64 3, .string (Bs ([] : Str)), .string (Bs ([97] : Str)), Sl.v Sl.nil, Sl.v Sl.nil]) (map_arr2 (ml2_cons (hA408.get rfl) (ml2_nil))) Try.underlying24 ti_26 rfl rfl (by kernel_rfl)) fun a411 w410 B_409 hE412 hN413 hB414 hA411 _ => ?_)
                  have hne415 : B_15 ≠ B_409 := Nat.ne_of_lt (Nat.lt_of_lt_of_le hB96.lt hN413.ge)
                  have hN416 : New w90 B_409 w410 := hN413
                  have hB417 := hB96.ext hE412
                  have hC418 : Chg [] w90 w410 := hE412
                  refine sq (opk_val hA411 rfl (r_build (vs := #[(0, .int .i64 4), (4, Sl.v (Sl.mk (some ⟨B_409, 0, none⟩) 1 1))]) (cells := #[.int .i64 4, .string (Bs ([] : Str)), .string (Bs ([] : Str)), Sl.v Sl.nil, Sl.v (Sl.mk (some ⟨B_409, 0, none⟩) 1 1)]) (map_arr2 (ml2_cons rfl (ml2_cons (hA411.get rfl) (ml2_nil)))) ti_26 Try.underlying26 pl_26 (by kernel_rfl)) fun a419 hA419 _ => ?_)
                  refine sq (opk_val hA419 rfl (r_nilCheck (hA419.get rfl)) fun a420 hA420 _ => ?_)
                  have ht425 := ht372 w410 B_409 hN416  hC418
                  have ht426 := ht425 hB414
                  obtain ⟨B_427, o_428, T_429, cs_430, he431, hb432, hl433, hx434, ht435⟩ := ht426
                  refine sq (opk_store hA420 hb432 (r_store (vs := [.int .i64 4, .string (Bs ([] : Str)), .string (Bs ([] : Str)), Sl.v Sl.nil, Sl.v (Sl.mk (some ⟨B_409, 0, none⟩) 1 1)]) (((hA420.get rfl)).trans (congrArg (fun a => Value.pointer (some a)) he431)) (hA420.get rfl) rfl ti_26 hb432 (Nat.ble_eq_true_of_le hl433) (ones_all [.int .i64 4, .string (Bs ([] : Str)), .string (Bs ([] : Str)), Sl.v Sl.nil, Sl.v (Sl.mk (some ⟨B_409, 0, none⟩) 1 1)] rfl)) fun a422 w421 hS423 hB424 hA422 => ?_)
                  have hB436 := hB417.keep hS423 (by have := hx434 B_15 (by simp); simpa using this)
                  have ht437 := ht435 w421 hS423 hB424
                  refine sq_end ?_
                  have hA438 := hA422.keep [(7, .pointer (some ⟨B_15, 0, none⟩))] ⟨rfl, trivial⟩
                  refine block_normal ?_
                  have hA439 := hA438.keep [(7, .pointer (some ⟨B_15, 0, none⟩))] ⟨rfl, trivial⟩
                  exact then_normal ⟨hA439, hB436, ht437⟩
      · intro a440 w264 hm
        obtain ⟨hA440, hB441, hJ467⟩ := hm
        have ht442 := hr267 w264 hJ467
        refine then_normal ?_
        refine wp_seq ?_
        refine wp_region_lit ?_
        refine sq (opk_val hA440 rfl (r_loadN (cs := [.int .i64 r_7_Kind, .string (Bs r_7_Name), .string (Bs r_7_Text), Sl.v r_7_Attrs, Sl.v r_7_Kids]) Try.underlying26 rfl ti_26 (hA440.get rfl) (hB441.part 0 _ rfl)) fun a443 hA443 _ => ?_)
        refine sq (opk_call hA443 rfl (r_call (args := #[.agg #[.int .i64 r_7_Kind, .string (Bs r_7_Name), .string (Bs r_7_Text), Sl.v r_7_Attrs, Sl.v r_7_Kids]]) Try.func12 (by decide) rfl (map_arr (ml_cons (hA443.get rfl) ml_nil)) rfl) ht442 fun a445 v451 w446 hA445 _ hn448 hz449 hK450 => ?_)
        obtain ⟨r_444, rfl, ht447⟩ := hK450
        have hB452 := hB441.kept hn448 (.head _)
        refine sq (opk_val hA445 rfl (r_not (hA445.get rfl)) fun a453 hA453 _ => ?_)
        refine sq (opk_val hA453 rfl (r_move (hA453.get rfl)) fun a454 hA454 _ => ?_)
        obtain ⟨r_455, hc459, ht458⟩ := ht447
        refine sq (opk_gcall hA454 rfl rfl (g := true) (e := (!r_444)) rfl (fun hg => r_call (args := #[]) Try.func15 (by decide) rfl (map_arr ml_nil) rfl) (fun hg => hc459 (b_not_t (g_t hg))) fun a456 w457 hA456 _ hE460 => ?_)
        have hB461 := hB452.ext hE460
        have hC462 : Chg [] w446 w457 := hE460
        have ht463 := ht458 w457 hE460
        refine sq (opk_val hA456 rfl (r_pick_and (g := (true && ((!r_444) == true))) (hA456.get rfl) (hA456.get rfl) (fun he => g_mkt rfl he)) fun a464 hA464 _ => ?_)
        refine sq (opk_val hA464 rfl (r_assign (hA464.get rfl)) fun a465 hA465 _ => ?_)
        refine sq_end ?_
        have hA466 := hA465.keep [(6, .bool ((!r_444) && r_455))] ⟨rfl, trivial⟩
        refine then_normal ?_
        refine wp_ret ?_
        exact res_all (vs := [.bool ((!r_444) && r_455)]) rfl hA466 ⟨res_of_tmp hA466 rfl, trivial⟩ ht463

/-- The condition of topiary/topiarylaw05.TreeLimits. -/
def law05_TreeLimits.vc  (R : Value → World → Prop) (w : World) : Prop :=
CallK Try.prog 16 #[.int .i64 300] w [] (fun v w10 => ∃ (r_8_Kind : Int) (r_8_Name : Str) (r_8_Text : Str) (r_8_Attrs : Sl) (r_8_Kids : Sl), v = .agg #[.int .i64 r_8_Kind, .string (Bs r_8_Name), .string (Bs r_8_Text), Sl.v r_8_Attrs, Sl.v r_8_Kids] ∧
CallK Try.prog 12 #[.agg #[.int .i64 r_8_Kind, .string (Bs r_8_Name), .string (Bs r_8_Text), Sl.v r_8_Attrs, Sl.v r_8_Kids]] w10 [] (fun v w18 => ∃ (r_16 : Bool), v = .bool r_16 ∧
∃ V_30 : Int → Str → Str → Sl → Sl → World → Prop, (((r_16 = true)) → Calls Try.prog 16 #[.int .i64 301] w18 (Ret fun v w' => Ext w18 w' ∧ ∃ r_26_Kind : Int, ∃ r_26_Name : Str, ∃ r_26_Text : Str, ∃ r_26_Attrs : Sl, ∃ r_26_Kids : Sl, v = .agg #[.int .i64 r_26_Kind, .string (Bs r_26_Name), .string (Bs r_26_Text), Sl.v r_26_Attrs, Sl.v r_26_Kids] ∧ V_30 r_26_Kind r_26_Name r_26_Text r_26_Attrs r_26_Kids w')) ∧
(∀ (r_26_Kind : Int) (r_26_Name : Str) (r_26_Text : Str) (r_26_Attrs : Sl) (r_26_Kids : Sl) (w28 : World), Ext w18 w28 → (((r_16 = true)) → V_30 r_26_Kind r_26_Name r_26_Text r_26_Attrs r_26_Kids w28) →
∃ (r_39 : Bool), (((r_16 = true)) → Calls Try.prog 12 #[.agg #[.int .i64 r_26_Kind, .string (Bs r_26_Name), .string (Bs r_26_Text), Sl.v r_26_Attrs, Sl.v r_26_Kids]] w28 (Ret fun v w' => Ext w28 w' ∧ v = .bool r_39)) ∧
(∀ w41 : World, Ext w28 w41 →
∃ V_55 : Int → Str → Str → Sl → Sl → World → Prop, ((((r_16 = true) ∧ (r_39 = false))) → Calls Try.prog 17 #[.int .i64 60] w41 (Ret fun v w' => Ext w41 w' ∧ ∃ r_51_Kind : Int, ∃ r_51_Name : Str, ∃ r_51_Text : Str, ∃ r_51_Attrs : Sl, ∃ r_51_Kids : Sl, v = .agg #[.int .i64 r_51_Kind, .string (Bs r_51_Name), .string (Bs r_51_Text), Sl.v r_51_Attrs, Sl.v r_51_Kids] ∧ V_55 r_51_Kind r_51_Name r_51_Text r_51_Attrs r_51_Kids w')) ∧
(∀ (r_51_Kind : Int) (r_51_Name : Str) (r_51_Text : Str) (r_51_Attrs : Sl) (r_51_Kids : Sl) (w53 : World), Ext w41 w53 → ((((r_16 = true) ∧ (r_39 = false))) → V_55 r_51_Kind r_51_Name r_51_Text r_51_Attrs r_51_Kids w53) →
∃ (r_64 : Bool), ((((r_16 = true) ∧ (r_39 = false))) → Calls Try.prog 12 #[.agg #[.int .i64 r_51_Kind, .string (Bs r_51_Name), .string (Bs r_51_Text), Sl.v r_51_Attrs, Sl.v r_51_Kids]] w53 (Ret fun v w' => Ext w53 w' ∧ v = .bool r_64)) ∧
(∀ w66 : World, Ext w53 w66 →
∃ V_79 : Int → Str → Str → Sl → Sl → World → Prop, (((((r_16 = true) ∧ (r_39 = false)) ∧ (r_64 = true))) → Calls Try.prog 17 #[.int .i64 61] w66 (Ret fun v w' => Ext w66 w' ∧ ∃ r_75_Kind : Int, ∃ r_75_Name : Str, ∃ r_75_Text : Str, ∃ r_75_Attrs : Sl, ∃ r_75_Kids : Sl, v = .agg #[.int .i64 r_75_Kind, .string (Bs r_75_Name), .string (Bs r_75_Text), Sl.v r_75_Attrs, Sl.v r_75_Kids] ∧ V_79 r_75_Kind r_75_Name r_75_Text r_75_Attrs r_75_Kids w')) ∧
(∀ (r_75_Kind : Int) (r_75_Name : Str) (r_75_Text : Str) (r_75_Attrs : Sl) (r_75_Kids : Sl) (w77 : World), Ext w66 w77 → (((((r_16 = true) ∧ (r_39 = false)) ∧ (r_64 = true))) → V_79 r_75_Kind r_75_Name r_75_Text r_75_Attrs r_75_Kids w77) →
∃ (r_88 : Bool), (((((r_16 = true) ∧ (r_39 = false)) ∧ (r_64 = true))) → Calls Try.prog 12 #[.agg #[.int .i64 r_75_Kind, .string (Bs r_75_Name), .string (Bs r_75_Text), Sl.v r_75_Attrs, Sl.v r_75_Kids]] w77 (Ret fun v w' => Ext w77 w' ∧ v = .bool r_88)) ∧
(∀ w90 : World, Ext w77 w90 →
∃ V_104 : Int → Str → Str → Sl → Sl → World → Prop, ((((((r_16 = true) ∧ (r_39 = false)) ∧ (r_64 = true)) ∧ (r_88 = false))) → Calls Try.prog 17 #[.int .i64 20] w90 (Ret fun v w' => Ext w90 w' ∧ ∃ r_100_Kind : Int, ∃ r_100_Name : Str, ∃ r_100_Text : Str, ∃ r_100_Attrs : Sl, ∃ r_100_Kids : Sl, v = .agg #[.int .i64 r_100_Kind, .string (Bs r_100_Name), .string (Bs r_100_Text), Sl.v r_100_Attrs, Sl.v r_100_Kids] ∧ V_104 r_100_Kind r_100_Name r_100_Text r_100_Attrs r_100_Kids w')) ∧
(∀ (r_100_Kind : Int) (r_100_Name : Str) (r_100_Text : Str) (r_100_Attrs : Sl) (r_100_Kids : Sl) (w102 : World), Ext w90 w102 → ((((((r_16 = true) ∧ (r_39 = false)) ∧ (r_64 = true)) ∧ (r_88 = false))) → V_104 r_100_Kind r_100_Name r_100_Text r_100_Attrs r_100_Kids w102) →
∃ (r_113 : Int), ((((((r_16 = true) ∧ (r_39 = false)) ∧ (r_64 = true)) ∧ (r_88 = false))) → Calls Try.prog 18 #[.agg #[.int .i64 r_100_Kind, .string (Bs r_100_Name), .string (Bs r_100_Text), Sl.v r_100_Attrs, Sl.v r_100_Kids]] w102 (Ret fun v w' => Ext w102 w' ∧ v = .int .i64 r_113)) ∧
(∀ w115 : World, Ext w102 w115 →
∃ (r_124 : Bool), (((((((r_16 = true) ∧ (r_39 = false)) ∧ (r_64 = true)) ∧ (r_88 = false)) ∧ (r_113 = 20))) → Calls Try.prog 15 #[] w115 (Ret fun v w' => Ext w115 w' ∧ v = .bool r_124)) ∧
(∀ w126 : World, Ext w115 w126 →
R (.bool (((((r_16 && (!r_39)) && r_64) && (!r_88)) && (decide (r_113 = 20))) && r_124)) w126)))))))))))
set_option maxHeartbeats 1000000 in
set_option maxRecDepth 10000 in
theorem law05_TreeLimits.ok  {R : Value → World → Prop} {w : World} (ht0 : law05_TreeLimits.vc  R w) : Calls Try.prog 4 #[] w (Ret R) := by
  refine enter [] Try.func4 rfl Try.ntmps4 rfl ?_
  intro a0 hA0
  unfold law05_TreeLimits.vc at ht0
  refine wp_seq ?_
  refine wp_region_lit ?_
  refine sq (opk_val hA0 rfl (r_assign rfl) fun a1 hA1 _ => ?_)
  refine sq_end ?_
  have hA2 := hA1.keep [] trivial
  refine then_normal ?_
  refine wp_seq ?_
  refine wp_region_lit ?_
  refine sq (opk_val hA2 rfl (r_assign rfl) fun a3 hA3 _ => ?_)
  refine sq_end ?_
  have hA4 := hA3.keep [(1, .func (.func 16) #[] #[])] ⟨rfl, trivial⟩
  refine then_normal ?_
  refine wp_seq ?_
  refine wp_region_lit ?_
  refine sq (opk_val hA4 rfl (r_assign rfl) fun a5 hA5 _ => ?_)
  refine sq_end ?_
  have hA6 := hA5.keep [(1, .func (.func 16) #[] #[]), (2, .func (.func 17) #[] #[])] ⟨rfl, rfl, trivial⟩
  refine then_normal ?_
  refine wp_seq ?_
  refine wp_region_lit ?_
  refine sq (opk_val hA6 rfl (r_move (hA6.get rfl)) fun a7 hA7 _ => ?_)
  refine sq (opk_call hA7 rfl (r_callV (args := #[.int .i64 300]) Try.func16 (by decide) rfl (map_arr (ml_cons rfl ml_nil)) (hA7.get rfl)) ht0 fun a9 v15 w10 hA9 _ hn12 hz13 hK14 => ?_)
  obtain ⟨r_8_Kind, r_8_Name, r_8_Text, r_8_Attrs, r_8_Kids, rfl, ht11⟩ := hK14
  refine sq (opk_call hA9 rfl (r_call (args := #[.agg #[.int .i64 r_8_Kind, .string (Bs r_8_Name), .string (Bs r_8_Text), Sl.v r_8_Attrs, Sl.v r_8_Kids]]) Try.func12 (by decide) rfl (map_arr (ml_cons (hA9.get rfl) ml_nil)) rfl) ht11 fun a17 v23 w18 hA17 _ hn20 hz21 hK22 => ?_)
  obtain ⟨r_16, rfl, ht19⟩ := hK22
  refine sq (opk_val hA17 rfl (r_move (hA17.get rfl)) fun a24 hA24 _ => ?_)
  refine sq (opk_gval hA24 rfl rfl (g := true) (e := r_16) rfl (fun hg => r_move (hA24.get rfl)) fun a25 hA25 _ => ?_)
  obtain ⟨V_30, hc31, ht29⟩ := ht19
  refine sq (opk_gcallM hA25 rfl rfl (g := true) (e := r_16) rfl (fun hg => r_callV (args := #[.int .i64 301]) Try.func16 (by decide) rfl (map_arr (ml_cons rfl ml_nil)) (cv_get (hA25.get rfl) hg)) (fun hg => hc31 (g_t hg)) fun a27 v34 w28 hA27 _ hE32 hR33 => ?_)
  obtain ⟨⟨r_26_Kind, r_26_Name, r_26_Text, r_26_Attrs, r_26_Kids⟩, hx35, hV36⟩ := cvty (α := Int × Str × Str × Sl × Sl) (fun s => .agg #[.int .i64 s.1, .string (Bs s.2.1), .string (Bs s.2.2.1), Sl.v s.2.2.2.1, Sl.v s.2.2.2.2]) (fun s w => V_30 s.1 s.2.1 s.2.2.1 s.2.2.2.1 s.2.2.2.2 w) (fun hg => by obtain ⟨r_26_Kind, r_26_Name, r_26_Text, r_26_Attrs, r_26_Kids, h1, h2⟩ := hR33 hg; exact ⟨(r_26_Kind, r_26_Name, r_26_Text, r_26_Attrs, r_26_Kids), h1, h2⟩)
  rw [hx35] at hA27
  have hC37 : Chg [] w18 w28 := hE32
  have ht38 := ht29 r_26_Kind r_26_Name r_26_Text r_26_Attrs r_26_Kids w28 hE32 (fun hp => hV36 (g_mkt rfl hp))
  obtain ⟨r_39, hc43, ht42⟩ := ht38
  refine sq (opk_gcall hA27 rfl rfl (g := true) (e := r_16) rfl (fun hg => r_call (args := #[.agg #[.int .i64 r_26_Kind, .string (Bs r_26_Name), .string (Bs r_26_Text), Sl.v r_26_Attrs, Sl.v r_26_Kids]]) Try.func12 (by decide) rfl (map_arr (ml_cons (cv_get (hA27.get rfl) hg) ml_nil)) rfl) (fun hg => hc43 (g_t hg)) fun a40 w41 hA40 _ hE44 => ?_)
  have hC45 : Chg [] w28 w41 := hE44
  have ht46 := ht42 w41 hE44
  refine sq (opk_gval hA40 rfl rfl (g := true) (e := r_16) rfl (fun hg => r_not (cv_get (hA40.get rfl) hg)) fun a47 hA47 _ => ?_)
  refine sq (opk_val hA47 rfl (r_pick_and (g := (true && (r_16 == true))) (hA47.get rfl) (hA47.get rfl) (fun he => g_mkt rfl he)) fun a48 hA48 _ => ?_)
  refine sq (opk_val hA48 rfl (r_move (hA48.get rfl)) fun a49 hA49 _ => ?_)
  refine sq (opk_gval hA49 rfl rfl (g := true) (e := (r_16 && (!r_39))) rfl (fun hg => r_move (hA49.get rfl)) fun a50 hA50 _ => ?_)
  obtain ⟨V_55, hc56, ht54⟩ := ht46
  refine sq (opk_gcallM hA50 rfl rfl (g := true) (e := (r_16 && (!r_39))) rfl (fun hg => r_callV (args := #[.int .i64 60]) Try.func17 (by decide) rfl (map_arr (ml_cons rfl ml_nil)) (cv_get (hA50.get rfl) hg)) (fun hg => hc56 ⟨(b_and_t (g_t hg)).1, (b_not_t (b_and_t (g_t hg)).2)⟩) fun a52 v59 w53 hA52 _ hE57 hR58 => ?_)
  obtain ⟨⟨r_51_Kind, r_51_Name, r_51_Text, r_51_Attrs, r_51_Kids⟩, hx60, hV61⟩ := cvty (α := Int × Str × Str × Sl × Sl) (fun s => .agg #[.int .i64 s.1, .string (Bs s.2.1), .string (Bs s.2.2.1), Sl.v s.2.2.2.1, Sl.v s.2.2.2.2]) (fun s w => V_55 s.1 s.2.1 s.2.2.1 s.2.2.2.1 s.2.2.2.2 w) (fun hg => by obtain ⟨r_51_Kind, r_51_Name, r_51_Text, r_51_Attrs, r_51_Kids, h1, h2⟩ := hR58 hg; exact ⟨(r_51_Kind, r_51_Name, r_51_Text, r_51_Attrs, r_51_Kids), h1, h2⟩)
  rw [hx60] at hA52
  have hC62 : Chg [] w41 w53 := hE57
  have ht63 := ht54 r_51_Kind r_51_Name r_51_Text r_51_Attrs r_51_Kids w53 hE57 (fun hp => hV61 (g_mkt rfl (b_and_mk ⟨hp.1, (b_not_mk hp.2)⟩)))
  obtain ⟨r_64, hc68, ht67⟩ := ht63
  refine sq (opk_gcall hA52 rfl rfl (g := true) (e := (r_16 && (!r_39))) rfl (fun hg => r_call (args := #[.agg #[.int .i64 r_51_Kind, .string (Bs r_51_Name), .string (Bs r_51_Text), Sl.v r_51_Attrs, Sl.v r_51_Kids]]) Try.func12 (by decide) rfl (map_arr (ml_cons (cv_get (hA52.get rfl) hg) ml_nil)) rfl) (fun hg => hc68 ⟨(b_and_t (g_t hg)).1, (b_not_t (b_and_t (g_t hg)).2)⟩) fun a65 w66 hA65 _ hE69 => ?_)
  have hC70 : Chg [] w53 w66 := hE69
  have ht71 := ht67 w66 hE69
  refine sq (opk_val hA65 rfl (r_pick_and (g := (true && ((r_16 && (!r_39)) == true))) (hA65.get rfl) (hA65.get rfl) (fun he => g_mkt rfl he)) fun a72 hA72 _ => ?_)
  refine sq (opk_val hA72 rfl (r_move (hA72.get rfl)) fun a73 hA73 _ => ?_)
  refine sq (opk_gval hA73 rfl rfl (g := true) (e := ((r_16 && (!r_39)) && r_64)) rfl (fun hg => r_move (hA73.get rfl)) fun a74 hA74 _ => ?_)
  obtain ⟨V_79, hc80, ht78⟩ := ht71
  refine sq (opk_gcallM hA74 rfl rfl (g := true) (e := ((r_16 && (!r_39)) && r_64)) rfl (fun hg => r_callV (args := #[.int .i64 61]) Try.func17 (by decide) rfl (map_arr (ml_cons rfl ml_nil)) (cv_get (hA74.get rfl) hg)) (fun hg => hc80 ⟨⟨(b_and_t (b_and_t (g_t hg)).1).1, (b_not_t (b_and_t (b_and_t (g_t hg)).1).2)⟩, (b_and_t (g_t hg)).2⟩) fun a76 v83 w77 hA76 _ hE81 hR82 => ?_)
  obtain ⟨⟨r_75_Kind, r_75_Name, r_75_Text, r_75_Attrs, r_75_Kids⟩, hx84, hV85⟩ := cvty (α := Int × Str × Str × Sl × Sl) (fun s => .agg #[.int .i64 s.1, .string (Bs s.2.1), .string (Bs s.2.2.1), Sl.v s.2.2.2.1, Sl.v s.2.2.2.2]) (fun s w => V_79 s.1 s.2.1 s.2.2.1 s.2.2.2.1 s.2.2.2.2 w) (fun hg => by obtain ⟨r_75_Kind, r_75_Name, r_75_Text, r_75_Attrs, r_75_Kids, h1, h2⟩ := hR82 hg; exact ⟨(r_75_Kind, r_75_Name, r_75_Text, r_75_Attrs, r_75_Kids), h1, h2⟩)
  rw [hx84] at hA76
  have hC86 : Chg [] w66 w77 := hE81
  have ht87 := ht78 r_75_Kind r_75_Name r_75_Text r_75_Attrs r_75_Kids w77 hE81 (fun hp => hV85 (g_mkt rfl (b_and_mk ⟨(b_and_mk ⟨hp.1.1, (b_not_mk hp.1.2)⟩), hp.2⟩)))
  obtain ⟨r_88, hc92, ht91⟩ := ht87
  refine sq (opk_gcall hA76 rfl rfl (g := true) (e := ((r_16 && (!r_39)) && r_64)) rfl (fun hg => r_call (args := #[.agg #[.int .i64 r_75_Kind, .string (Bs r_75_Name), .string (Bs r_75_Text), Sl.v r_75_Attrs, Sl.v r_75_Kids]]) Try.func12 (by decide) rfl (map_arr (ml_cons (cv_get (hA76.get rfl) hg) ml_nil)) rfl) (fun hg => hc92 ⟨⟨(b_and_t (b_and_t (g_t hg)).1).1, (b_not_t (b_and_t (b_and_t (g_t hg)).1).2)⟩, (b_and_t (g_t hg)).2⟩) fun a89 w90 hA89 _ hE93 => ?_)
  have hC94 : Chg [] w77 w90 := hE93
  have ht95 := ht91 w90 hE93
  refine sq (opk_gval hA89 rfl rfl (g := true) (e := ((r_16 && (!r_39)) && r_64)) rfl (fun hg => r_not (cv_get (hA89.get rfl) hg)) fun a96 hA96 _ => ?_)
  refine sq (opk_val hA96 rfl (r_pick_and (g := (true && (((r_16 && (!r_39)) && r_64) == true))) (hA96.get rfl) (hA96.get rfl) (fun he => g_mkt rfl he)) fun a97 hA97 _ => ?_)
  refine sq (opk_val hA97 rfl (r_move (hA97.get rfl)) fun a98 hA98 _ => ?_)
  refine sq (opk_gval hA98 rfl rfl (g := true) (e := (((r_16 && (!r_39)) && r_64) && (!r_88))) rfl (fun hg => r_move (hA98.get rfl)) fun a99 hA99 _ => ?_)
  obtain ⟨V_104, hc105, ht103⟩ := ht95
  refine sq (opk_gcallM hA99 rfl rfl (g := true) (e := (((r_16 && (!r_39)) && r_64) && (!r_88))) rfl (fun hg => r_callV (args := #[.int .i64 20]) Try.func17 (by decide) rfl (map_arr (ml_cons rfl ml_nil)) (cv_get (hA99.get rfl) hg)) (fun hg => hc105 ⟨⟨⟨(b_and_t (b_and_t (b_and_t (g_t hg)).1).1).1, (b_not_t (b_and_t (b_and_t (b_and_t (g_t hg)).1).1).2)⟩, (b_and_t (b_and_t (g_t hg)).1).2⟩, (b_not_t (b_and_t (g_t hg)).2)⟩) fun a101 v108 w102 hA101 _ hE106 hR107 => ?_)
  obtain ⟨⟨r_100_Kind, r_100_Name, r_100_Text, r_100_Attrs, r_100_Kids⟩, hx109, hV110⟩ := cvty (α := Int × Str × Str × Sl × Sl) (fun s => .agg #[.int .i64 s.1, .string (Bs s.2.1), .string (Bs s.2.2.1), Sl.v s.2.2.2.1, Sl.v s.2.2.2.2]) (fun s w => V_104 s.1 s.2.1 s.2.2.1 s.2.2.2.1 s.2.2.2.2 w) (fun hg => by obtain ⟨r_100_Kind, r_100_Name, r_100_Text, r_100_Attrs, r_100_Kids, h1, h2⟩ := hR107 hg; exact ⟨(r_100_Kind, r_100_Name, r_100_Text, r_100_Attrs, r_100_Kids), h1, h2⟩)
  rw [hx109] at hA101
  have hC111 : Chg [] w90 w102 := hE106
  have ht112 := ht103 r_100_Kind r_100_Name r_100_Text r_100_Attrs r_100_Kids w102 hE106 (fun hp => hV110 (g_mkt rfl (b_and_mk ⟨(b_and_mk ⟨(b_and_mk ⟨hp.1.1.1, (b_not_mk hp.1.1.2)⟩), hp.1.2⟩), (b_not_mk hp.2)⟩)))
  obtain ⟨r_113, hc117, ht116⟩ := ht112
  refine sq (opk_gcall hA101 rfl rfl (g := true) (e := (((r_16 && (!r_39)) && r_64) && (!r_88))) rfl (fun hg => r_call (args := #[.agg #[.int .i64 r_100_Kind, .string (Bs r_100_Name), .string (Bs r_100_Text), Sl.v r_100_Attrs, Sl.v r_100_Kids]]) Try.func18 (by decide) rfl (map_arr (ml_cons (cv_get (hA101.get rfl) hg) ml_nil)) rfl) (fun hg => hc117 ⟨⟨⟨(b_and_t (b_and_t (b_and_t (g_t hg)).1).1).1, (b_not_t (b_and_t (b_and_t (b_and_t (g_t hg)).1).1).2)⟩, (b_and_t (b_and_t (g_t hg)).1).2⟩, (b_not_t (b_and_t (g_t hg)).2)⟩) fun a114 w115 hA114 _ hE118 => ?_)
  have hC119 : Chg [] w102 w115 := hE118
  have ht120 := ht116 w115 hE118
  refine sq (opk_gval hA114 rfl rfl (g := true) (e := (((r_16 && (!r_39)) && r_64) && (!r_88))) rfl (fun hg => r_eql (cv_get (hA114.get rfl) hg) rfl) fun a121 hA121 _ => ?_)
  refine sq (opk_val hA121 rfl (r_pick_and (g := (true && ((((r_16 && (!r_39)) && r_64) && (!r_88)) == true))) (hA121.get rfl) (hA121.get rfl) (fun he => g_mkt rfl he)) fun a122 hA122 _ => ?_)
  refine sq (opk_val hA122 rfl (r_move (hA122.get rfl)) fun a123 hA123 _ => ?_)
  obtain ⟨r_124, hc128, ht127⟩ := ht120
  refine sq (opk_gcall hA123 rfl rfl (g := true) (e := ((((r_16 && (!r_39)) && r_64) && (!r_88)) && (decide (r_113 = 20)))) rfl (fun hg => r_call (args := #[]) Try.func15 (by decide) rfl (map_arr ml_nil) rfl) (fun hg => hc128 ⟨⟨⟨⟨(b_and_t (b_and_t (b_and_t (b_and_t (g_t hg)).1).1).1).1, (b_not_t (b_and_t (b_and_t (b_and_t (b_and_t (g_t hg)).1).1).1).2)⟩, (b_and_t (b_and_t (b_and_t (g_t hg)).1).1).2⟩, (b_not_t (b_and_t (b_and_t (g_t hg)).1).2)⟩, (of_decide_eq_true (b_and_t (g_t hg)).2)⟩) fun a125 w126 hA125 _ hE129 => ?_)
  have hC130 : Chg [] w115 w126 := hE129
  have ht131 := ht127 w126 hE129
  refine sq (opk_val hA125 rfl (r_pick_and (g := (true && (((((r_16 && (!r_39)) && r_64) && (!r_88)) && (decide (r_113 = 20))) == true))) (hA125.get rfl) (hA125.get rfl) (fun he => g_mkt rfl he)) fun a132 hA132 _ => ?_)
  refine sq (opk_val hA132 rfl (r_assign (hA132.get rfl)) fun a133 hA133 _ => ?_)
  refine sq_end ?_
  have hA134 := hA133.keep [(0, .bool (((((r_16 && (!r_39)) && r_64) && (!r_88)) && (decide (r_113 = 20))) && r_124))] ⟨rfl, trivial⟩
  refine then_normal ?_
  refine wp_ret ?_
  exact res_all (vs := [.bool (((((r_16 && (!r_39)) && r_64) && (!r_88)) && (decide (r_113 = 20))) && r_124)]) rfl hA134 ⟨res_of_tmp hA134 rfl, trivial⟩ ht131

/-- The condition of topiary/topiarylaw05.TreeNames. -/
def law05_TreeNames.vc  (R : Value → World → Prop) (w : World) : Prop :=
CallK Try.prog 19 #[.string (Bs ([97, 98, 99, 100, 101, 102, 103, 104, 105, 106, 107, 108, 109, 110, 111, 112, 113, 114, 115, 116, 117, 118, 119, 120, 121, 122, 48, 49, 50, 51, 52, 53] : Str))] w [] (fun v w8 => ∃ (r_6 : Bool), v = .bool r_6 ∧
(((r_6 = true)) → List.length ([97, 98, 99, 100, 101, 102, 103, 104, 105, 106, 107, 108, 109, 110, 111, 112, 113, 114, 115, 116, 117, 118, 119, 120, 121, 122, 48, 49, 50, 51, 52, 53] : Str) + List.length ([54] : Str) ≤ 9223372036854775807) ∧
∃ (r_20 : Bool), (((r_6 = true)) → Calls Try.prog 19 #[.string (Bs (([97, 98, 99, 100, 101, 102, 103, 104, 105, 106, 107, 108, 109, 110, 111, 112, 113, 114, 115, 116, 117, 118, 119, 120, 121, 122, 48, 49, 50, 51, 52, 53] : Str) ++ ([54] : Str)))] w8 (Ret fun v w' => Ext w8 w' ∧ v = .bool r_20)) ∧
(∀ w22 : World, Ext w8 w22 →
∃ (r_30 : Bool), ((((r_6 = true) ∧ (r_20 = false))) → Calls Try.prog 19 #[.string (Bs ([] : Str))] w22 (Ret fun v w' => Ext w22 w' ∧ v = .bool r_30)) ∧
(∀ w32 : World, Ext w22 w32 →
∃ (r_40 : Bool), (((((r_6 = true) ∧ (r_20 = false)) ∧ (r_30 = false))) → Calls Try.prog 19 #[.string (Bs ([195, 169, 45, 95, 58, 46, 38, 59] : Str))] w32 (Ret fun v w' => Ext w32 w' ∧ v = .bool r_40)) ∧
(∀ w42 : World, Ext w32 w42 →
(((((r_6 = false) ∨ (r_20 = true)) ∨ (r_30 = true)) ∨ (r_40 = false)) →
R (.bool false) w42) ∧
(((((r_6 = true) ∧ (r_20 = false)) ∧ (r_30 = false)) ∧ (r_40 = true)) →
∃ (J_59 : Int → World → Prop) (mu_60 : Int → World → Nat),
J_59 0 w42 ∧
(∀ (c_57 : Int) (w58 : World), J_59 c_57 w58 →
((c_57 < 128) →
∀ (w224 : World) (B_223 : Nat), New w58 B_223 w224 → Chg [] w58 w224 →
∀ (_ : Box w224 B_223 5 [.int .u8 (IntKind.u8.wrap c_57)]),
∃ s_233 : Str, ((convert 39 9 (Sl.v (Sl.mk (some ⟨B_223, 0, none⟩) 1 1))).run Try.prog w224 = .ok (.string (Bs s_233)) w224) ∧
(List.length ([120] : Str) + List.length s_233 ≤ 9223372036854775807) ∧
CallK Try.prog 19 #[.string (Bs (([120] : Str) ++ s_233))] w224 [] (fun v w242 => ∃ (r_240 : Bool), v = .bool r_240 ∧
(((r_240 == ((((((((((((decide (c_57 = 0)) || (decide (c_57 = 9))) || (decide (c_57 = 10))) || (decide (c_57 = 12))) || (decide (c_57 = 32))) || (decide (c_57 = 34))) || (decide (c_57 = 39))) || (decide (c_57 = 62))) || (decide (c_57 = 47))) || (decide (c_57 = 61))) || (decide (c_57 = 60))) || ((decide (65 ≤ c_57)) && (decide (c_57 ≤ 90))))) = true) →
R (.bool false) w242) ∧
(((r_240 == ((((((((((((decide (c_57 = 0)) || (decide (c_57 = 9))) || (decide (c_57 = 10))) || (decide (c_57 = 12))) || (decide (c_57 = 32))) || (decide (c_57 = 34))) || (decide (c_57 = 39))) || (decide (c_57 = 62))) || (decide (c_57 = 47))) || (decide (c_57 = 61))) || (decide (c_57 = 60))) || ((decide (65 ≤ c_57)) && (decide (c_57 ≤ 90))))) = false) →
(I64 (c_57 + 1)) ∧
J_59 (c_57 + 1) w242 ∧ mu_60 (c_57 + 1) w242 < mu_60 c_57 w58))) ∧
((¬ (c_57 < 128)) →
CallK Try.prog 15 #[] w58 [] (fun v w265 => ∃ (r_263 : Bool), v = .bool r_263 ∧
R (.bool r_263) w265))))))))
set_option maxHeartbeats 1000000 in
set_option maxRecDepth 10000 in
theorem law05_TreeNames.ok  {R : Value → World → Prop} {w : World} (ht0 : law05_TreeNames.vc  R w) : Calls Try.prog 5 #[] w (Ret R) := by
  refine enter [] Try.func5 rfl Try.ntmps5 rfl ?_
  intro a0 hA0
  unfold law05_TreeNames.vc at ht0
  refine wp_seq ?_
  refine wp_region_lit ?_
  refine sq (opk_val hA0 rfl (r_assign rfl) fun a1 hA1 _ => ?_)
  refine sq_end ?_
  have hA2 := hA1.keep [] trivial
  refine then_normal ?_
  refine wp_seq ?_
  refine wp_region_lit ?_
  refine sq (opk_val hA2 rfl (r_assign rfl) fun a3 hA3 _ => ?_)
  refine sq_end ?_
  have hA4 := hA3.keep [(1, .string (Bs ([97, 98, 99, 100, 101, 102, 103, 104, 105, 106, 107, 108, 109, 110, 111, 112, 113, 114, 115, 116, 117, 118, 119, 120, 121, 122, 48, 49, 50, 51, 52, 53] : Str)))] ⟨rfl, trivial⟩
  refine then_normal ?_
  refine wp_seq ?_
  refine wp_seq ?_
  refine wp_region_lit ?_
  refine sq (opk_val hA4 rfl (r_move (hA4.get rfl)) fun a5 hA5 _ => ?_)
  refine sq (opk_call hA5 rfl (r_call (args := #[.string (Bs ([97, 98, 99, 100, 101, 102, 103, 104, 105, 106, 107, 108, 109, 110, 111, 112, 113, 114, 115, 116, 117, 118, 119, 120, 121, 122, 48, 49, 50, 51, 52, 53] : Str))]) Try.func19 (by decide) rfl (map_arr (ml_cons (hA5.get rfl) ml_nil)) rfl) ht0 fun a7 v13 w8 hA7 _ hn10 hz11 hK12 => ?_)
  obtain ⟨r_6, rfl, ht9⟩ := hK12
  refine sq (opk_val hA7 rfl (r_not (hA7.get rfl)) fun a14 hA14 _ => ?_)
  refine sq (opk_val hA14 rfl (r_move (hA14.get rfl)) fun a15 hA15 _ => ?_)
  refine sq (opk_gval hA15 rfl rfl (g := true) (e := (!r_6)) rfl (fun hg => r_move (hA15.get rfl)) fun a16 hA16 _ => ?_)
  obtain ⟨hS18, ht19⟩ := ht9
  refine sq (opk_gval hA16 rfl rfl (g := true) (e := (!r_6)) rfl (fun hg => r_sadd (cv_get (hA16.get rfl) hg) rfl (hS18 (b_not_f (g_f hg)))) fun a17 hA17 _ => ?_)
  obtain ⟨r_20, hc24, ht23⟩ := ht19
  refine sq (opk_gcall hA17 rfl rfl (g := true) (e := (!r_6)) rfl (fun hg => r_call (args := #[.string (Bs (([97, 98, 99, 100, 101, 102, 103, 104, 105, 106, 107, 108, 109, 110, 111, 112, 113, 114, 115, 116, 117, 118, 119, 120, 121, 122, 48, 49, 50, 51, 52, 53] : Str) ++ ([54] : Str)))]) Try.func19 (by decide) rfl (map_arr (ml_cons (cv_get (hA17.get rfl) hg) ml_nil)) rfl) (fun hg => hc24 (b_not_f (g_f hg))) fun a21 w22 hA21 _ hE25 => ?_)
  have hC26 : Chg [] w8 w22 := hE25
  have ht27 := ht23 w22 hE25
  refine sq (opk_val hA21 rfl (r_pick_or (g := (true && ((!r_6) == false))) (hA21.get rfl) (hA21.get rfl) (fun he => g_mkf rfl he)) fun a28 hA28 _ => ?_)
  refine sq (opk_val hA28 rfl (r_move (hA28.get rfl)) fun a29 hA29 _ => ?_)
  obtain ⟨r_30, hc34, ht33⟩ := ht27
  refine sq (opk_gcall hA29 rfl rfl (g := true) (e := ((!r_6) || r_20)) rfl (fun hg => r_call (args := #[.string (Bs ([] : Str))]) Try.func19 (by decide) rfl (map_arr (ml_cons rfl ml_nil)) rfl) (fun hg => hc34 ⟨(b_not_f (b_or_f (g_f hg)).1), (b_or_f (g_f hg)).2⟩) fun a31 w32 hA31 _ hE35 => ?_)
  have hC36 : Chg [] w22 w32 := hE35
  have ht37 := ht33 w32 hE35
  refine sq (opk_val hA31 rfl (r_pick_or (g := (true && (((!r_6) || r_20) == false))) (hA31.get rfl) (hA31.get rfl) (fun he => g_mkf rfl he)) fun a38 hA38 _ => ?_)
  refine sq (opk_val hA38 rfl (r_move (hA38.get rfl)) fun a39 hA39 _ => ?_)
  obtain ⟨r_40, hc44, ht43⟩ := ht37
  refine sq (opk_gcall hA39 rfl rfl (g := true) (e := (((!r_6) || r_20) || r_30)) rfl (fun hg => r_call (args := #[.string (Bs ([195, 169, 45, 95, 58, 46, 38, 59] : Str))]) Try.func19 (by decide) rfl (map_arr (ml_cons rfl ml_nil)) rfl) (fun hg => hc44 ⟨⟨(b_not_f (b_or_f (b_or_f (g_f hg)).1).1), (b_or_f (b_or_f (g_f hg)).1).2⟩, (b_or_f (g_f hg)).2⟩) fun a41 w42 hA41 _ hE45 => ?_)
  have hC46 : Chg [] w32 w42 := hE45
  have ht47 := ht43 w42 hE45
  refine sq (opk_gval hA41 rfl rfl (g := true) (e := (((!r_6) || r_20) || r_30)) rfl (fun hg => r_not (cv_get (hA41.get rfl) hg)) fun a48 hA48 _ => ?_)
  refine sq (opk_val hA48 rfl (r_pick_or (g := (true && ((((!r_6) || r_20) || r_30) == false))) (hA48.get rfl) (hA48.get rfl) (fun he => g_mkf rfl he)) fun a49 hA49 _ => ?_)
  refine sq_end ?_
  have hA50 := hA49.keep [(18, .bool ((((!r_6) || r_20) || r_30) || (!r_40)))] ⟨rfl, trivial⟩
  refine then_normal ?_
  refine wp_cond_split (hA50.get rfl) (fun hc => ?_) (fun hc => ?_)
  · have ht51 := ht47.1 ((b_or_t hc).imp (fun h => ((b_or_t h).imp (fun h => ((b_or_t h).imp (fun h => (b_not_t h)) (fun h => h))) (fun h => h))) (fun h => (b_not_t h)))
    clear hc
    refine wp_seq ?_
    refine wp_region_lit ?_
    refine sq (opk_val hA50 rfl (r_assign rfl) fun a53 hA53 _ => ?_)
    refine sq_end ?_
    have hA54 := hA53.keep [(0, .bool false)] ⟨rfl, trivial⟩
    refine then_normal ?_
    refine wp_ret ?_
    refine then_ret ?_
    exact res_all (vs := [.bool false]) rfl hA54 ⟨res_of_tmp hA54 rfl, trivial⟩ ht51
  · have ht52 := ht47.2 ⟨⟨⟨(b_not_f (b_or_f (b_or_f (b_or_f hc).1).1).1), (b_or_f (b_or_f (b_or_f hc).1).1).2⟩, (b_or_f (b_or_f hc).1).2⟩, (b_not_f (b_or_f hc).2)⟩
    clear hc
    refine wp_skip ?_
    refine then_normal ?_
    refine wp_seq ?_
    refine wp_seq ?_
    refine wp_region_lit ?_
    refine sq (opk_val hA50 rfl (r_assign rfl) fun a55 hA55 _ => ?_)
    refine sq_end ?_
    have hA56 := hA55.keep [(2, .int .i64 0)] ⟨rfl, trivial⟩
    refine then_normal ?_
    refine wp_block ?_
    obtain ⟨J_59, mu_60, h0161, ht160⟩ := ht52
    refine wp_loop_st (σ := Int × World) (fun s a w => Ag 82 a [(2, .int .i64 s.1)] ∧ w = s.2 ∧ J_59 s.1 s.2) (fun s => mu_60 s.1 s.2) (0, w42) ⟨hA56.keep [(2, .int .i64 0)] ⟨rfl, trivial⟩, rfl, h0161⟩ ?_
    rintro ⟨c_57, w58⟩ a159 w_ ⟨hA159, hw_, hJ163⟩
    have hw_ : w58 = w_ := hw_.symm
    subst hw_
    have ht162 := ht160 c_57 _ hJ163
    refine wp_seq ?_
    refine wp_seq ?_
    refine wp_region_lit ?_
    refine sq (opk_val hA159 rfl (r_move (hA159.get rfl)) fun a164 hA164 _ => ?_)
    refine sq (opk_val hA164 rfl (r_lss (hA164.get rfl) rfl) fun a165 hA165 _ => ?_)
    refine sq_end ?_
    have hA166 := hA165.keep [(2, .int .i64 c_57), (20, .bool (decide (c_57 < 128)))] ⟨rfl, rfl, trivial⟩
    refine then_normal ?_
    refine wp_cond_split (hA166.get rfl) (fun hc => ?_) (fun hc => ?_)
    · have ht167 := ht162.1 (of_decide_eq_true hc)
      clear hc
      refine wp_skip ?_
      refine then_normal ?_
      refine wp_seq ?_
      refine wp_block ?_
      refine wp_seq ?_
      refine wp_region_lit ?_
      refine sq (opk_val hA166 rfl (r_move (hA166.get rfl)) fun a169 hA169 _ => ?_)
      refine sq (opk_val hA169 rfl (r_eql (hA169.get rfl) rfl) fun a170 hA170 _ => ?_)
      refine sq (opk_val hA170 rfl (r_move (hA170.get rfl)) fun a171 hA171 _ => ?_)
      refine sq (opk_gval hA171 rfl rfl (g := true) (e := (decide (c_57 = 0))) rfl (fun hg => r_move (hA171.get rfl)) fun a172 hA172 _ => ?_)
      refine sq (opk_gval hA172 rfl rfl (g := true) (e := (decide (c_57 = 0))) rfl (fun hg => r_eql (cv_get (hA172.get rfl) hg) rfl) fun a173 hA173 _ => ?_)
      refine sq (opk_val hA173 rfl (r_pick_or (g := (true && ((decide (c_57 = 0)) == false))) (hA173.get rfl) (hA173.get rfl) (fun he => g_mkf rfl he)) fun a174 hA174 _ => ?_)
      refine sq (opk_val hA174 rfl (r_move (hA174.get rfl)) fun a175 hA175 _ => ?_)
      refine sq (opk_gval hA175 rfl rfl (g := true) (e := ((decide (c_57 = 0)) || (decide (c_57 = 9)))) rfl (fun hg => r_move (hA175.get rfl)) fun a176 hA176 _ => ?_)
      refine sq (opk_gval hA176 rfl rfl (g := true) (e := ((decide (c_57 = 0)) || (decide (c_57 = 9)))) rfl (fun hg => r_eql (cv_get (hA176.get rfl) hg) rfl) fun a177 hA177 _ => ?_)
      refine sq (opk_val hA177 rfl (r_pick_or (g := (true && (((decide (c_57 = 0)) || (decide (c_57 = 9))) == false))) (hA177.get rfl) (hA177.get rfl) (fun he => g_mkf rfl he)) fun a178 hA178 _ => ?_)
      refine sq (opk_val hA178 rfl (r_move (hA178.get rfl)) fun a179 hA179 _ => ?_)
      refine sq (opk_gval hA179 rfl rfl (g := true) (e := (((decide (c_57 = 0)) || (decide (c_57 = 9))) || (decide (c_57 = 10)))) rfl (fun hg => r_move (hA179.get rfl)) fun a180 hA180 _ => ?_)
      refine sq (opk_gval hA180 rfl rfl (g := true) (e := (((decide (c_57 = 0)) || (decide (c_57 = 9))) || (decide (c_57 = 10)))) rfl (fun hg => r_eql (cv_get (hA180.get rfl) hg) rfl) fun a181 hA181 _ => ?_)
      refine sq (opk_val hA181 rfl (r_pick_or (g := (true && ((((decide (c_57 = 0)) || (decide (c_57 = 9))) || (decide (c_57 = 10))) == false))) (hA181.get rfl) (hA181.get rfl) (fun he => g_mkf rfl he)) fun a182 hA182 _ => ?_)
      refine sq (opk_val hA182 rfl (r_move (hA182.get rfl)) fun a183 hA183 _ => ?_)
      refine sq (opk_gval hA183 rfl rfl (g := true) (e := ((((decide (c_57 = 0)) || (decide (c_57 = 9))) || (decide (c_57 = 10))) || (decide (c_57 = 12)))) rfl (fun hg => r_move (hA183.get rfl)) fun a184 hA184 _ => ?_)
      refine sq (opk_gval hA184 rfl rfl (g := true) (e := ((((decide (c_57 = 0)) || (decide (c_57 = 9))) || (decide (c_57 = 10))) || (decide (c_57 = 12)))) rfl (fun hg => r_eql (cv_get (hA184.get rfl) hg) rfl) fun a185 hA185 _ => ?_)
      refine sq (opk_val hA185 rfl (r_pick_or (g := (true && (((((decide (c_57 = 0)) || (decide (c_57 = 9))) || (decide (c_57 = 10))) || (decide (c_57 = 12))) == false))) (hA185.get rfl) (hA185.get rfl) (fun he => g_mkf rfl he)) fun a186 hA186 _ => ?_)
      refine sq (opk_val hA186 rfl (r_move (hA186.get rfl)) fun a187 hA187 _ => ?_)
      refine sq (opk_gval hA187 rfl rfl (g := true) (e := (((((decide (c_57 = 0)) || (decide (c_57 = 9))) || (decide (c_57 = 10))) || (decide (c_57 = 12))) || (decide (c_57 = 32)))) rfl (fun hg => r_move (hA187.get rfl)) fun a188 hA188 _ => ?_)
      refine sq (opk_gval hA188 rfl rfl (g := true) (e := (((((decide (c_57 = 0)) || (decide (c_57 = 9))) || (decide (c_57 = 10))) || (decide (c_57 = 12))) || (decide (c_57 = 32)))) rfl (fun hg => r_eql (cv_get (hA188.get rfl) hg) rfl) fun a189 hA189 _ => ?_)
      refine sq (opk_val hA189 rfl (r_pick_or (g := (true && ((((((decide (c_57 = 0)) || (decide (c_57 = 9))) || (decide (c_57 = 10))) || (decide (c_57 = 12))) || (decide (c_57 = 32))) == false))) (hA189.get rfl) (hA189.get rfl) (fun he => g_mkf rfl he)) fun a190 hA190 _ => ?_)
      refine sq (opk_val hA190 rfl (r_move (hA190.get rfl)) fun a191 hA191 _ => ?_)
      refine sq (opk_gval hA191 rfl rfl (g := true) (e := ((((((decide (c_57 = 0)) || (decide (c_57 = 9))) || (decide (c_57 = 10))) || (decide (c_57 = 12))) || (decide (c_57 = 32))) || (decide (c_57 = 34)))) rfl (fun hg => r_move (hA191.get rfl)) fun a192 hA192 _ => ?_)
      refine sq (opk_gval hA192 rfl rfl (g := true) (e := ((((((decide (c_57 = 0)) || (decide (c_57 = 9))) || (decide (c_57 = 10))) || (decide (c_57 = 12))) || (decide (c_57 = 32))) || (decide (c_57 = 34)))) rfl (fun hg => r_eql (cv_get (hA192.get rfl) hg) rfl) fun a193 hA193 _ => ?_)
      refine sq (opk_val hA193 rfl (r_pick_or (g := (true && (((((((decide (c_57 = 0)) || (decide (c_57 = 9))) || (decide (c_57 = 10))) || (decide (c_57 = 12))) || (decide (c_57 = 32))) || (decide (c_57 = 34))) == false))) (hA193.get rfl) (hA193.get rfl) (fun he => g_mkf rfl he)) fun a194 hA194 _ => ?_)
      refine sq (opk_val hA194 rfl (r_move (hA194.get rfl)) fun a195 hA195 _ => ?_)
      refine sq (opk_gval hA195 rfl rfl (g := true) (e := (((((((decide (c_57 = 0)) || (decide (c_57 = 9))) || (decide (c_57 = 10))) || (decide (c_57 = 12))) || (decide (c_57 = 32))) || (decide (c_57 = 34))) || (decide (c_57 = 39)))) rfl (fun hg => r_move (hA195.get rfl)) fun a196 hA196 _ => ?_)
      refine sq (opk_gval hA196 rfl rfl (g := true) (e := (((((((decide (c_57 = 0)) || (decide (c_57 = 9))) || (decide (c_57 = 10))) || (decide (c_57 = 12))) || (decide (c_57 = 32))) || (decide (c_57 = 34))) || (decide (c_57 = 39)))) rfl (fun hg => r_eql (cv_get (hA196.get rfl) hg) rfl) fun a197 hA197 _ => ?_)
      refine sq (opk_val hA197 rfl (r_pick_or (g := (true && ((((((((decide (c_57 = 0)) || (decide (c_57 = 9))) || (decide (c_57 = 10))) || (decide (c_57 = 12))) || (decide (c_57 = 32))) || (decide (c_57 = 34))) || (decide (c_57 = 39))) == false))) (hA197.get rfl) (hA197.get rfl) (fun he => g_mkf rfl he)) fun a198 hA198 _ => ?_)
      refine sq (opk_val hA198 rfl (r_move (hA198.get rfl)) fun a199 hA199 _ => ?_)
      refine sq (opk_gval hA199 rfl rfl (g := true) (e := ((((((((decide (c_57 = 0)) || (decide (c_57 = 9))) || (decide (c_57 = 10))) || (decide (c_57 = 12))) || (decide (c_57 = 32))) || (decide (c_57 = 34))) || (decide (c_57 = 39))) || (decide (c_57 = 62)))) rfl (fun hg => r_move (hA199.get rfl)) fun a200 hA200 _ => ?_)
      refine sq (opk_gval hA200 rfl rfl (g := true) (e := ((((((((decide (c_57 = 0)) || (decide (c_57 = 9))) || (decide (c_57 = 10))) || (decide (c_57 = 12))) || (decide (c_57 = 32))) || (decide (c_57 = 34))) || (decide (c_57 = 39))) || (decide (c_57 = 62)))) rfl (fun hg => r_eql (cv_get (hA200.get rfl) hg) rfl) fun a201 hA201 _ => ?_)
      refine sq (opk_val hA201 rfl (r_pick_or (g := (true && (((((((((decide (c_57 = 0)) || (decide (c_57 = 9))) || (decide (c_57 = 10))) || (decide (c_57 = 12))) || (decide (c_57 = 32))) || (decide (c_57 = 34))) || (decide (c_57 = 39))) || (decide (c_57 = 62))) == false))) (hA201.get rfl) (hA201.get rfl) (fun he => g_mkf rfl he)) fun a202 hA202 _ => ?_)
      refine sq (opk_val hA202 rfl (r_move (hA202.get rfl)) fun a203 hA203 _ => ?_)
      refine sq (opk_gval hA203 rfl rfl (g := true) (e := (((((((((decide (c_57 = 0)) || (decide (c_57 = 9))) || (decide (c_57 = 10))) || (decide (c_57 = 12))) || (decide (c_57 = 32))) || (decide (c_57 = 34))) || (decide (c_57 = 39))) || (decide (c_57 = 62))) || (decide (c_57 = 47)))) rfl (fun hg => r_move (hA203.get rfl)) fun a204 hA204 _ => ?_)
      refine sq (opk_gval hA204 rfl rfl (g := true) (e := (((((((((decide (c_57 = 0)) || (decide (c_57 = 9))) || (decide (c_57 = 10))) || (decide (c_57 = 12))) || (decide (c_57 = 32))) || (decide (c_57 = 34))) || (decide (c_57 = 39))) || (decide (c_57 = 62))) || (decide (c_57 = 47)))) rfl (fun hg => r_eql (cv_get (hA204.get rfl) hg) rfl) fun a205 hA205 _ => ?_)
      refine sq (opk_val hA205 rfl (r_pick_or (g := (true && ((((((((((decide (c_57 = 0)) || (decide (c_57 = 9))) || (decide (c_57 = 10))) || (decide (c_57 = 12))) || (decide (c_57 = 32))) || (decide (c_57 = 34))) || (decide (c_57 = 39))) || (decide (c_57 = 62))) || (decide (c_57 = 47))) == false))) (hA205.get rfl) (hA205.get rfl) (fun he => g_mkf rfl he)) fun a206 hA206 _ => ?_)
      refine sq (opk_val hA206 rfl (r_move (hA206.get rfl)) fun a207 hA207 _ => ?_)
      refine sq (opk_gval hA207 rfl rfl (g := true) (e := ((((((((((decide (c_57 = 0)) || (decide (c_57 = 9))) || (decide (c_57 = 10))) || (decide (c_57 = 12))) || (decide (c_57 = 32))) || (decide (c_57 = 34))) || (decide (c_57 = 39))) || (decide (c_57 = 62))) || (decide (c_57 = 47))) || (decide (c_57 = 61)))) rfl (fun hg => r_move (hA207.get rfl)) fun a208 hA208 _ => ?_)
      refine sq (opk_gval hA208 rfl rfl (g := true) (e := ((((((((((decide (c_57 = 0)) || (decide (c_57 = 9))) || (decide (c_57 = 10))) || (decide (c_57 = 12))) || (decide (c_57 = 32))) || (decide (c_57 = 34))) || (decide (c_57 = 39))) || (decide (c_57 = 62))) || (decide (c_57 = 47))) || (decide (c_57 = 61)))) rfl (fun hg => r_eql (cv_get (hA208.get rfl) hg) rfl) fun a209 hA209 _ => ?_)
      refine sq (opk_val hA209 rfl (r_pick_or (g := (true && (((((((((((decide (c_57 = 0)) || (decide (c_57 = 9))) || (decide (c_57 = 10))) || (decide (c_57 = 12))) || (decide (c_57 = 32))) || (decide (c_57 = 34))) || (decide (c_57 = 39))) || (decide (c_57 = 62))) || (decide (c_57 = 47))) || (decide (c_57 = 61))) == false))) (hA209.get rfl) (hA209.get rfl) (fun he => g_mkf rfl he)) fun a210 hA210 _ => ?_)
      refine sq (opk_val hA210 rfl (r_move (hA210.get rfl)) fun a211 hA211 _ => ?_)
      refine sq (opk_gval hA211 rfl rfl (g := true) (e := (((((((((((decide (c_57 = 0)) || (decide (c_57 = 9))) || (decide (c_57 = 10))) || (decide (c_57 = 12))) || (decide (c_57 = 32))) || (decide (c_57 = 34))) || (decide (c_57 = 39))) || (decide (c_57 = 62))) || (decide (c_57 = 47))) || (decide (c_57 = 61))) || (decide (c_57 = 60)))) rfl (fun hg => r_move (hA211.get rfl)) fun a212 hA212 _ => ?_)
      refine sq (opk_gval hA212 rfl rfl (g := true) (e := (((((((((((decide (c_57 = 0)) || (decide (c_57 = 9))) || (decide (c_57 = 10))) || (decide (c_57 = 12))) || (decide (c_57 = 32))) || (decide (c_57 = 34))) || (decide (c_57 = 39))) || (decide (c_57 = 62))) || (decide (c_57 = 47))) || (decide (c_57 = 61))) || (decide (c_57 = 60)))) rfl (fun hg => r_geq (cv_get (hA212.get rfl) hg) rfl) fun a213 hA213 _ => ?_)
      refine sq (opk_gval hA213 rfl rfl (g := true) (e := (((((((((((decide (c_57 = 0)) || (decide (c_57 = 9))) || (decide (c_57 = 10))) || (decide (c_57 = 12))) || (decide (c_57 = 32))) || (decide (c_57 = 34))) || (decide (c_57 = 39))) || (decide (c_57 = 62))) || (decide (c_57 = 47))) || (decide (c_57 = 61))) || (decide (c_57 = 60)))) rfl (fun hg => r_move (cv_get (hA213.get rfl) hg)) fun a214 hA214 _ => ?_)
      refine sq (opk_gval hA214 rfl rfl (g := (true && ((((((((((((decide (c_57 = 0)) || (decide (c_57 = 9))) || (decide (c_57 = 10))) || (decide (c_57 = 12))) || (decide (c_57 = 32))) || (decide (c_57 = 34))) || (decide (c_57 = 39))) || (decide (c_57 = 62))) || (decide (c_57 = 47))) || (decide (c_57 = 61))) || (decide (c_57 = 60))) == false))) (e := (decide (65 ≤ c_57))) rfl (fun hg => r_move (hA214.get rfl)) fun a215 hA215 _ => ?_)
      refine sq (opk_gval hA215 rfl rfl (g := (true && ((((((((((((decide (c_57 = 0)) || (decide (c_57 = 9))) || (decide (c_57 = 10))) || (decide (c_57 = 12))) || (decide (c_57 = 32))) || (decide (c_57 = 34))) || (decide (c_57 = 39))) || (decide (c_57 = 62))) || (decide (c_57 = 47))) || (decide (c_57 = 61))) || (decide (c_57 = 60))) == false))) (e := (decide (65 ≤ c_57))) rfl (fun hg => r_leq (cv_get (hA215.get rfl) hg) rfl) fun a216 hA216 _ => ?_)
      refine sq (opk_gval hA216 rfl rfl (g := true) (e := (((((((((((decide (c_57 = 0)) || (decide (c_57 = 9))) || (decide (c_57 = 10))) || (decide (c_57 = 12))) || (decide (c_57 = 32))) || (decide (c_57 = 34))) || (decide (c_57 = 39))) || (decide (c_57 = 62))) || (decide (c_57 = 47))) || (decide (c_57 = 61))) || (decide (c_57 = 60)))) rfl (fun hg => r_pick_and (g := ((true && ((((((((((((decide (c_57 = 0)) || (decide (c_57 = 9))) || (decide (c_57 = 10))) || (decide (c_57 = 12))) || (decide (c_57 = 32))) || (decide (c_57 = 34))) || (decide (c_57 = 39))) || (decide (c_57 = 62))) || (decide (c_57 = 47))) || (decide (c_57 = 61))) || (decide (c_57 = 60))) == false)) && ((decide (65 ≤ c_57)) == true))) (cv_get (hA216.get rfl) hg) (hA216.get rfl) (fun he => g_mkt hg he)) fun a217 hA217 _ => ?_)
      refine sq (opk_val hA217 rfl (r_pick_or (g := (true && ((((((((((((decide (c_57 = 0)) || (decide (c_57 = 9))) || (decide (c_57 = 10))) || (decide (c_57 = 12))) || (decide (c_57 = 32))) || (decide (c_57 = 34))) || (decide (c_57 = 39))) || (decide (c_57 = 62))) || (decide (c_57 = 47))) || (decide (c_57 = 61))) || (decide (c_57 = 60))) == false))) (hA217.get rfl) (hA217.get rfl) (fun he => g_mkf rfl he)) fun a218 hA218 _ => ?_)
      refine sq (opk_val hA218 rfl (r_assign (hA218.get rfl)) fun a219 hA219 _ => ?_)
      refine sq_end ?_
      have hA220 := hA219.keep [(2, .int .i64 c_57), (3, .bool ((((((((((((decide (c_57 = 0)) || (decide (c_57 = 9))) || (decide (c_57 = 10))) || (decide (c_57 = 12))) || (decide (c_57 = 32))) || (decide (c_57 = 34))) || (decide (c_57 = 39))) || (decide (c_57 = 62))) || (decide (c_57 = 47))) || (decide (c_57 = 61))) || (decide (c_57 = 60))) || ((decide (65 ≤ c_57)) && (decide (c_57 ≤ 90)))))] ⟨rfl, rfl, trivial⟩
      refine then_normal ?_
      refine wp_seq ?_
      refine wp_region_lit ?_
      refine sq (opk_val hA220 rfl (r_move (hA220.get rfl)) fun a221 hA221 _ => ?_)
      refine sq (opk_val hA221 rfl (r_conv (hA221.get rfl) rfl Try.underlying5) fun a222 hA222 _ => ?_)
      refine sq (opk_new (fun B => .slice (some ⟨B, 0, none⟩) 1 1) hA222 rfl (r_buildSlice (vs := #[(0, .int .u8 (IntKind.u8.wrap c_57))]) (cs := [.int .u8 (IntKind.u8.wrap c_57)]) (map_arr2 (ml2_cons (hA222.get rfl) (ml2_nil))) Try.underlying39 ti_5 rfl rfl (by kernel_rfl)) fun a225 w224 B_223 hE226 hN227 hB228 hA225 _ => ?_)
      have hN229 : New w58 B_223 w224 := hN227
      have hC230 : Chg [] w58 w224 := hE226
      have ht231 := ht167 w224 B_223 hN229  hC230
      have ht232 := ht231 hB228
      obtain ⟨s_233, hx234, ht235⟩ := ht232
      refine sq (opk_val hA225 rfl (r_convR (hA225.get rfl) hx234) fun a236 hA236 _ => ?_)
      obtain ⟨hS238, ht239⟩ := ht235
      refine sq (opk_val hA236 rfl (r_sadd rfl (hA236.get rfl) hS238) fun a237 hA237 _ => ?_)
      refine sq (opk_call hA237 rfl (r_call (args := #[.string (Bs (([120] : Str) ++ s_233))]) Try.func19 (by decide) rfl (map_arr (ml_cons (hA237.get rfl) ml_nil)) rfl) ht239 fun a241 v247 w242 hA241 _ hn244 hz245 hK246 => ?_)
      obtain ⟨r_240, rfl, ht243⟩ := hK246
      refine sq (opk_val hA241 rfl (r_move (hA241.get rfl)) fun a248 hA248 _ => ?_)
      refine sq (opk_val hA248 rfl (r_beql (hA248.get rfl) (hA248.get rfl) Try.underlying4) fun a249 hA249 _ => ?_)
      refine sq_end ?_
      have hA250 := hA249.keep [(2, .int .i64 c_57), (80, .bool (r_240 == ((((((((((((decide (c_57 = 0)) || (decide (c_57 = 9))) || (decide (c_57 = 10))) || (decide (c_57 = 12))) || (decide (c_57 = 32))) || (decide (c_57 = 34))) || (decide (c_57 = 39))) || (decide (c_57 = 62))) || (decide (c_57 = 47))) || (decide (c_57 = 61))) || (decide (c_57 = 60))) || ((decide (65 ≤ c_57)) && (decide (c_57 ≤ 90))))))] ⟨rfl, rfl, trivial⟩
      refine then_normal ?_
      refine wp_cond_split (hA250.get rfl) (fun hc => ?_) (fun hc => ?_)
      · have ht251 := ht243.1 hc
        clear hc
        refine wp_seq ?_
        refine wp_region_lit ?_
        refine sq (opk_val hA250 rfl (r_assign rfl) fun a253 hA253 _ => ?_)
        refine sq_end ?_
        have hA254 := hA253.keep [(0, .bool false)] ⟨rfl, trivial⟩
        refine then_normal ?_
        refine wp_ret ?_
        refine block_ret ?_
        refine then_ret ?_
        refine then_ret ?_
        refine block_ret ?_
        refine then_ret ?_
        exact res_all (vs := [.bool false]) rfl hA254 ⟨res_of_tmp hA254 rfl, trivial⟩ ht251
      · have ht252 := ht243.2 hc
        clear hc
        refine wp_skip ?_
        refine block_normal ?_
        refine then_normal ?_
        refine wp_region_lit ?_
        refine sq (opk_val hA250 rfl (r_move (hA250.get rfl)) fun a255 hA255 _ => ?_)
        obtain ⟨hS257, ht258⟩ := ht252
        refine sq (opk_val hA255 rfl (r_addI (hA255.get rfl) rfl hS257) fun a256 hA256 _ => ?_)
        refine sq (opk_val hA256 rfl (r_assign (hA256.get rfl)) fun a259 hA259 _ => ?_)
        refine sq_end ?_
        have hA260 := hA259.keep [(2, .int .i64 (c_57 + 1))] ⟨rfl, trivial⟩
        have hA261 := hA260.keep [(2, .int .i64 (c_57 + 1))] ⟨rfl, trivial⟩
        exact then_normal ⟨(c_57 + 1, w242), ⟨hA261, rfl, ht258.1⟩, ht258.2⟩
    · have ht168 := ht162.2 (of_decide_eq_false hc)
      clear hc
      refine wp_exit ?_
      refine then_exit ?_
      refine then_exit ?_
      refine block_hit ?_
      have hA262 := hA166.keep [] trivial
      refine then_normal ?_
      refine wp_seq ?_
      refine wp_region_lit ?_
      refine sq (opk_call hA262 rfl (r_call (args := #[]) Try.func15 (by decide) rfl (map_arr ml_nil) rfl) ht168 fun a264 v270 w265 hA264 _ hn267 hz268 hK269 => ?_)
      obtain ⟨r_263, rfl, ht266⟩ := hK269
      refine sq (opk_val hA264 rfl (r_assign (hA264.get rfl)) fun a271 hA271 _ => ?_)
      refine sq_end ?_
      have hA272 := hA271.keep [(0, .bool r_263)] ⟨rfl, trivial⟩
      refine then_normal ?_
      refine wp_ret ?_
      exact res_all (vs := [.bool r_263]) rfl hA272 ⟨res_of_tmp hA272 rfl, trivial⟩ ht266

/-- The condition of topiary/topiarylaw05.TreeParts. -/
def law05_TreeParts.vc (t_1_Kind : Int) (t_1_Name : Str) (t_1_Text : Str) (t_1_Attrs : Sl) (t_1_Kids : Sl) (R : Value → World → Prop) (w : World) : Prop :=
∀ (w3 : World) (B_2 : Nat), New w B_2 w3 → Chg [] w w3 →
CallK Try.prog 20 #[.agg #[.int .i64 t_1_Kind, .string (Bs t_1_Name), .string (Bs t_1_Text), Sl.v t_1_Attrs, Sl.v t_1_Kids]] w3 [B_2] (fun v w16 => ∃ (r_14 : Bool), v = .bool r_14 ∧
((r_14 = false) →
CallK Try.prog 15 #[] w16 [B_2] (fun v w29 => ∃ (r_27 : Bool), v = .bool r_27 ∧
R (.bool r_27) w29)) ∧
((r_14 = true) →
∀ (w38 : World), Chg [] w16 w38 →
∀ (w47 : World), Chg [] w38 w47 →
∃ (J_67 : Int → Int → Int → Int → World → Prop) (mu_68 : Int → Int → Int → Int → World → Nat),
J_67 1 0 (t_1_Attrs.n : Int) 0 w47 ∧
(∀ (n_62 : Int) (d_63 : Int) (s_64 : Int) (i_65 : Int) (w66 : World), J_67 n_62 d_63 s_64 i_65 w66 →
((i_65 < (t_1_Kids.n : Int)) →
((0 : Int) ≤ i_65 ∧ i_65 < (t_1_Kids.n : Int)) ∧ ∃ p_183 : Addr, t_1_Kids.a = some p_183 ∧
∃ (x_189_Kind : Int) (x_189_Name : Str) (x_189_Text : Str) (x_189_Attrs : Sl) (x_189_Kids : Sl), (Cells w66 (p_183.add (i_65.toNat * 5)) [.int .i64 x_189_Kind, .string (Bs x_189_Name), .string (Bs x_189_Text), Sl.v x_189_Attrs, Sl.v x_189_Kids]) ∧
CallK Try.prog 21 #[.agg #[.int .i64 x_189_Kind, .string (Bs x_189_Name), .string (Bs x_189_Text), Sl.v x_189_Attrs, Sl.v x_189_Kids]] w66 [B_2] (fun v w194 => ∃ (r_192 : Int), v = .int .i64 r_192 ∧
(I64 (n_62 + r_192)) ∧
((0 : Int) ≤ i_65 ∧ i_65 < (t_1_Kids.n : Int)) ∧ ∃ p_210 : Addr, t_1_Kids.a = some p_210 ∧
∃ (x_216_Kind : Int) (x_216_Name : Str) (x_216_Text : Str) (x_216_Attrs : Sl) (x_216_Kids : Sl), (Cells w194 (p_210.add (i_65.toNat * 5)) [.int .i64 x_216_Kind, .string (Bs x_216_Name), .string (Bs x_216_Text), Sl.v x_216_Attrs, Sl.v x_216_Kids]) ∧
CallK Try.prog 18 #[.agg #[.int .i64 x_216_Kind, .string (Bs x_216_Name), .string (Bs x_216_Text), Sl.v x_216_Attrs, Sl.v x_216_Kids]] w194 [B_2] (fun v w221 => ∃ (r_219 : Int), v = .int .i64 r_219 ∧
((0 : Int) ≤ i_65 ∧ i_65 < (t_1_Kids.n : Int)) ∧ ∃ p_235 : Addr, t_1_Kids.a = some p_235 ∧
∃ (x_241_Kind : Int) (x_241_Name : Str) (x_241_Text : Str) (x_241_Attrs : Sl) (x_241_Kids : Sl), (Cells w221 (p_235.add (i_65.toNat * 5)) [.int .i64 x_241_Kind, .string (Bs x_241_Name), .string (Bs x_241_Text), Sl.v x_241_Attrs, Sl.v x_241_Kids]) ∧
CallK Try.prog 22 #[.agg #[.int .i64 x_241_Kind, .string (Bs x_241_Name), .string (Bs x_241_Text), Sl.v x_241_Attrs, Sl.v x_241_Kids]] w221 [B_2] (fun v w246 => ∃ (r_244 : Int), v = .int .i64 r_244 ∧
(I64 (s_64 + r_244)) ∧
(I64 (i_65 + 1)) ∧
J_67 (n_62 + r_192) (max d_63 r_219) (s_64 + r_244) (i_65 + 1) w246 ∧ mu_68 (n_62 + r_192) (max d_63 r_219) (s_64 + r_244) (i_65 + 1) w246 < mu_68 n_62 d_63 s_64 i_65 w66)))) ∧
((¬ (i_65 < (t_1_Kids.n : Int))) →
CallK Try.prog 21 #[.agg #[.int .i64 t_1_Kind, .string (Bs t_1_Name), .string (Bs t_1_Text), Sl.v t_1_Attrs, Sl.v t_1_Kids]] w66 [B_2] (fun v w269 => ∃ (r_267 : Int), v = .int .i64 r_267 ∧
∃ (r_280 : Int), (((r_267 = n_62)) → Calls Try.prog 18 #[.agg #[.int .i64 t_1_Kind, .string (Bs t_1_Name), .string (Bs t_1_Text), Sl.v t_1_Attrs, Sl.v t_1_Kids]] w269 (Ret fun v w' => Ext w269 w' ∧ v = .int .i64 r_280)) ∧
(∀ w282 : World, Ext w269 w282 →
(((r_267 = n_62)) → I64 (d_63 + 1)) ∧
∃ (r_297 : Int), ((((r_267 = n_62) ∧ (r_280 = (d_63 + 1)))) → Calls Try.prog 22 #[.agg #[.int .i64 t_1_Kind, .string (Bs t_1_Name), .string (Bs t_1_Text), Sl.v t_1_Attrs, Sl.v t_1_Kids]] w282 (Ret fun v w' => Ext w282 w' ∧ v = .int .i64 r_297)) ∧
(∀ w299 : World, Ext w282 w299 →
∃ (r_310 : Bool), (((((r_267 = n_62) ∧ (r_280 = (d_63 + 1))) ∧ (r_297 = s_64))) → Calls Try.prog 15 #[] w299 (Ret fun v w' => Ext w299 w' ∧ v = .bool r_310)) ∧
(∀ w312 : World, Ext w299 w312 →
R (.bool ((((decide (r_267 = n_62)) && (decide (r_280 = (d_63 + 1)))) && (decide (r_297 = s_64))) && r_310)) w312))))))))
set_option maxHeartbeats 1000000 in
set_option maxRecDepth 10000 in
theorem law05_TreeParts.ok (t_1_Kind : Int) (t_1_Name : Str) (t_1_Text : Str) (t_1_Attrs : Sl) (t_1_Kids : Sl) {R : Value → World → Prop} {w : World} (ht0 : law05_TreeParts.vc t_1_Kind t_1_Name t_1_Text t_1_Attrs t_1_Kids R w) : Calls Try.prog 6 #[.agg #[.int .i64 t_1_Kind, .string (Bs t_1_Name), .string (Bs t_1_Text), Sl.v t_1_Attrs, Sl.v t_1_Kids]] w (Ret R) := by
  refine enter [.agg #[.int .i64 t_1_Kind, .string (Bs t_1_Name), .string (Bs t_1_Text), Sl.v t_1_Attrs, Sl.v t_1_Kids]] Try.func6 rfl Try.ntmps6 rfl ?_
  intro a0 hA0
  unfold law05_TreeParts.vc at ht0
  refine wp_seq ?_
  refine wp_region_lit ?_
  refine sq (opk_new (fun B => .pointer (some ⟨B, 0, none⟩)) hA0 rfl (r_box (cs := [.int .i64 t_1_Kind, .string (Bs t_1_Name), .string (Bs t_1_Text), Sl.v t_1_Attrs, Sl.v t_1_Kids]) (hA0.get rfl) rfl) fun a4 w3 B_2 hE5 hN6 hB7 hA4 _ => ?_)
  have hN8 : New w B_2 w3 := hN6
  have hC9 : Chg [] w w3 := hE5
  refine sq (opk_val hA4 rfl (r_assign rfl) fun a10 hA10 _ => ?_)
  refine sq_end ?_
  have hA11 := hA10.keep [(1, .pointer (some ⟨B_2, 0, none⟩))] ⟨rfl, trivial⟩
  refine then_normal ?_
  refine wp_seq ?_
  refine wp_seq ?_
  refine wp_region_lit ?_
  refine sq (opk_val hA11 rfl (r_loadN (cs := [.int .i64 t_1_Kind, .string (Bs t_1_Name), .string (Bs t_1_Text), Sl.v t_1_Attrs, Sl.v t_1_Kids]) Try.underlying26 rfl ti_26 (hA11.get rfl) (hB7.part 0 _ rfl)) fun a12 hA12 _ => ?_)
  have ht13 := ht0 w3 B_2 hN8  hC9
  refine sq (opk_call hA12 rfl (r_call (args := #[.agg #[.int .i64 t_1_Kind, .string (Bs t_1_Name), .string (Bs t_1_Text), Sl.v t_1_Attrs, Sl.v t_1_Kids]]) Try.func20 (by decide) rfl (map_arr (ml_cons (hA12.get rfl) ml_nil)) rfl) ht13 fun a15 v21 w16 hA15 _ hn18 hz19 hK20 => ?_)
  obtain ⟨r_14, rfl, ht17⟩ := hK20
  have hB22 := hB7.kept hn18 (.head _)
  refine sq (opk_val hA15 rfl (r_not (hA15.get rfl)) fun a23 hA23 _ => ?_)
  refine sq_end ?_
  have hA24 := hA23.keep [(1, .pointer (some ⟨B_2, 0, none⟩)), (9, .bool (!r_14))] ⟨rfl, rfl, trivial⟩
  refine then_normal ?_
  refine wp_cond_split (hA24.get rfl) (fun hc => ?_) (fun hc => ?_)
  · have ht25 := ht17.1 (b_not_t hc)
    clear hc
    refine wp_seq ?_
    refine wp_region_lit ?_
    refine sq (opk_call hA24 rfl (r_call (args := #[]) Try.func15 (by decide) rfl (map_arr ml_nil) rfl) ht25 fun a28 v34 w29 hA28 _ hn31 hz32 hK33 => ?_)
    obtain ⟨r_27, rfl, ht30⟩ := hK33
    have hB35 := hB22.kept hn31 (.head _)
    refine sq (opk_val hA28 rfl (r_assign (hA28.get rfl)) fun a36 hA36 _ => ?_)
    refine sq_end ?_
    have hA37 := hA36.keep [(2, .bool r_27)] ⟨rfl, trivial⟩
    refine then_normal ?_
    refine wp_ret ?_
    refine then_ret ?_
    exact res_all (vs := [.bool r_27]) rfl hA37 ⟨res_of_tmp hA37 rfl, trivial⟩ ht30
  · have ht26 := ht17.2 (b_not_f hc)
    clear hc
    refine wp_skip ?_
    refine then_normal ?_
    refine wp_seq ?_
    refine draw' (by kernel_rfl) fun w38 hE39 => ?_
    have hB40 := hB22.ext hE39
    have hC41 : Chg [] w16 w38 := hE39
    have ht42 := ht26 w38    hC41
    refine par (D := [[], [0], [0, 1], [], [3], [0, 1, 2, 3, 4]]) (S := [0, 1, 2, 3, 4, 5]) (F := []) (V := VL [(0, fun v _ => v = .pointer (some ⟨B_2, 3, none⟩)), (1, fun v _ => v = Sl.v t_1_Attrs), (2, fun v _ => v = .int .i64 (t_1_Attrs.n : Int)), (3, fun v _ => v = .int .i64 1), (4, fun v _ => v = .int .i64 0), (5, fun v _ => v = .int .i64 (t_1_Attrs.n : Int))]) hA24 (by kernel_rfl) ⟨fun _ _ _ _ h => by first | exact h | (change _ = _ at h; change _ = _; exact h), fun _ _ _ _ h => by first | exact h | (change _ = _ at h; change _ = _; exact h), fun _ _ _ _ h => by first | exact h | (change _ = _ at h; change _ = _; exact h), fun _ _ _ _ h => by first | exact h | (change _ = _ at h; change _ = _; exact h), fun _ _ _ _ h => by first | exact h | (change _ = _ at h; change _ = _; exact h), fun _ _ _ _ h => by first | exact h | (change _ = _ at h; change _ = _; exact h), trivial⟩ ⟨?_, ?_, ?_, ?_, ?_, ?_, trivial⟩ ?_
    · intro a w hT
      have hAp := hT.ag hA24 [(1, .pointer (some ⟨B_2, 0, none⟩))] ⟨rfl, trivial⟩ (by kernel_rfl)
      exact opk_val hAp rfl (r_fieldAddr (hAp.get rfl) Try.underlying26 rfl ti_23 (by decide)) fun _ _ e => ⟨_, e, Chg.refl _ _, fun _ => Eq.refl _⟩
    · intro a w hT
      have hAp := hT.ag hA24 [] trivial (by kernel_rfl)
      have e43 : a.tmps.getD 11 undef = .pointer (some ⟨B_2, 3, none⟩) := hT.vals 0 rfl 11 rfl
      have hAp := hAp.add e43
      exact opk_val hAp rfl (r_load1 Try.underlying23 rfl (hAp.get rfl) ((hB40.ext hT.chg).cell 3 _ rfl)) fun _ _ e => ⟨_, e, Chg.refl _ _, fun _ => Eq.refl _⟩
    · intro a w hT
      have hAp := hT.ag hA24 [] trivial (by kernel_rfl)
      have e44 : a.tmps.getD 12 undef = Sl.v t_1_Attrs := hT.vals 1 rfl 12 rfl
      have hAp := hAp.add e44
      exact opk_val hAp rfl (r_len (hAp.get rfl) Try.underlying23) fun _ _ e => ⟨_, e, Chg.refl _ _, fun _ => Eq.refl _⟩
    · intro a w hT
      have hAp := hT.ag hA24 [] trivial (by kernel_rfl)
      exact opk_val hAp rfl (r_assign rfl) fun _ _ e => ⟨_, e, Chg.refl _ _, fun _ => Eq.refl _⟩
    · intro a w hT
      have hAp := hT.ag hA24 [] trivial (by kernel_rfl)
      exact opk_val hAp rfl (r_assign rfl) fun _ _ e => ⟨_, e, Chg.refl _ _, fun _ => Eq.refl _⟩
    · intro a w hT
      have hAp := hT.ag hA24 [] trivial (by kernel_rfl)
      have e45 : a.tmps.getD 13 undef = .int .i64 (t_1_Attrs.n : Int) := hT.vals 2 rfl 13 rfl
      have hAp := hAp.add e45
      exact opk_val hAp rfl (r_assign (hAp.get rfl)) fun _ _ e => ⟨_, e, Chg.refl _ _, fun _ => Eq.refl _⟩
    · intro a46 w47 hE48 hag49 hv50
      have hA46 := hag49 [(1, .pointer (some ⟨B_2, 0, none⟩))] ⟨rfl, trivial⟩ (by kernel_rfl)
      have e51 : a46.tmps.getD 3 undef = .int .i64 1 := hv50 3 rfl 3 rfl
      have hA52 := hA46.add e51
      have e53 : a46.tmps.getD 4 undef = .int .i64 0 := hv50 4 rfl 4 rfl
      have hA54 := hA52.add e53
      have e55 : a46.tmps.getD 5 undef = .int .i64 (t_1_Attrs.n : Int) := hv50 5 rfl 5 rfl
      have hA56 := hA54.add e55
      have hB57 := hB40.ext hE48
      have hC58 : Chg [] w38 w47 := hE48
      refine PR_end (by kernel_rfl) ?_
      have hA59 := hA56.keep [(1, .pointer (some ⟨B_2, 0, none⟩)), (3, .int .i64 1), (4, .int .i64 0), (5, .int .i64 (t_1_Attrs.n : Int))] ⟨rfl, rfl, rfl, rfl, trivial⟩
      refine then_normal ?_
      refine wp_seq ?_
      refine wp_seq ?_
      refine wp_region_lit ?_
      refine sq (opk_val hA59 rfl (r_assign rfl) fun a60 hA60 _ => ?_)
      refine sq_end ?_
      have hA61 := hA60.keep [(1, .pointer (some ⟨B_2, 0, none⟩)), (3, .int .i64 1), (4, .int .i64 0), (5, .int .i64 (t_1_Attrs.n : Int)), (6, .int .i64 0)] ⟨rfl, rfl, rfl, rfl, rfl, trivial⟩
      refine then_normal ?_
      refine wp_block ?_
      have ht164 := ht42 w47    hC58
      obtain ⟨J_67, mu_68, h0168, ht167⟩ := ht164
      refine wp_loop_st (σ := Int × Int × Int × Int × World) (fun s a w => Ag 65 a [(1, .pointer (some ⟨B_2, 0, none⟩)), (3, .int .i64 s.1), (4, .int .i64 s.2.1), (5, .int .i64 s.2.2.1), (6, .int .i64 s.2.2.2.1)] ∧ Box w B_2 26 [.int .i64 t_1_Kind, .string (Bs t_1_Name), .string (Bs t_1_Text), Sl.v t_1_Attrs, Sl.v t_1_Kids] ∧ w = s.2.2.2.2 ∧ J_67 s.1 s.2.1 s.2.2.1 s.2.2.2.1 s.2.2.2.2) (fun s => mu_68 s.1 s.2.1 s.2.2.1 s.2.2.2.1 s.2.2.2.2) (1, 0, (t_1_Attrs.n : Int), 0, w47) ⟨hA61.keep [(1, .pointer (some ⟨B_2, 0, none⟩)), (3, .int .i64 1), (4, .int .i64 0), (5, .int .i64 (t_1_Attrs.n : Int)), (6, .int .i64 0)] ⟨rfl, rfl, rfl, rfl, rfl, trivial⟩, hB57, rfl, h0168⟩ ?_
      rintro ⟨n_62, d_63, s_64, i_65, w66⟩ a165 w_ ⟨hA165, hB166, hw_, hJ170⟩
      have hw_ : w66 = w_ := hw_.symm
      subst hw_
      have ht169 := ht167 n_62 d_63 s_64 i_65 _ hJ170
      refine wp_seq ?_
      refine wp_seq ?_
      refine wp_region_lit ?_
      refine sq (opk_val hA165 rfl (r_move (hA165.get rfl)) fun a171 hA171 _ => ?_)
      refine sq (opk_val hA171 rfl (r_fieldAddr (hA171.get rfl) Try.underlying26 rfl ti_24 (by decide)) fun a172 hA172 _ => ?_)
      refine sq (opk_val hA172 rfl (r_load1 Try.underlying24 rfl (hA172.get rfl) (hB166.cell 4 _ rfl)) fun a173 hA173 _ => ?_)
      refine sq (opk_val hA173 rfl (r_len (hA173.get rfl) Try.underlying24) fun a174 hA174 _ => ?_)
      refine sq (opk_val hA174 rfl (r_lss (hA174.get rfl) (hA174.get rfl)) fun a175 hA175 _ => ?_)
      refine sq_end ?_
      have hA176 := hA175.keep [(1, .pointer (some ⟨B_2, 0, none⟩)), (3, .int .i64 n_62), (4, .int .i64 d_63), (5, .int .i64 s_64), (6, .int .i64 i_65), (18, .bool (decide (i_65 < (t_1_Kids.n : Int))))] ⟨rfl, rfl, rfl, rfl, rfl, rfl, trivial⟩
      refine then_normal ?_
      refine wp_cond_split (hA176.get rfl) (fun hc => ?_) (fun hc => ?_)
      · have ht177 := ht169.1 (of_decide_eq_true hc)
        clear hc
        refine wp_skip ?_
        refine then_normal ?_
        refine wp_seq ?_
        refine wp_block ?_
        refine wp_seq ?_
        refine wp_region_lit ?_
        refine sq (opk_val hA176 rfl (r_move (hA176.get rfl)) fun a179 hA179 _ => ?_)
        refine sq (opk_val hA179 rfl (r_fieldAddr (hA179.get rfl) Try.underlying26 rfl ti_24 (by decide)) fun a180 hA180 _ => ?_)
        refine sq (opk_val hA180 rfl (r_load1 Try.underlying24 rfl (hA180.get rfl) (hB166.cell 4 _ rfl)) fun a181 hA181 _ => ?_)
        refine sq (opk_val hA181 rfl (r_move (hA181.get rfl)) fun a182 hA182 _ => ?_)
        obtain ⟨hb184, p_183, hp185, ht186⟩ := ht177
        refine sq (opk_val hA182 rfl (r_indexAddr (hA182.get rfl) (hA182.get rfl) Try.underlying24 ti_26 hb184 hp185) fun a187 hA187 _ => ?_)
        obtain ⟨x_189_Kind, x_189_Name, x_189_Text, x_189_Attrs, x_189_Kids, hx190, ht191⟩ := ht186
        refine sq (opk_val hA187 rfl (r_loadN Try.underlying26 rfl ti_26 (hA187.get rfl) hx190) fun a188 hA188 _ => ?_)
        refine sq (opk_call hA188 rfl (r_call (args := #[.agg #[.int .i64 x_189_Kind, .string (Bs x_189_Name), .string (Bs x_189_Text), Sl.v x_189_Attrs, Sl.v x_189_Kids]]) Try.func21 (by decide) rfl (map_arr (ml_cons (hA188.get rfl) ml_nil)) rfl) ht191 fun a193 v199 w194 hA193 _ hn196 hz197 hK198 => ?_)
        obtain ⟨r_192, rfl, ht195⟩ := hK198
        have hB200 := hB166.kept hn196 (.head _)
        obtain ⟨hS202, ht203⟩ := ht195
        refine sq (opk_val hA193 rfl (r_addI (hA193.get rfl) (hA193.get rfl) hS202) fun a201 hA201 _ => ?_)
        refine sq (opk_val hA201 rfl (r_assign (hA201.get rfl)) fun a204 hA204 _ => ?_)
        refine sq_end ?_
        have hA205 := hA204.keep [(1, .pointer (some ⟨B_2, 0, none⟩)), (3, .int .i64 (n_62 + r_192)), (4, .int .i64 d_63), (5, .int .i64 s_64), (6, .int .i64 i_65)] ⟨rfl, rfl, rfl, rfl, rfl, trivial⟩
        refine then_normal ?_
        refine wp_seq ?_
        refine wp_region_lit ?_
        refine sq (opk_val hA205 rfl (r_move (hA205.get rfl)) fun a206 hA206 _ => ?_)
        refine sq (opk_val hA206 rfl (r_fieldAddr (hA206.get rfl) Try.underlying26 rfl ti_24 (by decide)) fun a207 hA207 _ => ?_)
        refine sq (opk_val hA207 rfl (r_load1 Try.underlying24 rfl (hA207.get rfl) (hB200.cell 4 _ rfl)) fun a208 hA208 _ => ?_)
        refine sq (opk_val hA208 rfl (r_move (hA208.get rfl)) fun a209 hA209 _ => ?_)
        obtain ⟨hb211, p_210, hp212, ht213⟩ := ht203
        refine sq (opk_val hA209 rfl (r_indexAddr (hA209.get rfl) (hA209.get rfl) Try.underlying24 ti_26 hb211 hp212) fun a214 hA214 _ => ?_)
        obtain ⟨x_216_Kind, x_216_Name, x_216_Text, x_216_Attrs, x_216_Kids, hx217, ht218⟩ := ht213
        refine sq (opk_val hA214 rfl (r_loadN Try.underlying26 rfl ti_26 (hA214.get rfl) hx217) fun a215 hA215 _ => ?_)
        refine sq (opk_call hA215 rfl (r_call (args := #[.agg #[.int .i64 x_216_Kind, .string (Bs x_216_Name), .string (Bs x_216_Text), Sl.v x_216_Attrs, Sl.v x_216_Kids]]) Try.func18 (by decide) rfl (map_arr (ml_cons (hA215.get rfl) ml_nil)) rfl) ht218 fun a220 v226 w221 hA220 _ hn223 hz224 hK225 => ?_)
        obtain ⟨r_219, rfl, ht222⟩ := hK225
        have hB227 := hB200.kept hn223 (.head _)
        refine sq (opk_val hA220 rfl (r_max (hA220.get rfl) (hA220.get rfl)) fun a228 hA228 _ => ?_)
        refine sq (opk_val hA228 rfl (r_assign (hA228.get rfl)) fun a229 hA229 _ => ?_)
        refine sq_end ?_
        have hA230 := hA229.keep [(1, .pointer (some ⟨B_2, 0, none⟩)), (3, .int .i64 (n_62 + r_192)), (4, .int .i64 (max d_63 r_219)), (5, .int .i64 s_64), (6, .int .i64 i_65)] ⟨rfl, rfl, rfl, rfl, rfl, trivial⟩
        refine then_normal ?_
        refine wp_region_lit ?_
        refine sq (opk_val hA230 rfl (r_move (hA230.get rfl)) fun a231 hA231 _ => ?_)
        refine sq (opk_val hA231 rfl (r_fieldAddr (hA231.get rfl) Try.underlying26 rfl ti_24 (by decide)) fun a232 hA232 _ => ?_)
        refine sq (opk_val hA232 rfl (r_load1 Try.underlying24 rfl (hA232.get rfl) (hB227.cell 4 _ rfl)) fun a233 hA233 _ => ?_)
        refine sq (opk_val hA233 rfl (r_move (hA233.get rfl)) fun a234 hA234 _ => ?_)
        obtain ⟨hb236, p_235, hp237, ht238⟩ := ht222
        refine sq (opk_val hA234 rfl (r_indexAddr (hA234.get rfl) (hA234.get rfl) Try.underlying24 ti_26 hb236 hp237) fun a239 hA239 _ => ?_)
        obtain ⟨x_241_Kind, x_241_Name, x_241_Text, x_241_Attrs, x_241_Kids, hx242, ht243⟩ := ht238
        refine sq (opk_val hA239 rfl (r_loadN Try.underlying26 rfl ti_26 (hA239.get rfl) hx242) fun a240 hA240 _ => ?_)
        refine sq (opk_call hA240 rfl (r_call (args := #[.agg #[.int .i64 x_241_Kind, .string (Bs x_241_Name), .string (Bs x_241_Text), Sl.v x_241_Attrs, Sl.v x_241_Kids]]) Try.func22 (by decide) rfl (map_arr (ml_cons (hA240.get rfl) ml_nil)) rfl) ht243 fun a245 v251 w246 hA245 _ hn248 hz249 hK250 => ?_)
        obtain ⟨r_244, rfl, ht247⟩ := hK250
        have hB252 := hB227.kept hn248 (.head _)
        obtain ⟨hS254, ht255⟩ := ht247
        refine sq (opk_val hA245 rfl (r_addI (hA245.get rfl) (hA245.get rfl) hS254) fun a253 hA253 _ => ?_)
        refine sq (opk_val hA253 rfl (r_assign (hA253.get rfl)) fun a256 hA256 _ => ?_)
        refine sq_end ?_
        have hA257 := hA256.keep [(1, .pointer (some ⟨B_2, 0, none⟩)), (3, .int .i64 (n_62 + r_192)), (4, .int .i64 (max d_63 r_219)), (5, .int .i64 (s_64 + r_244)), (6, .int .i64 i_65)] ⟨rfl, rfl, rfl, rfl, rfl, trivial⟩
        refine block_normal ?_
        refine then_normal ?_
        refine wp_region_lit ?_
        refine sq (opk_val hA257 rfl (r_move (hA257.get rfl)) fun a258 hA258 _ => ?_)
        obtain ⟨hS260, ht261⟩ := ht255
        refine sq (opk_val hA258 rfl (r_addI (hA258.get rfl) rfl hS260) fun a259 hA259 _ => ?_)
        refine sq (opk_val hA259 rfl (r_assign (hA259.get rfl)) fun a262 hA262 _ => ?_)
        refine sq_end ?_
        have hA263 := hA262.keep [(1, .pointer (some ⟨B_2, 0, none⟩)), (3, .int .i64 (n_62 + r_192)), (4, .int .i64 (max d_63 r_219)), (5, .int .i64 (s_64 + r_244)), (6, .int .i64 (i_65 + 1))] ⟨rfl, rfl, rfl, rfl, rfl, trivial⟩
        have hA264 := hA263.keep [(1, .pointer (some ⟨B_2, 0, none⟩)), (3, .int .i64 (n_62 + r_192)), (4, .int .i64 (max d_63 r_219)), (5, .int .i64 (s_64 + r_244)), (6, .int .i64 (i_65 + 1))] ⟨rfl, rfl, rfl, rfl, rfl, trivial⟩
        exact then_normal ⟨(n_62 + r_192, max d_63 r_219, s_64 + r_244, i_65 + 1, w246), ⟨hA264, hB252, rfl, ht261.1⟩, ht261.2⟩
      · have ht178 := ht169.2 (of_decide_eq_false hc)
        clear hc
        refine wp_exit ?_
        refine then_exit ?_
        refine then_exit ?_
        refine block_hit ?_
        have hA265 := hA176.keep [(1, .pointer (some ⟨B_2, 0, none⟩)), (3, .int .i64 n_62), (4, .int .i64 d_63), (5, .int .i64 s_64)] ⟨rfl, rfl, rfl, rfl, trivial⟩
        refine then_normal ?_
        refine wp_seq ?_
        refine wp_region_lit ?_
        refine sq (opk_val hA265 rfl (r_loadN (cs := [.int .i64 t_1_Kind, .string (Bs t_1_Name), .string (Bs t_1_Text), Sl.v t_1_Attrs, Sl.v t_1_Kids]) Try.underlying26 rfl ti_26 (hA265.get rfl) (hB166.part 0 _ rfl)) fun a266 hA266 _ => ?_)
        refine sq (opk_call hA266 rfl (r_call (args := #[.agg #[.int .i64 t_1_Kind, .string (Bs t_1_Name), .string (Bs t_1_Text), Sl.v t_1_Attrs, Sl.v t_1_Kids]]) Try.func21 (by decide) rfl (map_arr (ml_cons (hA266.get rfl) ml_nil)) rfl) ht178 fun a268 v274 w269 hA268 _ hn271 hz272 hK273 => ?_)
        obtain ⟨r_267, rfl, ht270⟩ := hK273
        have hB275 := hB166.kept hn271 (.head _)
        refine sq (opk_val hA268 rfl (r_move (hA268.get rfl)) fun a276 hA276 _ => ?_)
        refine sq (opk_val hA276 rfl (r_eql (hA276.get rfl) (hA276.get rfl)) fun a277 hA277 _ => ?_)
        refine sq (opk_val hA277 rfl (r_move (hA277.get rfl)) fun a278 hA278 _ => ?_)
        refine sq (opk_gval hA278 rfl rfl (g := true) (e := (decide (r_267 = n_62))) rfl (fun hg => r_loadN (cs := [.int .i64 t_1_Kind, .string (Bs t_1_Name), .string (Bs t_1_Text), Sl.v t_1_Attrs, Sl.v t_1_Kids]) Try.underlying26 rfl ti_26 (hA278.get rfl) (hB275.part 0 _ rfl)) fun a279 hA279 _ => ?_)
        obtain ⟨r_280, hc284, ht283⟩ := ht270
        refine sq (opk_gcall hA279 rfl rfl (g := true) (e := (decide (r_267 = n_62))) rfl (fun hg => r_call (args := #[.agg #[.int .i64 t_1_Kind, .string (Bs t_1_Name), .string (Bs t_1_Text), Sl.v t_1_Attrs, Sl.v t_1_Kids]]) Try.func18 (by decide) rfl (map_arr (ml_cons (cv_get (hA279.get rfl) hg) ml_nil)) rfl) (fun hg => hc284 (of_decide_eq_true (g_t hg))) fun a281 w282 hA281 _ hE285 => ?_)
        have hB286 := hB275.ext hE285
        have hC287 : Chg [] w269 w282 := hE285
        have ht288 := ht283 w282 hE285
        refine sq (opk_gval hA281 rfl rfl (g := true) (e := (decide (r_267 = n_62))) rfl (fun hg => r_move (hA281.get rfl)) fun a289 hA289 _ => ?_)
        obtain ⟨hS291, ht292⟩ := ht288
        refine sq (opk_gval hA289 rfl rfl (g := true) (e := (decide (r_267 = n_62))) rfl (fun hg => r_addI (cv_get (hA289.get rfl) hg) rfl (hS291 (of_decide_eq_true (g_t hg)))) fun a290 hA290 _ => ?_)
        refine sq (opk_gval hA290 rfl rfl (g := true) (e := (decide (r_267 = n_62))) rfl (fun hg => r_eql (cv_get (hA290.get rfl) hg) (cv_get (hA290.get rfl) hg)) fun a293 hA293 _ => ?_)
        refine sq (opk_val hA293 rfl (r_pick_and (g := (true && ((decide (r_267 = n_62)) == true))) (hA293.get rfl) (hA293.get rfl) (fun he => g_mkt rfl he)) fun a294 hA294 _ => ?_)
        refine sq (opk_val hA294 rfl (r_move (hA294.get rfl)) fun a295 hA295 _ => ?_)
        refine sq (opk_gval hA295 rfl rfl (g := true) (e := ((decide (r_267 = n_62)) && (decide (r_280 = (d_63 + 1))))) rfl (fun hg => r_loadN (cs := [.int .i64 t_1_Kind, .string (Bs t_1_Name), .string (Bs t_1_Text), Sl.v t_1_Attrs, Sl.v t_1_Kids]) Try.underlying26 rfl ti_26 (hA295.get rfl) (hB286.part 0 _ rfl)) fun a296 hA296 _ => ?_)
        obtain ⟨r_297, hc301, ht300⟩ := ht292
        refine sq (opk_gcall hA296 rfl rfl (g := true) (e := ((decide (r_267 = n_62)) && (decide (r_280 = (d_63 + 1))))) rfl (fun hg => r_call (args := #[.agg #[.int .i64 t_1_Kind, .string (Bs t_1_Name), .string (Bs t_1_Text), Sl.v t_1_Attrs, Sl.v t_1_Kids]]) Try.func22 (by decide) rfl (map_arr (ml_cons (cv_get (hA296.get rfl) hg) ml_nil)) rfl) (fun hg => hc301 ⟨(of_decide_eq_true (b_and_t (g_t hg)).1), (of_decide_eq_true (b_and_t (g_t hg)).2)⟩) fun a298 w299 hA298 _ hE302 => ?_)
        have hB303 := hB286.ext hE302
        have hC304 : Chg [] w282 w299 := hE302
        have ht305 := ht300 w299 hE302
        refine sq (opk_gval hA298 rfl rfl (g := true) (e := ((decide (r_267 = n_62)) && (decide (r_280 = (d_63 + 1))))) rfl (fun hg => r_move (hA298.get rfl)) fun a306 hA306 _ => ?_)
        refine sq (opk_gval hA306 rfl rfl (g := true) (e := ((decide (r_267 = n_62)) && (decide (r_280 = (d_63 + 1))))) rfl (fun hg => r_eql (cv_get (hA306.get rfl) hg) (cv_get (hA306.get rfl) hg)) fun a307 hA307 _ => ?_)
        refine sq (opk_val hA307 rfl (r_pick_and (g := (true && (((decide (r_267 = n_62)) && (decide (r_280 = (d_63 + 1)))) == true))) (hA307.get rfl) (hA307.get rfl) (fun he => g_mkt rfl he)) fun a308 hA308 _ => ?_)
        refine sq (opk_val hA308 rfl (r_move (hA308.get rfl)) fun a309 hA309 _ => ?_)
        obtain ⟨r_310, hc314, ht313⟩ := ht305
        refine sq (opk_gcall hA309 rfl rfl (g := true) (e := (((decide (r_267 = n_62)) && (decide (r_280 = (d_63 + 1)))) && (decide (r_297 = s_64)))) rfl (fun hg => r_call (args := #[]) Try.func15 (by decide) rfl (map_arr ml_nil) rfl) (fun hg => hc314 ⟨⟨(of_decide_eq_true (b_and_t (b_and_t (g_t hg)).1).1), (of_decide_eq_true (b_and_t (b_and_t (g_t hg)).1).2)⟩, (of_decide_eq_true (b_and_t (g_t hg)).2)⟩) fun a311 w312 hA311 _ hE315 => ?_)
        have hB316 := hB303.ext hE315
        have hC317 : Chg [] w299 w312 := hE315
        have ht318 := ht313 w312 hE315
        refine sq (opk_val hA311 rfl (r_pick_and (g := (true && ((((decide (r_267 = n_62)) && (decide (r_280 = (d_63 + 1)))) && (decide (r_297 = s_64))) == true))) (hA311.get rfl) (hA311.get rfl) (fun he => g_mkt rfl he)) fun a319 hA319 _ => ?_)
        refine sq (opk_val hA319 rfl (r_assign (hA319.get rfl)) fun a320 hA320 _ => ?_)
        refine sq_end ?_
        have hA321 := hA320.keep [(2, .bool ((((decide (r_267 = n_62)) && (decide (r_280 = (d_63 + 1)))) && (decide (r_297 = s_64))) && r_310))] ⟨rfl, trivial⟩
        refine then_normal ?_
        refine wp_ret ?_
        exact res_all (vs := [.bool ((((decide (r_267 = n_62)) && (decide (r_280 = (d_63 + 1)))) && (decide (r_297 = s_64))) && r_310)]) rfl hA321 ⟨res_of_tmp hA321 rfl, trivial⟩ ht318

/-- The condition of topiary/topiarylaw05.TreeOrder. -/
def law05_TreeOrder.vc (a_1_Kind : Int) (a_1_Name : Str) (a_1_Text : Str) (a_1_Attrs : Sl) (a_1_Kids : Sl) (b_2_Kind : Int) (b_2_Name : Str) (b_2_Text : Str) (b_2_Attrs : Sl) (b_2_Kids : Sl) (c_3_Kind : Int) (c_3_Name : Str) (c_3_Text : Str) (c_3_Attrs : Sl) (c_3_Kids : Sl) (R : Value → World → Prop) (w : World) : Prop :=
∀ (w24 : World) (B_4 : Nat) (B_12 : Nat) (B_23 : Nat), New w B_4 w24 → New w B_12 w24 → New w B_23 w24 → B_4 ≠ B_12 → B_4 ≠ B_23 → B_12 ≠ B_23 → Chg [] w w24 →
CallK Try.prog 20 #[.agg #[.int .i64 a_1_Kind, .string (Bs a_1_Name), .string (Bs a_1_Text), Sl.v a_1_Attrs, Sl.v a_1_Kids]] w24 [B_4, B_12, B_23] (fun v w43 => ∃ (r_41 : Bool), v = .bool r_41 ∧
∃ (r_55 : Bool), (((r_41 = true)) → Calls Try.prog 20 #[.agg #[.int .i64 b_2_Kind, .string (Bs b_2_Name), .string (Bs b_2_Text), Sl.v b_2_Attrs, Sl.v b_2_Kids]] w43 (Ret fun v w' => Ext w43 w' ∧ v = .bool r_55)) ∧
(∀ w57 : World, Ext w43 w57 →
∃ (r_70 : Bool), ((((r_41 = true) ∧ (r_55 = true))) → Calls Try.prog 20 #[.agg #[.int .i64 c_3_Kind, .string (Bs c_3_Name), .string (Bs c_3_Text), Sl.v c_3_Attrs, Sl.v c_3_Kids]] w57 (Ret fun v w' => Ext w57 w' ∧ v = .bool r_70)) ∧
(∀ w72 : World, Ext w57 w72 →
((((r_41 = false) ∨ (r_55 = false)) ∨ (r_70 = false)) →
CallK Try.prog 15 #[] w72 [B_4, B_12, B_23] (fun v w88 => ∃ (r_86 : Bool), v = .bool r_86 ∧
R (.bool r_86) w88)) ∧
((((r_41 = true) ∧ (r_55 = true)) ∧ (r_70 = true)) →
∀ (w99 : World), Chg [] w72 w99 →
∃ (r_108 : Int), (∀ w' : World, Ext w99 w' → Calls Try.prog 24 #[.agg #[.int .i64 a_1_Kind, .string (Bs a_1_Name), .string (Bs a_1_Text), Sl.v a_1_Attrs, Sl.v a_1_Kids], .agg #[.int .i64 b_2_Kind, .string (Bs b_2_Name), .string (Bs b_2_Text), Sl.v b_2_Attrs, Sl.v b_2_Kids]] w' (Ret fun v w'' => Ext w' w'' ∧ v = .int .i64 r_108)) ∧
∃ (r_113 : Int), (∀ w' : World, Ext w99 w' → Calls Try.prog 24 #[.agg #[.int .i64 b_2_Kind, .string (Bs b_2_Name), .string (Bs b_2_Text), Sl.v b_2_Attrs, Sl.v b_2_Kids], .agg #[.int .i64 c_3_Kind, .string (Bs c_3_Name), .string (Bs c_3_Text), Sl.v c_3_Attrs, Sl.v c_3_Kids]] w' (Ret fun v w'' => Ext w' w'' ∧ v = .int .i64 r_113)) ∧
∃ (r_118 : Int), (∀ w' : World, Ext w99 w' → Calls Try.prog 24 #[.agg #[.int .i64 a_1_Kind, .string (Bs a_1_Name), .string (Bs a_1_Text), Sl.v a_1_Attrs, Sl.v a_1_Kids], .agg #[.int .i64 c_3_Kind, .string (Bs c_3_Name), .string (Bs c_3_Text), Sl.v c_3_Attrs, Sl.v c_3_Kids]] w' (Ret fun v w'' => Ext w' w'' ∧ v = .int .i64 r_118)) ∧
∀ (w125 : World), Chg [] w99 w125 →
CallK Try.prog 24 #[.agg #[.int .i64 b_2_Kind, .string (Bs b_2_Name), .string (Bs b_2_Text), Sl.v b_2_Attrs, Sl.v b_2_Kids], .agg #[.int .i64 a_1_Kind, .string (Bs a_1_Name), .string (Bs a_1_Text), Sl.v a_1_Attrs, Sl.v a_1_Kids]] w125 [B_4, B_12] (fun v w146 => ∃ (r_144 : Int), v = .int .i64 r_144 ∧
(I64 (0 - r_144)) ∧
∃ (r_163 : Bool), (((r_108 = (0 - r_144))) → Calls Try.prog 25 #[.agg #[.int .i64 a_1_Kind, .string (Bs a_1_Name), .string (Bs a_1_Text), Sl.v a_1_Attrs, Sl.v a_1_Kids], .agg #[.int .i64 b_2_Kind, .string (Bs b_2_Name), .string (Bs b_2_Text), Sl.v b_2_Attrs, Sl.v b_2_Kids]] w146 (Ret fun v w' => Ext w146 w' ∧ v = .bool r_163)) ∧
(∀ w165 : World, Ext w146 w165 →
∃ (r_202 : Bool), ((((((r_108 = (0 - r_144)) ∧ (((decide (r_108 = 0)) == r_163) = true)) ∧ (((¬ (r_108 ≤ 0)) ∨ (¬ (r_113 ≤ 0))) ∨ (¬ (0 < r_118)))) ∧ (((¬ (r_108 < 0)) ∨ (¬ (r_113 ≤ 0))) ∨ (¬ (0 ≤ r_118))))) → Calls Try.prog 15 #[] w165 (Ret fun v w' => Ext w165 w' ∧ v = .bool r_202)) ∧
(∀ w204 : World, Ext w165 w204 →
R (.bool (((((decide (r_108 = (0 - r_144))) && ((decide (r_108 = 0)) == r_163)) && (!(((decide (r_108 ≤ 0)) && (decide (r_113 ≤ 0))) && (decide (0 < r_118))))) && (!(((decide (r_108 < 0)) && (decide (r_113 ≤ 0))) && (decide (0 ≤ r_118))))) && r_202)) w204)))))))
set_option maxHeartbeats 1000000 in
set_option maxRecDepth 10000 in
theorem law05_TreeOrder.ok (a_1_Kind : Int) (a_1_Name : Str) (a_1_Text : Str) (a_1_Attrs : Sl) (a_1_Kids : Sl) (b_2_Kind : Int) (b_2_Name : Str) (b_2_Text : Str) (b_2_Attrs : Sl) (b_2_Kids : Sl) (c_3_Kind : Int) (c_3_Name : Str) (c_3_Text : Str) (c_3_Attrs : Sl) (c_3_Kids : Sl) {R : Value → World → Prop} {w : World} (ht0 : law05_TreeOrder.vc a_1_Kind a_1_Name a_1_Text a_1_Attrs a_1_Kids b_2_Kind b_2_Name b_2_Text b_2_Attrs b_2_Kids c_3_Kind c_3_Name c_3_Text c_3_Attrs c_3_Kids R w) : Calls Try.prog 8 #[.agg #[.int .i64 a_1_Kind, .string (Bs a_1_Name), .string (Bs a_1_Text), Sl.v a_1_Attrs, Sl.v a_1_Kids], .agg #[.int .i64 b_2_Kind, .string (Bs b_2_Name), .string (Bs b_2_Text), Sl.v b_2_Attrs, Sl.v b_2_Kids], .agg #[.int .i64 c_3_Kind, .string (Bs c_3_Name), .string (Bs c_3_Text), Sl.v c_3_Attrs, Sl.v c_3_Kids]] w (Ret R) := by
  refine enter [.agg #[.int .i64 a_1_Kind, .string (Bs a_1_Name), .string (Bs a_1_Text), Sl.v a_1_Attrs, Sl.v a_1_Kids], .agg #[.int .i64 b_2_Kind, .string (Bs b_2_Name), .string (Bs b_2_Text), Sl.v b_2_Attrs, Sl.v b_2_Kids], .agg #[.int .i64 c_3_Kind, .string (Bs c_3_Name), .string (Bs c_3_Text), Sl.v c_3_Attrs, Sl.v c_3_Kids]] Try.func8 rfl Try.ntmps8 rfl ?_
  intro a0 hA0
  unfold law05_TreeOrder.vc at ht0
  refine wp_seq ?_
  refine wp_region_lit ?_
  refine sq (opk_new (fun B => .pointer (some ⟨B, 0, none⟩)) hA0 rfl (r_box (cs := [.int .i64 a_1_Kind, .string (Bs a_1_Name), .string (Bs a_1_Text), Sl.v a_1_Attrs, Sl.v a_1_Kids]) (hA0.get rfl) rfl) fun a6 w5 B_4 hE7 hN8 hB9 hA6 _ => ?_)
  have hN10 : New w B_4 w5 := hN8
  have hC11 : Chg [] w w5 := hE7
  refine sq (opk_new (fun B => .pointer (some ⟨B, 0, none⟩)) hA6 rfl (r_box (cs := [.int .i64 b_2_Kind, .string (Bs b_2_Name), .string (Bs b_2_Text), Sl.v b_2_Attrs, Sl.v b_2_Kids]) (hA6.get rfl) rfl) fun a14 w13 B_12 hE15 hN16 hB17 hA14 _ => ?_)
  have hne18 : B_4 ≠ B_12 := Nat.ne_of_lt (Nat.lt_of_lt_of_le hB9.lt hN16.ge)
  have hN19 := New.of hC11 hN16
  have hB20 := hB9.ext hE15
  have hC21 := hC11.more hE15
  have hN22 := hN10.up hE15.size
  refine sq (opk_new (fun B => .pointer (some ⟨B, 0, none⟩)) hA14 rfl (r_box (cs := [.int .i64 c_3_Kind, .string (Bs c_3_Name), .string (Bs c_3_Text), Sl.v c_3_Attrs, Sl.v c_3_Kids]) (hA14.get rfl) rfl) fun a25 w24 B_23 hE26 hN27 hB28 hA25 _ => ?_)
  have hne29 : B_4 ≠ B_23 := Nat.ne_of_lt (Nat.lt_of_lt_of_le hB20.lt hN27.ge)
  have hne30 : B_12 ≠ B_23 := Nat.ne_of_lt (Nat.lt_of_lt_of_le hB17.lt hN27.ge)
  have hN31 := New.of hC21 hN27
  have hB32 := hB20.ext hE26
  have hB33 := hB17.ext hE26
  have hC34 := hC21.more hE26
  have hN35 := hN22.up hE26.size
  have hN36 := hN19.up hE26.size
  refine sq (opk_val hA25 rfl (r_assign rfl) fun a37 hA37 _ => ?_)
  refine sq_end ?_
  have hA38 := hA37.keep [(3, .pointer (some ⟨B_4, 0, none⟩)), (4, .pointer (some ⟨B_12, 0, none⟩)), (5, .pointer (some ⟨B_23, 0, none⟩))] ⟨rfl, rfl, rfl, trivial⟩
  refine then_normal ?_
  refine wp_seq ?_
  refine wp_seq ?_
  refine wp_region_lit ?_
  refine sq (opk_val hA38 rfl (r_loadN (cs := [.int .i64 a_1_Kind, .string (Bs a_1_Name), .string (Bs a_1_Text), Sl.v a_1_Attrs, Sl.v a_1_Kids]) Try.underlying26 rfl ti_26 (hA38.get rfl) (hB32.part 0 _ rfl)) fun a39 hA39 _ => ?_)
  have ht40 := ht0 w24 B_4 B_12 B_23 hN35 hN36 hN31 hne18 hne29 hne30 hC34
  refine sq (opk_call hA39 rfl (r_call (args := #[.agg #[.int .i64 a_1_Kind, .string (Bs a_1_Name), .string (Bs a_1_Text), Sl.v a_1_Attrs, Sl.v a_1_Kids]]) Try.func20 (by decide) rfl (map_arr (ml_cons (hA39.get rfl) ml_nil)) rfl) ht40 fun a42 v48 w43 hA42 _ hn45 hz46 hK47 => ?_)
  obtain ⟨r_41, rfl, ht44⟩ := hK47
  have hB49 := hB32.kept hn45 (.head _)
  have hB50 := hB33.kept hn45 (.tail _ (.head _))
  have hB51 := hB28.kept hn45 (.tail _ (.tail _ (.head _)))
  refine sq (opk_val hA42 rfl (r_not (hA42.get rfl)) fun a52 hA52 _ => ?_)
  refine sq (opk_val hA52 rfl (r_move (hA52.get rfl)) fun a53 hA53 _ => ?_)
  refine sq (opk_gval hA53 rfl rfl (g := true) (e := (!r_41)) rfl (fun hg => r_loadN (cs := [.int .i64 b_2_Kind, .string (Bs b_2_Name), .string (Bs b_2_Text), Sl.v b_2_Attrs, Sl.v b_2_Kids]) Try.underlying26 rfl ti_26 (hA53.get rfl) (hB50.part 0 _ rfl)) fun a54 hA54 _ => ?_)
  obtain ⟨r_55, hc59, ht58⟩ := ht44
  refine sq (opk_gcall hA54 rfl rfl (g := true) (e := (!r_41)) rfl (fun hg => r_call (args := #[.agg #[.int .i64 b_2_Kind, .string (Bs b_2_Name), .string (Bs b_2_Text), Sl.v b_2_Attrs, Sl.v b_2_Kids]]) Try.func20 (by decide) rfl (map_arr (ml_cons (cv_get (hA54.get rfl) hg) ml_nil)) rfl) (fun hg => hc59 (b_not_f (g_f hg))) fun a56 w57 hA56 _ hE60 => ?_)
  have hB61 := hB49.ext hE60
  have hB62 := hB50.ext hE60
  have hB63 := hB51.ext hE60
  have hC64 : Chg [] w43 w57 := hE60
  have ht65 := ht58 w57 hE60
  refine sq (opk_gval hA56 rfl rfl (g := true) (e := (!r_41)) rfl (fun hg => r_not (cv_get (hA56.get rfl) hg)) fun a66 hA66 _ => ?_)
  refine sq (opk_val hA66 rfl (r_pick_or (g := (true && ((!r_41) == false))) (hA66.get rfl) (hA66.get rfl) (fun he => g_mkf rfl he)) fun a67 hA67 _ => ?_)
  refine sq (opk_val hA67 rfl (r_move (hA67.get rfl)) fun a68 hA68 _ => ?_)
  refine sq (opk_gval hA68 rfl rfl (g := true) (e := ((!r_41) || (!r_55))) rfl (fun hg => r_loadN (cs := [.int .i64 c_3_Kind, .string (Bs c_3_Name), .string (Bs c_3_Text), Sl.v c_3_Attrs, Sl.v c_3_Kids]) Try.underlying26 rfl ti_26 (hA68.get rfl) (hB63.part 0 _ rfl)) fun a69 hA69 _ => ?_)
  obtain ⟨r_70, hc74, ht73⟩ := ht65
  refine sq (opk_gcall hA69 rfl rfl (g := true) (e := ((!r_41) || (!r_55))) rfl (fun hg => r_call (args := #[.agg #[.int .i64 c_3_Kind, .string (Bs c_3_Name), .string (Bs c_3_Text), Sl.v c_3_Attrs, Sl.v c_3_Kids]]) Try.func20 (by decide) rfl (map_arr (ml_cons (cv_get (hA69.get rfl) hg) ml_nil)) rfl) (fun hg => hc74 ⟨(b_not_f (b_or_f (g_f hg)).1), (b_not_f (b_or_f (g_f hg)).2)⟩) fun a71 w72 hA71 _ hE75 => ?_)
  have hB76 := hB61.ext hE75
  have hB77 := hB62.ext hE75
  have hB78 := hB63.ext hE75
  have hC79 : Chg [] w57 w72 := hE75
  have ht80 := ht73 w72 hE75
  refine sq (opk_gval hA71 rfl rfl (g := true) (e := ((!r_41) || (!r_55))) rfl (fun hg => r_not (cv_get (hA71.get rfl) hg)) fun a81 hA81 _ => ?_)
  refine sq (opk_val hA81 rfl (r_pick_or (g := (true && (((!r_41) || (!r_55)) == false))) (hA81.get rfl) (hA81.get rfl) (fun he => g_mkf rfl he)) fun a82 hA82 _ => ?_)
  refine sq_end ?_
  have hA83 := hA82.keep [(3, .pointer (some ⟨B_4, 0, none⟩)), (4, .pointer (some ⟨B_12, 0, none⟩)), (5, .pointer (some ⟨B_23, 0, none⟩)), (22, .bool (((!r_41) || (!r_55)) || (!r_70)))] ⟨rfl, rfl, rfl, rfl, trivial⟩
  refine then_normal ?_
  refine wp_cond_split (hA83.get rfl) (fun hc => ?_) (fun hc => ?_)
  · have ht84 := ht80.1 ((b_or_t hc).imp (fun h => ((b_or_t h).imp (fun h => (b_not_t h)) (fun h => (b_not_t h)))) (fun h => (b_not_t h)))
    clear hc
    refine wp_seq ?_
    refine wp_region_lit ?_
    refine sq (opk_call hA83 rfl (r_call (args := #[]) Try.func15 (by decide) rfl (map_arr ml_nil) rfl) ht84 fun a87 v93 w88 hA87 _ hn90 hz91 hK92 => ?_)
    obtain ⟨r_86, rfl, ht89⟩ := hK92
    have hB94 := hB76.kept hn90 (.head _)
    have hB95 := hB77.kept hn90 (.tail _ (.head _))
    have hB96 := hB78.kept hn90 (.tail _ (.tail _ (.head _)))
    refine sq (opk_val hA87 rfl (r_assign (hA87.get rfl)) fun a97 hA97 _ => ?_)
    refine sq_end ?_
    have hA98 := hA97.keep [(6, .bool r_86)] ⟨rfl, trivial⟩
    refine then_normal ?_
    refine wp_ret ?_
    refine then_ret ?_
    exact res_all (vs := [.bool r_86]) rfl hA98 ⟨res_of_tmp hA98 rfl, trivial⟩ ht89
  · have ht85 := ht80.2 ⟨⟨(b_not_f (b_or_f (b_or_f hc).1).1), (b_not_f (b_or_f (b_or_f hc).1).2)⟩, (b_not_f (b_or_f hc).2)⟩
    clear hc
    refine wp_skip ?_
    refine then_normal ?_
    refine wp_seq ?_
    refine draw' (by kernel_rfl) fun w99 hE100 => ?_
    have hB101 := hB76.ext hE100
    have hB102 := hB77.ext hE100
    have hB103 := hB78.ext hE100
    have hC104 : Chg [] w72 w99 := hE100
    have ht105 := ht85 w99    hC104
    obtain ⟨r_108, hc109, ht110⟩ := ht105
    obtain ⟨r_113, hc114, ht115⟩ := ht110
    obtain ⟨r_118, hc119, ht120⟩ := ht115
    refine par (D := [[], [], [0, 1], [], [], [0, 1, 2, 3, 4], [], [], [0, 1, 2, 3, 4, 5, 6, 7], [0, 1, 2, 3, 4, 5, 6, 7, 8], [0, 1, 2, 3, 4, 5, 6, 7, 8, 9], [0, 1, 2, 3, 4, 5, 6, 7, 8, 9, 10]]) (S := [0, 1, 2, 3, 4, 5, 6, 7, 8, 9, 10, 11]) (F := []) (V := VL [(0, fun v _ => v = .agg #[.int .i64 a_1_Kind, .string (Bs a_1_Name), .string (Bs a_1_Text), Sl.v a_1_Attrs, Sl.v a_1_Kids]), (1, fun v _ => v = .agg #[.int .i64 b_2_Kind, .string (Bs b_2_Name), .string (Bs b_2_Text), Sl.v b_2_Attrs, Sl.v b_2_Kids]), (2, fun v _ => v = .int .i64 r_108), (3, fun v _ => v = .agg #[.int .i64 b_2_Kind, .string (Bs b_2_Name), .string (Bs b_2_Text), Sl.v b_2_Attrs, Sl.v b_2_Kids]), (4, fun v _ => v = .agg #[.int .i64 c_3_Kind, .string (Bs c_3_Name), .string (Bs c_3_Text), Sl.v c_3_Attrs, Sl.v c_3_Kids]), (5, fun v _ => v = .int .i64 r_113), (6, fun v _ => v = .agg #[.int .i64 a_1_Kind, .string (Bs a_1_Name), .string (Bs a_1_Text), Sl.v a_1_Attrs, Sl.v a_1_Kids]), (7, fun v _ => v = .agg #[.int .i64 c_3_Kind, .string (Bs c_3_Name), .string (Bs c_3_Text), Sl.v c_3_Attrs, Sl.v c_3_Kids]), (8, fun v _ => v = .int .i64 r_118), (9, fun v _ => v = .int .i64 r_108), (10, fun v _ => v = .int .i64 r_113), (11, fun v _ => v = .int .i64 r_118)]) hA83 (by kernel_rfl) ⟨fun _ _ _ _ h => by first | exact h | (change _ = _ at h; change _ = _; exact h), fun _ _ _ _ h => by first | exact h | (change _ = _ at h; change _ = _; exact h), fun _ _ _ _ h => by first | exact h | (change _ = _ at h; change _ = _; exact h), fun _ _ _ _ h => by first | exact h | (change _ = _ at h; change _ = _; exact h), fun _ _ _ _ h => by first | exact h | (change _ = _ at h; change _ = _; exact h), fun _ _ _ _ h => by first | exact h | (change _ = _ at h; change _ = _; exact h), fun _ _ _ _ h => by first | exact h | (change _ = _ at h; change _ = _; exact h), fun _ _ _ _ h => by first | exact h | (change _ = _ at h; change _ = _; exact h), fun _ _ _ _ h => by first | exact h | (change _ = _ at h; change _ = _; exact h), fun _ _ _ _ h => by first | exact h | (change _ = _ at h; change _ = _; exact h), fun _ _ _ _ h => by first | exact h | (change _ = _ at h; change _ = _; exact h), fun _ _ _ _ h => by first | exact h | (change _ = _ at h; change _ = _; exact h), trivial⟩ ⟨?_, ?_, ?_, ?_, ?_, ?_, ?_, ?_, ?_, ?_, ?_, ?_, trivial⟩ ?_
    · intro a w hT
      have hAp := hT.ag hA83 [(3, .pointer (some ⟨B_4, 0, none⟩))] ⟨rfl, trivial⟩ (by kernel_rfl)
      exact opk_val hAp rfl (r_loadN (cs := [.int .i64 a_1_Kind, .string (Bs a_1_Name), .string (Bs a_1_Text), Sl.v a_1_Attrs, Sl.v a_1_Kids]) Try.underlying26 rfl ti_26 (hAp.get rfl) ((hB101.ext hT.chg).part 0 _ rfl)) fun _ _ e => ⟨_, e, Chg.refl _ _, fun _ => Eq.refl _⟩
    · intro a w hT
      have hAp := hT.ag hA83 [(4, .pointer (some ⟨B_12, 0, none⟩))] ⟨rfl, trivial⟩ (by kernel_rfl)
      exact opk_val hAp rfl (r_loadN (cs := [.int .i64 b_2_Kind, .string (Bs b_2_Name), .string (Bs b_2_Text), Sl.v b_2_Attrs, Sl.v b_2_Kids]) Try.underlying26 rfl ti_26 (hAp.get rfl) ((hB102.ext hT.chg).part 0 _ rfl)) fun _ _ e => ⟨_, e, Chg.refl _ _, fun _ => Eq.refl _⟩
    · intro a w hT
      have hAp := hT.ag hA83 [] trivial (by kernel_rfl)
      have e106 : a.tmps.getD 24 undef = .agg #[.int .i64 a_1_Kind, .string (Bs a_1_Name), .string (Bs a_1_Text), Sl.v a_1_Attrs, Sl.v a_1_Kids] := hT.vals 0 rfl 24 rfl
      have hAp := hAp.add e106
      have e107 : a.tmps.getD 25 undef = .agg #[.int .i64 b_2_Kind, .string (Bs b_2_Name), .string (Bs b_2_Text), Sl.v b_2_Attrs, Sl.v b_2_Kids] := hT.vals 1 rfl 25 rfl
      have hAp := hAp.add e107
      exact opk_callX hAp rfl (r_call (args := #[.agg #[.int .i64 a_1_Kind, .string (Bs a_1_Name), .string (Bs a_1_Text), Sl.v a_1_Attrs, Sl.v a_1_Kids], .agg #[.int .i64 b_2_Kind, .string (Bs b_2_Name), .string (Bs b_2_Text), Sl.v b_2_Attrs, Sl.v b_2_Kids]]) Try.func24 (by decide) rfl (map_arr (ml_cons (hAp.get rfl) (ml_cons (hAp.get rfl) ml_nil))) rfl) (hc109 w hT.chg) fun _ _ _ _ e hR => ⟨_, e, hR.1, fun _ => hR.2⟩
    · intro a w hT
      have hAp := hT.ag hA83 [(4, .pointer (some ⟨B_12, 0, none⟩))] ⟨rfl, trivial⟩ (by kernel_rfl)
      exact opk_val hAp rfl (r_loadN (cs := [.int .i64 b_2_Kind, .string (Bs b_2_Name), .string (Bs b_2_Text), Sl.v b_2_Attrs, Sl.v b_2_Kids]) Try.underlying26 rfl ti_26 (hAp.get rfl) ((hB102.ext hT.chg).part 0 _ rfl)) fun _ _ e => ⟨_, e, Chg.refl _ _, fun _ => Eq.refl _⟩
    · intro a w hT
      have hAp := hT.ag hA83 [(5, .pointer (some ⟨B_23, 0, none⟩))] ⟨rfl, trivial⟩ (by kernel_rfl)
      exact opk_val hAp rfl (r_loadN (cs := [.int .i64 c_3_Kind, .string (Bs c_3_Name), .string (Bs c_3_Text), Sl.v c_3_Attrs, Sl.v c_3_Kids]) Try.underlying26 rfl ti_26 (hAp.get rfl) ((hB103.ext hT.chg).part 0 _ rfl)) fun _ _ e => ⟨_, e, Chg.refl _ _, fun _ => Eq.refl _⟩
    · intro a w hT
      have hAp := hT.ag hA83 [] trivial (by kernel_rfl)
      have e111 : a.tmps.getD 27 undef = .agg #[.int .i64 b_2_Kind, .string (Bs b_2_Name), .string (Bs b_2_Text), Sl.v b_2_Attrs, Sl.v b_2_Kids] := hT.vals 3 rfl 27 rfl
      have hAp := hAp.add e111
      have e112 : a.tmps.getD 28 undef = .agg #[.int .i64 c_3_Kind, .string (Bs c_3_Name), .string (Bs c_3_Text), Sl.v c_3_Attrs, Sl.v c_3_Kids] := hT.vals 4 rfl 28 rfl
      have hAp := hAp.add e112
      exact opk_callX hAp rfl (r_call (args := #[.agg #[.int .i64 b_2_Kind, .string (Bs b_2_Name), .string (Bs b_2_Text), Sl.v b_2_Attrs, Sl.v b_2_Kids], .agg #[.int .i64 c_3_Kind, .string (Bs c_3_Name), .string (Bs c_3_Text), Sl.v c_3_Attrs, Sl.v c_3_Kids]]) Try.func24 (by decide) rfl (map_arr (ml_cons (hAp.get rfl) (ml_cons (hAp.get rfl) ml_nil))) rfl) (hc114 w hT.chg) fun _ _ _ _ e hR => ⟨_, e, hR.1, fun _ => hR.2⟩
    · intro a w hT
      have hAp := hT.ag hA83 [(3, .pointer (some ⟨B_4, 0, none⟩))] ⟨rfl, trivial⟩ (by kernel_rfl)
      exact opk_val hAp rfl (r_loadN (cs := [.int .i64 a_1_Kind, .string (Bs a_1_Name), .string (Bs a_1_Text), Sl.v a_1_Attrs, Sl.v a_1_Kids]) Try.underlying26 rfl ti_26 (hAp.get rfl) ((hB101.ext hT.chg).part 0 _ rfl)) fun _ _ e => ⟨_, e, Chg.refl _ _, fun _ => Eq.refl _⟩
    · intro a w hT
      have hAp := hT.ag hA83 [(5, .pointer (some ⟨B_23, 0, none⟩))] ⟨rfl, trivial⟩ (by kernel_rfl)
      exact opk_val hAp rfl (r_loadN (cs := [.int .i64 c_3_Kind, .string (Bs c_3_Name), .string (Bs c_3_Text), Sl.v c_3_Attrs, Sl.v c_3_Kids]) Try.underlying26 rfl ti_26 (hAp.get rfl) ((hB103.ext hT.chg).part 0 _ rfl)) fun _ _ e => ⟨_, e, Chg.refl _ _, fun _ => Eq.refl _⟩
    · intro a w hT
      have hAp := hT.ag hA83 [] trivial (by kernel_rfl)
      have e116 : a.tmps.getD 30 undef = .agg #[.int .i64 a_1_Kind, .string (Bs a_1_Name), .string (Bs a_1_Text), Sl.v a_1_Attrs, Sl.v a_1_Kids] := hT.vals 6 rfl 30 rfl
      have hAp := hAp.add e116
      have e117 : a.tmps.getD 31 undef = .agg #[.int .i64 c_3_Kind, .string (Bs c_3_Name), .string (Bs c_3_Text), Sl.v c_3_Attrs, Sl.v c_3_Kids] := hT.vals 7 rfl 31 rfl
      have hAp := hAp.add e117
      exact opk_callX hAp rfl (r_call (args := #[.agg #[.int .i64 a_1_Kind, .string (Bs a_1_Name), .string (Bs a_1_Text), Sl.v a_1_Attrs, Sl.v a_1_Kids], .agg #[.int .i64 c_3_Kind, .string (Bs c_3_Name), .string (Bs c_3_Text), Sl.v c_3_Attrs, Sl.v c_3_Kids]]) Try.func24 (by decide) rfl (map_arr (ml_cons (hAp.get rfl) (ml_cons (hAp.get rfl) ml_nil))) rfl) (hc119 w hT.chg) fun _ _ _ _ e hR => ⟨_, e, hR.1, fun _ => hR.2⟩
    · intro a w hT
      have hAp := hT.ag hA83 [] trivial (by kernel_rfl)
      have e121 : a.tmps.getD 26 undef = .int .i64 r_108 := hT.vals 2 rfl 26 rfl
      have hAp := hAp.add e121
      exact opk_val hAp rfl (r_assign (hAp.get rfl)) fun _ _ e => ⟨_, e, Chg.refl _ _, fun _ => Eq.refl _⟩
    · intro a w hT
      have hAp := hT.ag hA83 [] trivial (by kernel_rfl)
      have e122 : a.tmps.getD 29 undef = .int .i64 r_113 := hT.vals 5 rfl 29 rfl
      have hAp := hAp.add e122
      exact opk_val hAp rfl (r_assign (hAp.get rfl)) fun _ _ e => ⟨_, e, Chg.refl _ _, fun _ => Eq.refl _⟩
    · intro a w hT
      have hAp := hT.ag hA83 [] trivial (by kernel_rfl)
      have e123 : a.tmps.getD 32 undef = .int .i64 r_118 := hT.vals 8 rfl 32 rfl
      have hAp := hAp.add e123
      exact opk_val hAp rfl (r_assign (hAp.get rfl)) fun _ _ e => ⟨_, e, Chg.refl _ _, fun _ => Eq.refl _⟩
    · intro a124 w125 hE126 hag127 hv128
      have hA124 := hag127 [(3, .pointer (some ⟨B_4, 0, none⟩)), (4, .pointer (some ⟨B_12, 0, none⟩))] ⟨rfl, rfl, trivial⟩ (by kernel_rfl)
      have e129 : a124.tmps.getD 7 undef = .int .i64 r_108 := hv128 9 rfl 7 rfl
      have hA130 := hA124.add e129
      have e131 : a124.tmps.getD 8 undef = .int .i64 r_113 := hv128 10 rfl 8 rfl
      have hA132 := hA130.add e131
      have e133 : a124.tmps.getD 9 undef = .int .i64 r_118 := hv128 11 rfl 9 rfl
      have hA134 := hA132.add e133
      have hB135 := hB101.ext hE126
      have hB136 := hB102.ext hE126
      have hB137 := hB103.ext hE126
      have hC138 : Chg [] w99 w125 := hE126
      refine PR_end (by kernel_rfl) ?_
      have hA139 := hA134.keep [(3, .pointer (some ⟨B_4, 0, none⟩)), (4, .pointer (some ⟨B_12, 0, none⟩)), (7, .int .i64 r_108), (8, .int .i64 r_113), (9, .int .i64 r_118)] ⟨rfl, rfl, rfl, rfl, rfl, trivial⟩
      refine then_normal ?_
      refine wp_seq ?_
      refine wp_region_lit ?_
      refine sq (opk_val hA139 rfl (r_move (hA139.get rfl)) fun a140 hA140 _ => ?_)
      refine sq (opk_val hA140 rfl (r_loadN (cs := [.int .i64 b_2_Kind, .string (Bs b_2_Name), .string (Bs b_2_Text), Sl.v b_2_Attrs, Sl.v b_2_Kids]) Try.underlying26 rfl ti_26 (hA140.get rfl) (hB136.part 0 _ rfl)) fun a141 hA141 _ => ?_)
      refine sq (opk_val hA141 rfl (r_loadN (cs := [.int .i64 a_1_Kind, .string (Bs a_1_Name), .string (Bs a_1_Text), Sl.v a_1_Attrs, Sl.v a_1_Kids]) Try.underlying26 rfl ti_26 (hA141.get rfl) (hB135.part 0 _ rfl)) fun a142 hA142 _ => ?_)
      have ht143 := ht120 w125    hC138
      refine sq (opk_call hA142 rfl (r_call (args := #[.agg #[.int .i64 b_2_Kind, .string (Bs b_2_Name), .string (Bs b_2_Text), Sl.v b_2_Attrs, Sl.v b_2_Kids], .agg #[.int .i64 a_1_Kind, .string (Bs a_1_Name), .string (Bs a_1_Text), Sl.v a_1_Attrs, Sl.v a_1_Kids]]) Try.func24 (by decide) rfl (map_arr (ml_cons (hA142.get rfl) (ml_cons (hA142.get rfl) ml_nil))) rfl) ht143 fun a145 v151 w146 hA145 _ hn148 hz149 hK150 => ?_)
      obtain ⟨r_144, rfl, ht147⟩ := hK150
      have hB152 := hB135.kept hn148 (.head _)
      have hB153 := hB136.kept hn148 (.tail _ (.head _))
      obtain ⟨hS155, ht156⟩ := ht147
      refine sq (opk_val hA145 rfl (r_negI (hA145.get rfl) hS155) fun a154 hA154 _ => ?_)
      refine sq (opk_val hA154 rfl (r_eql (hA154.get rfl) (hA154.get rfl)) fun a157 hA157 _ => ?_)
      refine sq (opk_val hA157 rfl (r_move (hA157.get rfl)) fun a158 hA158 _ => ?_)
      refine sq (opk_gval hA158 rfl rfl (g := true) (e := (decide (r_108 = (0 - r_144)))) rfl (fun hg => r_move (hA158.get rfl)) fun a159 hA159 _ => ?_)
      refine sq (opk_gval hA159 rfl rfl (g := true) (e := (decide (r_108 = (0 - r_144)))) rfl (fun hg => r_eql (cv_get (hA159.get rfl) hg) rfl) fun a160 hA160 _ => ?_)
      refine sq (opk_gval hA160 rfl rfl (g := true) (e := (decide (r_108 = (0 - r_144)))) rfl (fun hg => r_loadN (cs := [.int .i64 a_1_Kind, .string (Bs a_1_Name), .string (Bs a_1_Text), Sl.v a_1_Attrs, Sl.v a_1_Kids]) Try.underlying26 rfl ti_26 (hA160.get rfl) (hB152.part 0 _ rfl)) fun a161 hA161 _ => ?_)
      refine sq (opk_gval hA161 rfl rfl (g := true) (e := (decide (r_108 = (0 - r_144)))) rfl (fun hg => r_loadN (cs := [.int .i64 b_2_Kind, .string (Bs b_2_Name), .string (Bs b_2_Text), Sl.v b_2_Attrs, Sl.v b_2_Kids]) Try.underlying26 rfl ti_26 (hA161.get rfl) (hB153.part 0 _ rfl)) fun a162 hA162 _ => ?_)
      obtain ⟨r_163, hc167, ht166⟩ := ht156
      refine sq (opk_gcall hA162 rfl rfl (g := true) (e := (decide (r_108 = (0 - r_144)))) rfl (fun hg => r_call (args := #[.agg #[.int .i64 a_1_Kind, .string (Bs a_1_Name), .string (Bs a_1_Text), Sl.v a_1_Attrs, Sl.v a_1_Kids], .agg #[.int .i64 b_2_Kind, .string (Bs b_2_Name), .string (Bs b_2_Text), Sl.v b_2_Attrs, Sl.v b_2_Kids]]) Try.func25 (by decide) rfl (map_arr (ml_cons (cv_get (hA162.get rfl) hg) (ml_cons (cv_get (hA162.get rfl) hg) ml_nil))) rfl) (fun hg => hc167 (of_decide_eq_true (g_t hg))) fun a164 w165 hA164 _ hE168 => ?_)
      have hB169 := hB152.ext hE168
      have hB170 := hB153.ext hE168
      have hC171 : Chg [] w146 w165 := hE168
      have ht172 := ht166 w165 hE168
      refine sq (opk_gval hA164 rfl rfl (g := true) (e := (decide (r_108 = (0 - r_144)))) rfl (fun hg => r_beql (cv_get (hA164.get rfl) hg) (cv_get (hA164.get rfl) hg) Try.underlying4) fun a173 hA173 _ => ?_)
      refine sq (opk_val hA173 rfl (r_pick_and (g := (true && ((decide (r_108 = (0 - r_144))) == true))) (hA173.get rfl) (hA173.get rfl) (fun he => g_mkt rfl he)) fun a174 hA174 _ => ?_)
      refine sq (opk_val hA174 rfl (r_move (hA174.get rfl)) fun a175 hA175 _ => ?_)
      refine sq (opk_gval hA175 rfl rfl (g := true) (e := ((decide (r_108 = (0 - r_144))) && ((decide (r_108 = 0)) == r_163))) rfl (fun hg => r_move (hA175.get rfl)) fun a176 hA176 _ => ?_)
      refine sq (opk_gval hA176 rfl rfl (g := true) (e := ((decide (r_108 = (0 - r_144))) && ((decide (r_108 = 0)) == r_163))) rfl (fun hg => r_leq (cv_get (hA176.get rfl) hg) rfl) fun a177 hA177 _ => ?_)
      refine sq (opk_gval hA177 rfl rfl (g := true) (e := ((decide (r_108 = (0 - r_144))) && ((decide (r_108 = 0)) == r_163))) rfl (fun hg => r_move (cv_get (hA177.get rfl) hg)) fun a178 hA178 _ => ?_)
      refine sq (opk_gval hA178 rfl rfl (g := (true && (((decide (r_108 = (0 - r_144))) && ((decide (r_108 = 0)) == r_163)) == true))) (e := (decide (r_108 ≤ 0))) rfl (fun hg => r_move (hA178.get rfl)) fun a179 hA179 _ => ?_)
      refine sq (opk_gval hA179 rfl rfl (g := (true && (((decide (r_108 = (0 - r_144))) && ((decide (r_108 = 0)) == r_163)) == true))) (e := (decide (r_108 ≤ 0))) rfl (fun hg => r_leq (cv_get (hA179.get rfl) hg) rfl) fun a180 hA180 _ => ?_)
      refine sq (opk_gval hA180 rfl rfl (g := true) (e := ((decide (r_108 = (0 - r_144))) && ((decide (r_108 = 0)) == r_163))) rfl (fun hg => r_pick_and (g := ((true && (((decide (r_108 = (0 - r_144))) && ((decide (r_108 = 0)) == r_163)) == true)) && ((decide (r_108 ≤ 0)) == true))) (cv_get (hA180.get rfl) hg) (hA180.get rfl) (fun he => g_mkt hg he)) fun a181 hA181 _ => ?_)
      refine sq (opk_gval hA181 rfl rfl (g := true) (e := ((decide (r_108 = (0 - r_144))) && ((decide (r_108 = 0)) == r_163))) rfl (fun hg => r_move (cv_get (hA181.get rfl) hg)) fun a182 hA182 _ => ?_)
      refine sq (opk_gval hA182 rfl rfl (g := (true && (((decide (r_108 = (0 - r_144))) && ((decide (r_108 = 0)) == r_163)) == true))) (e := ((decide (r_108 ≤ 0)) && (decide (r_113 ≤ 0)))) rfl (fun hg => r_move (hA182.get rfl)) fun a183 hA183 _ => ?_)
      refine sq (opk_gval hA183 rfl rfl (g := (true && (((decide (r_108 = (0 - r_144))) && ((decide (r_108 = 0)) == r_163)) == true))) (e := ((decide (r_108 ≤ 0)) && (decide (r_113 ≤ 0)))) rfl (fun hg => r_gtr (cv_get (hA183.get rfl) hg) rfl) fun a184 hA184 _ => ?_)
      refine sq (opk_gval hA184 rfl rfl (g := true) (e := ((decide (r_108 = (0 - r_144))) && ((decide (r_108 = 0)) == r_163))) rfl (fun hg => r_pick_and (g := ((true && (((decide (r_108 = (0 - r_144))) && ((decide (r_108 = 0)) == r_163)) == true)) && (((decide (r_108 ≤ 0)) && (decide (r_113 ≤ 0))) == true))) (cv_get (hA184.get rfl) hg) (hA184.get rfl) (fun he => g_mkt hg he)) fun a185 hA185 _ => ?_)
      refine sq (opk_gval hA185 rfl rfl (g := true) (e := ((decide (r_108 = (0 - r_144))) && ((decide (r_108 = 0)) == r_163))) rfl (fun hg => r_not (cv_get (hA185.get rfl) hg)) fun a186 hA186 _ => ?_)
      refine sq (opk_val hA186 rfl (r_pick_and (g := (true && (((decide (r_108 = (0 - r_144))) && ((decide (r_108 = 0)) == r_163)) == true))) (hA186.get rfl) (hA186.get rfl) (fun he => g_mkt rfl he)) fun a187 hA187 _ => ?_)
      refine sq (opk_val hA187 rfl (r_move (hA187.get rfl)) fun a188 hA188 _ => ?_)
      refine sq (opk_gval hA188 rfl rfl (g := true) (e := (((decide (r_108 = (0 - r_144))) && ((decide (r_108 = 0)) == r_163)) && (!(((decide (r_108 ≤ 0)) && (decide (r_113 ≤ 0))) && (decide (0 < r_118)))))) rfl (fun hg => r_move (hA188.get rfl)) fun a189 hA189 _ => ?_)
      refine sq (opk_gval hA189 rfl rfl (g := true) (e := (((decide (r_108 = (0 - r_144))) && ((decide (r_108 = 0)) == r_163)) && (!(((decide (r_108 ≤ 0)) && (decide (r_113 ≤ 0))) && (decide (0 < r_118)))))) rfl (fun hg => r_lss (cv_get (hA189.get rfl) hg) rfl) fun a190 hA190 _ => ?_)
      refine sq (opk_gval hA190 rfl rfl (g := true) (e := (((decide (r_108 = (0 - r_144))) && ((decide (r_108 = 0)) == r_163)) && (!(((decide (r_108 ≤ 0)) && (decide (r_113 ≤ 0))) && (decide (0 < r_118)))))) rfl (fun hg => r_move (cv_get (hA190.get rfl) hg)) fun a191 hA191 _ => ?_)
      refine sq (opk_gval hA191 rfl rfl (g := (true && ((((decide (r_108 = (0 - r_144))) && ((decide (r_108 = 0)) == r_163)) && (!(((decide (r_108 ≤ 0)) && (decide (r_113 ≤ 0))) && (decide (0 < r_118))))) == true))) (e := (decide (r_108 < 0))) rfl (fun hg => r_move (hA191.get rfl)) fun a192 hA192 _ => ?_)
      refine sq (opk_gval hA192 rfl rfl (g := (true && ((((decide (r_108 = (0 - r_144))) && ((decide (r_108 = 0)) == r_163)) && (!(((decide (r_108 ≤ 0)) && (decide (r_113 ≤ 0))) && (decide (0 < r_118))))) == true))) (e := (decide (r_108 < 0))) rfl (fun hg => r_leq (cv_get (hA192.get rfl) hg) rfl) fun a193 hA193 _ => ?_)
      refine sq (opk_gval hA193 rfl rfl (g := true) (e := (((decide (r_108 = (0 - r_144))) && ((decide (r_108 = 0)) == r_163)) && (!(((decide (r_108 ≤ 0)) && (decide (r_113 ≤ 0))) && (decide (0 < r_118)))))) rfl (fun hg => r_pick_and (g := ((true && ((((decide (r_108 = (0 - r_144))) && ((decide (r_108 = 0)) == r_163)) && (!(((decide (r_108 ≤ 0)) && (decide (r_113 ≤ 0))) && (decide (0 < r_118))))) == true)) && ((decide (r_108 < 0)) == true))) (cv_get (hA193.get rfl) hg) (hA193.get rfl) (fun he => g_mkt hg he)) fun a194 hA194 _ => ?_)
      refine sq (opk_gval hA194 rfl rfl (g := true) (e := (((decide (r_108 = (0 - r_144))) && ((decide (r_108 = 0)) == r_163)) && (!(((decide (r_108 ≤ 0)) && (decide (r_113 ≤ 0))) && (decide (0 < r_118)))))) rfl (fun hg => r_move (cv_get (hA194.get rfl) hg)) fun a195 hA195 _ => ?_)
      refine sq (opk_gval hA195 rfl rfl (g := (true && ((((decide (r_108 = (0 - r_144))) && ((decide (r_108 = 0)) == r_163)) && (!(((decide (r_108 ≤ 0)) && (decide (r_113 ≤ 0))) && (decide (0 < r_118))))) == true))) (e := ((decide (r_108 < 0)) && (decide (r_113 ≤ 0)))) rfl (fun hg => r_move (hA195.get rfl)) fun a196 hA196 _ => ?_)
      refine sq (opk_gval hA196 rfl rfl (g := (true && ((((decide (r_108 = (0 - r_144))) && ((decide (r_108 = 0)) == r_163)) && (!(((decide (r_108 ≤ 0)) && (decide (r_113 ≤ 0))) && (decide (0 < r_118))))) == true))) (e := ((decide (r_108 < 0)) && (decide (r_113 ≤ 0)))) rfl (fun hg => r_geq (cv_get (hA196.get rfl) hg) rfl) fun a197 hA197 _ => ?_)
      refine sq (opk_gval hA197 rfl rfl (g := true) (e := (((decide (r_108 = (0 - r_144))) && ((decide (r_108 = 0)) == r_163)) && (!(((decide (r_108 ≤ 0)) && (decide (r_113 ≤ 0))) && (decide (0 < r_118)))))) rfl (fun hg => r_pick_and (g := ((true && ((((decide (r_108 = (0 - r_144))) && ((decide (r_108 = 0)) == r_163)) && (!(((decide (r_108 ≤ 0)) && (decide (r_113 ≤ 0))) && (decide (0 < r_118))))) == true)) && (((decide (r_108 < 0)) && (decide (r_113 ≤ 0))) == true))) (cv_get (hA197.get rfl) hg) (hA197.get rfl) (fun he => g_mkt hg he)) fun a198 hA198 _ => ?_)
      refine sq (opk_gval hA198 rfl rfl (g := true) (e := (((decide (r_108 = (0 - r_144))) && ((decide (r_108 = 0)) == r_163)) && (!(((decide (r_108 ≤ 0)) && (decide (r_113 ≤ 0))) && (decide (0 < r_118)))))) rfl (fun hg => r_not (cv_get (hA198.get rfl) hg)) fun a199 hA199 _ => ?_)
      refine sq (opk_val hA199 rfl (r_pick_and (g := (true && ((((decide (r_108 = (0 - r_144))) && ((decide (r_108 = 0)) == r_163)) && (!(((decide (r_108 ≤ 0)) && (decide (r_113 ≤ 0))) && (decide (0 < r_118))))) == true))) (hA199.get rfl) (hA199.get rfl) (fun he => g_mkt rfl he)) fun a200 hA200 _ => ?_)
      refine sq (opk_val hA200 rfl (r_move (hA200.get rfl)) fun a201 hA201 _ => ?_)
      obtain ⟨r_202, hc206, ht205⟩ := ht172
      refine sq (opk_gcall hA201 rfl rfl (g := true) (e := ((((decide (r_108 = (0 - r_144))) && ((decide (r_108 = 0)) == r_163)) && (!(((decide (r_108 ≤ 0)) && (decide (r_113 ≤ 0))) && (decide (0 < r_118))))) && (!(((decide (r_108 < 0)) && (decide (r_113 ≤ 0))) && (decide (0 ≤ r_118)))))) rfl (fun hg => r_call (args := #[]) Try.func15 (by decide) rfl (map_arr ml_nil) rfl) (fun hg => hc206 ⟨⟨⟨(of_decide_eq_true (b_and_t (b_and_t (b_and_t (g_t hg)).1).1).1), (b_and_t (b_and_t (b_and_t (g_t hg)).1).1).2⟩, ((b_and_f (b_not_t (b_and_t (b_and_t (g_t hg)).1).2)).imp (fun h => ((b_and_f h).imp (fun h => (of_decide_eq_false h)) (fun h => (of_decide_eq_false h)))) (fun h => (of_decide_eq_false h)))⟩, ((b_and_f (b_not_t (b_and_t (g_t hg)).2)).imp (fun h => ((b_and_f h).imp (fun h => (of_decide_eq_false h)) (fun h => (of_decide_eq_false h)))) (fun h => (of_decide_eq_false h)))⟩) fun a203 w204 hA203 _ hE207 => ?_)
      have hB208 := hB169.ext hE207
      have hB209 := hB170.ext hE207
      have hC210 : Chg [] w165 w204 := hE207
      have ht211 := ht205 w204 hE207
      refine sq (opk_val hA203 rfl (r_pick_and (g := (true && (((((decide (r_108 = (0 - r_144))) && ((decide (r_108 = 0)) == r_163)) && (!(((decide (r_108 ≤ 0)) && (decide (r_113 ≤ 0))) && (decide (0 < r_118))))) && (!(((decide (r_108 < 0)) && (decide (r_113 ≤ 0))) && (decide (0 ≤ r_118))))) == true))) (hA203.get rfl) (hA203.get rfl) (fun he => g_mkt rfl he)) fun a212 hA212 _ => ?_)
      refine sq (opk_val hA212 rfl (r_assign (hA212.get rfl)) fun a213 hA213 _ => ?_)
      refine sq_end ?_
      have hA214 := hA213.keep [(6, .bool (((((decide (r_108 = (0 - r_144))) && ((decide (r_108 = 0)) == r_163)) && (!(((decide (r_108 ≤ 0)) && (decide (r_113 ≤ 0))) && (decide (0 < r_118))))) && (!(((decide (r_108 < 0)) && (decide (r_113 ≤ 0))) && (decide (0 ≤ r_118))))) && r_202))] ⟨rfl, trivial⟩
      refine then_normal ?_
      refine wp_ret ?_
      exact res_all (vs := [.bool (((((decide (r_108 = (0 - r_144))) && ((decide (r_108 = 0)) == r_163)) && (!(((decide (r_108 ≤ 0)) && (decide (r_113 ≤ 0))) && (decide (0 < r_118))))) && (!(((decide (r_108 < 0)) && (decide (r_113 ≤ 0))) && (decide (0 ≤ r_118))))) && r_202)]) rfl hA214 ⟨res_of_tmp hA214 rfl, trivial⟩ ht211

end Go.Proofs.Ytpacegmmbabhjaa
