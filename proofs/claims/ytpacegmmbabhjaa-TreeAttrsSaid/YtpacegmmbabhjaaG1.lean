/-
  PRINTED BY PROGRAM: for each function its condition (vc), and that this suffices (ok).
-/
import Derived.Test.YtpacegmmbabhjaaGT
namespace Go.Proofs.Ytpacegmmbabhjaa
open Go.RowKit
set_option linter.unusedVariables false

/-- The condition of topiary/topiarylaw05.TreeSpoilt. -/
def law05_TreeSpoilt.vc (l_1 : Sl) (at_2 : Int) (how_3 : Int) (R : Value → World → Prop) (w : World) : Prop :=
CallK Try.prog 11 #[Sl.v l_1] w [] (fun v w9 => ∃ (r_7_Kind : Int) (r_7_Name : Str) (r_7_Text : Str) (r_7_Attrs : Sl) (r_7_Kids : Sl), v = .agg #[.int .i64 r_7_Kind, .string (Bs r_7_Name), .string (Bs r_7_Text), Sl.v r_7_Attrs, Sl.v r_7_Kids] ∧
∀ (w23 : World) (B_15 : Nat), New w9 B_15 w23 → Chg [] w9 w23 →
CallK Try.prog 13 #[.agg #[.int .i64 r_7_Kind, .string (Bs r_7_Name), .string (Bs r_7_Text), Sl.v r_7_Attrs, Sl.v r_7_Kids]] w23 [B_15] (fun v w35 => ∃ (r_33_Kind : Int) (r_33_Name : Str) (r_33_Text : Str) (r_33_Attrs : Sl) (r_33_Kids : Sl), v = .agg #[.int .i64 r_33_Kind, .string (Bs r_33_Name), .string (Bs r_33_Text), Sl.v r_33_Attrs, Sl.v r_33_Kids] ∧
CallK Try.prog 12 #[.agg #[.int .i64 r_33_Kind, .string (Bs r_33_Name), .string (Bs r_33_Text), Sl.v r_33_Attrs, Sl.v r_33_Kids]] w35 [B_15] (fun v w44 => ∃ (r_42 : Bool), v = .bool r_42 ∧
((r_42 = false) →
R (.bool false) w44) ∧
((r_42 = true) →
∀ (w57 : World), Chg [] w44 w57 →
∃ (r_67 : Int), (∀ w' : World, Ext w57 w' → Calls Try.prog 14 #[.int .i64 at_2, .int .i64 (r_7_Kids.n : Int)] w' (Ret fun v w'' => Ext w' w'' ∧ v = .int .i64 r_67)) ∧
∃ p_72 : Addr, (((0 : Int) ≤ r_67 ∧ r_67 < (r_7_Kids.n : Int)) ∧ r_7_Kids.a = some p_72) ∧
∀ (w77 : World), Chg [] w57 w77 →
CallK Try.prog 14 #[.int .i64 how_3, .int .i64 6] w77 [B_15] (fun v w91 => ∃ (r_89 : Int), v = .int .i64 r_89 ∧
∃ J_266 : World → Prop,
(((r_89 = 0) →
∃ (B_281 o_282 : Nat) (T_283 : TypeId) (cs_284 : List Value), ((p_72.add (r_67.toNat * 5)).add 0) = ⟨B_281, o_282, none⟩ ∧ Box w91 B_281 T_283 cs_284 ∧ o_282 + 1 ≤ cs_284.length ∧ (∀ b ∈ [B_15], b ≠ B_281) ∧
(∀ w277 : World, Chg [B_281] w91 w277 → Box w277 B_281 T_283 (putAt cs_284 o_282 [.int .i64 1]) →
J_266 w277)) ∧
((¬ (r_89 = 0)) →
((r_89 = 1) →
∃ (B_306 o_307 : Nat) (T_308 : TypeId) (cs_309 : List Value), ((p_72.add (r_67.toNat * 5)).add 0) = ⟨B_306, o_307, none⟩ ∧ Box w91 B_306 T_308 cs_309 ∧ o_307 + 1 ≤ cs_309.length ∧ (∀ b ∈ [B_15], b ≠ B_306) ∧
(∀ w302 : World, Chg [B_306] w91 w302 → Box w302 B_306 T_308 (putAt cs_309 o_307 [.int .i64 0]) →
J_266 w302)) ∧
((¬ (r_89 = 1)) →
((r_89 = 2) →
∃ (B_331 o_332 : Nat) (T_333 : TypeId) (cs_334 : List Value), (p_72.add (r_67.toNat * 5)) = ⟨B_331, o_332, none⟩ ∧ Box w91 B_331 T_333 cs_334 ∧ o_332 + 5 ≤ cs_334.length ∧ (∀ b ∈ [B_15], b ≠ B_331) ∧
(∀ w327 : World, Chg [B_331] w91 w327 → Box w327 B_331 T_333 (putAt cs_334 o_332 [.int .i64 3, .string (Bs ([] : Str)), .string (Bs ([] : Str)), Sl.v Sl.nil, Sl.v Sl.nil]) →
J_266 w327)) ∧
((¬ (r_89 = 2)) →
((r_89 = 3) →
∃ (B_356 o_357 : Nat) (T_358 : TypeId) (cs_359 : List Value), (p_72.add (r_67.toNat * 5)) = ⟨B_356, o_357, none⟩ ∧ Box w91 B_356 T_358 cs_359 ∧ o_357 + 5 ≤ cs_359.length ∧ (∀ b ∈ [B_15], b ≠ B_356) ∧
(∀ w352 : World, Chg [B_356] w91 w352 → Box w352 B_356 T_358 (putAt cs_359 o_357 [.int .i64 2, .string (Bs ([65] : Str)), .string (Bs ([] : Str)), Sl.v Sl.nil, Sl.v Sl.nil]) →
J_266 w352)) ∧
((¬ (r_89 = 3)) →
((r_89 = 4) →
∀ (w378 : World) (B_377 : Nat), New w91 B_377 w378 → Chg [] w91 w378 →
∀ (_ : Box w378 B_377 33 [.string (Bs ([121] : Str)), .string (Bs ([] : Str)), .string (Bs ([120] : Str)), .string (Bs ([] : Str))]),
∃ (B_395 o_396 : Nat) (T_397 : TypeId) (cs_398 : List Value), (p_72.add (r_67.toNat * 5)) = ⟨B_395, o_396, none⟩ ∧ Box w378 B_395 T_397 cs_398 ∧ o_396 + 5 ≤ cs_398.length ∧ (∀ b ∈ [B_15], b ≠ B_395) ∧
(∀ w389 : World, Chg [B_395] w378 w389 → Box w389 B_395 T_397 (putAt cs_398 o_396 [.int .i64 2, .string (Bs ([97] : Str)), .string (Bs ([] : Str)), Sl.v (Sl.mk (some ⟨B_377, 0, none⟩) 2 2), Sl.v Sl.nil]) →
J_266 w389)) ∧
((¬ (r_89 = 4)) →
∀ (w411 : World) (B_410 : Nat), New w91 B_410 w411 → Chg [] w91 w411 →
∀ (_ : Box w411 B_410 26 [.int .i64 3, .string (Bs ([] : Str)), .string (Bs ([97] : Str)), Sl.v Sl.nil, Sl.v Sl.nil]),
∃ (B_428 o_429 : Nat) (T_430 : TypeId) (cs_431 : List Value), (p_72.add (r_67.toNat * 5)) = ⟨B_428, o_429, none⟩ ∧ Box w411 B_428 T_430 cs_431 ∧ o_429 + 5 ≤ cs_431.length ∧ (∀ b ∈ [B_15], b ≠ B_428) ∧
(∀ w422 : World, Chg [B_428] w411 w422 → Box w422 B_428 T_430 (putAt cs_431 o_429 [.int .i64 4, .string (Bs ([] : Str)), .string (Bs ([] : Str)), Sl.v Sl.nil, Sl.v (Sl.mk (some ⟨B_410, 0, none⟩) 1 1)]) →
J_266 w422))))))) ∧
(∀ (w265 : World), J_266 w265 →
CallK Try.prog 12 #[.agg #[.int .i64 r_7_Kind, .string (Bs r_7_Name), .string (Bs r_7_Text), Sl.v r_7_Attrs, Sl.v r_7_Kids]] w265 [B_15] (fun v w447 => ∃ (r_445 : Bool), v = .bool r_445 ∧
∃ (r_456 : Bool), (((r_445 = false)) → Calls Try.prog 15 #[] w447 (Ret fun v w' => Ext w447 w' ∧ v = .bool r_456)) ∧
(∀ w458 : World, Ext w447 w458 →
R (.bool ((!r_445) && r_456)) w458))))))))
set_option maxHeartbeats 1000000 in
set_option maxRecDepth 10000 in
theorem law05_TreeSpoilt.ok (l_1 : Sl) (at_2 : Int) (how_3 : Int) {R : Value → World → Prop} {w : World} (ht0 : law05_TreeSpoilt.vc l_1 at_2 how_3 R w) : Calls Try.prog 3 #[Sl.v l_1, .int .i64 at_2, .int .i64 how_3] w (Ret R) := by
  refine enter [Sl.v l_1, .int .i64 at_2, .int .i64 how_3] Try.func3 rfl Try.ntmps3 rfl ?_
  intro a0 hA0
  unfold law05_TreeSpoilt.vc at ht0
  refine wp_seq ?_
  refine wp_region_lit ?_
  refine sq (opk_val hA0 rfl (r_assign rfl) fun a4 hA4 _ => ?_)
  refine sq_end ?_
  have hA5 := hA4.keep [(0, Sl.v l_1), (1, .int .i64 at_2), (2, .int .i64 how_3)] ⟨rfl, rfl, rfl, trivial⟩
  refine then_normal ?_
  refine wp_seq ?_
  refine wp_region_lit ?_
  refine sq (opk_val hA5 rfl (r_move (hA5.get rfl)) fun a6 hA6 _ => ?_)
  refine sq (opk_call hA6 rfl (r_call (args := #[Sl.v l_1]) Try.func11 (by decide) rfl (map_arr (ml_cons (hA6.get rfl) ml_nil)) rfl) ht0 fun a8 v14 w9 hA8 _ hn11 hz12 hK13 => ?_)
  obtain ⟨r_7_Kind, r_7_Name, r_7_Text, r_7_Attrs, r_7_Kids, rfl, ht10⟩ := hK13
  refine sq (opk_new (fun B => .pointer (some ⟨B, 0, none⟩)) hA8 rfl (r_alloc (cs := [.int .i64 0, .string (Bs ([] : Str)), .string (Bs ([] : Str)), Sl.v Sl.nil, Sl.v Sl.nil]) ti_26 rfl) fun a17 w16 B_15 hE18 hN19 hB20 hA17 _ => ?_)
  have hN21 : New w9 B_15 w16 := hN19
  have hC22 : Chg [] w9 w16 := hE18
  refine sq (opk_store hA17 hB20 (r_store (vs := [.int .i64 r_7_Kind, .string (Bs r_7_Name), .string (Bs r_7_Text), Sl.v r_7_Attrs, Sl.v r_7_Kids]) (hA17.get rfl) (hA17.get rfl) rfl ti_26 hB20 rfl (ones_all [.int .i64 r_7_Kind, .string (Bs r_7_Name), .string (Bs r_7_Text), Sl.v r_7_Attrs, Sl.v r_7_Kids] rfl)) fun a24 w23 hS25 hB26 hA24 => ?_)
  have hB27 : Box w23 B_15 26 [.int .i64 r_7_Kind, .string (Bs r_7_Name), .string (Bs r_7_Text), Sl.v r_7_Attrs, Sl.v r_7_Kids] := hB26
  have hC28 := hC22.storeNew hN21 hS25
  have hN29 := hN21.up hS25.size
  refine sq_end ?_
  have hA30 := hA24.keep [(1, .int .i64 at_2), (2, .int .i64 how_3), (7, .pointer (some ⟨B_15, 0, none⟩))] ⟨rfl, rfl, rfl, trivial⟩
  refine then_normal ?_
  refine wp_seq ?_
  refine wp_seq ?_
  refine wp_region_lit ?_
  refine sq (opk_val hA30 rfl (r_loadN (cs := [.int .i64 r_7_Kind, .string (Bs r_7_Name), .string (Bs r_7_Text), Sl.v r_7_Attrs, Sl.v r_7_Kids]) Try.underlying26 rfl ti_26 (hA30.get rfl) (hB27.part 0 _ rfl)) fun a31 hA31 _ => ?_)
  have ht32 := ht10 w23 B_15 hN29  hC28
  refine sq (opk_call hA31 rfl (r_call (args := #[.agg #[.int .i64 r_7_Kind, .string (Bs r_7_Name), .string (Bs r_7_Text), Sl.v r_7_Attrs, Sl.v r_7_Kids]]) Try.func13 (by decide) rfl (map_arr (ml_cons (hA31.get rfl) ml_nil)) rfl) ht32 fun a34 v40 w35 hA34 _ hn37 hz38 hK39 => ?_)
  obtain ⟨r_33_Kind, r_33_Name, r_33_Text, r_33_Attrs, r_33_Kids, rfl, ht36⟩ := hK39
  have hB41 := hB27.kept hn37 (.head _)
  refine sq (opk_call hA34 rfl (r_call (args := #[.agg #[.int .i64 r_33_Kind, .string (Bs r_33_Name), .string (Bs r_33_Text), Sl.v r_33_Attrs, Sl.v r_33_Kids]]) Try.func12 (by decide) rfl (map_arr (ml_cons (hA34.get rfl) ml_nil)) rfl) ht36 fun a43 v49 w44 hA43 _ hn46 hz47 hK48 => ?_)
  obtain ⟨r_42, rfl, ht45⟩ := hK48
  have hB50 := hB41.kept hn46 (.head _)
  refine sq (opk_val hA43 rfl (r_not (hA43.get rfl)) fun a51 hA51 _ => ?_)
  refine sq_end ?_
  have hA52 := hA51.keep [(1, .int .i64 at_2), (2, .int .i64 how_3), (7, .pointer (some ⟨B_15, 0, none⟩)), (14, .bool (!r_42))] ⟨rfl, rfl, rfl, rfl, trivial⟩
  refine then_normal ?_
  refine wp_cond_split (hA52.get rfl) (fun hc => ?_) (fun hc => ?_)
  · have ht53 := ht45.1 (b_not_t hc)
    clear hc
    refine wp_seq ?_
    refine wp_region_lit ?_
    refine sq (opk_val hA52 rfl (r_assign rfl) fun a55 hA55 _ => ?_)
    refine sq_end ?_
    have hA56 := hA55.keep [(6, .bool false)] ⟨rfl, trivial⟩
    refine then_normal ?_
    refine wp_ret ?_
    refine then_ret ?_
    exact res_all (vs := [.bool false]) rfl hA56 ⟨res_of_tmp hA56 rfl, trivial⟩ ht53
  · have ht54 := ht45.2 (b_not_f hc)
    clear hc
    refine wp_skip ?_
    refine then_normal ?_
    refine wp_seq ?_
    refine draw' (by kernel_rfl) fun w57 hE58 => ?_
    have hB59 := hB50.ext hE58
    have hC60 : Chg [] w44 w57 := hE58
    have ht61 := ht54 w57    hC60
    obtain ⟨r_67, hc68, ht69⟩ := ht61
    obtain ⟨p_72, hp73, ht74⟩ := ht69
    refine par (D := [[], [0], [], [], [3], [3, 4], [2, 3, 4, 5], [0, 1, 2, 3, 4, 5, 6], [0, 1, 2, 3, 4, 5, 6, 7]]) (S := [0, 1, 2, 3, 4, 5, 6, 7, 8]) (F := []) (V := VL [(0, fun v _ => v = .pointer (some ⟨B_15, 4, none⟩)), (1, fun v _ => v = Sl.v r_7_Kids), (2, fun v _ => v = .int .i64 at_2), (3, fun v _ => v = .pointer (some ⟨B_15, 4, none⟩)), (4, fun v _ => v = Sl.v r_7_Kids), (5, fun v _ => v = .int .i64 (r_7_Kids.n : Int)), (6, fun v _ => v = .int .i64 r_67), (7, fun v _ => v = .pointer (some (p_72.add (r_67.toNat * 5)))), (8, fun v _ => v = .pointer (some (p_72.add (r_67.toNat * 5))))]) hA52 (by kernel_rfl) ⟨fun _ _ _ _ h => by first | exact h | (change _ = _ at h; change _ = _; exact h), fun _ _ _ _ h => by first | exact h | (change _ = _ at h; change _ = _; exact h), fun _ _ _ _ h => by first | exact h | (change _ = _ at h; change _ = _; exact h), fun _ _ _ _ h => by first | exact h | (change _ = _ at h; change _ = _; exact h), fun _ _ _ _ h => by first | exact h | (change _ = _ at h; change _ = _; exact h), fun _ _ _ _ h => by first | exact h | (change _ = _ at h; change _ = _; exact h), fun _ _ _ _ h => by first | exact h | (change _ = _ at h; change _ = _; exact h), fun _ _ _ _ h => by first | exact h | (change _ = _ at h; change _ = _; exact h), fun _ _ _ _ h => by first | exact h | (change _ = _ at h; change _ = _; exact h), trivial⟩ ⟨?_, ?_, ?_, ?_, ?_, ?_, ?_, ?_, ?_, trivial⟩ ?_
    · intro a w hT
      have hAp := hT.ag hA52 [(7, .pointer (some ⟨B_15, 0, none⟩))] ⟨rfl, trivial⟩ (by kernel_rfl)
      exact opk_val hAp rfl (r_fieldAddr (hAp.get rfl) Try.underlying26 rfl ti_24 (by decide)) fun _ _ e => ⟨_, e, Chg.refl _ _, fun _ => Eq.refl _⟩
    · intro a w hT
      have hAp := hT.ag hA52 [] trivial (by kernel_rfl)
      have e62 : a.tmps.getD 15 undef = .pointer (some ⟨B_15, 4, none⟩) := hT.vals 0 rfl 15 rfl
      have hAp := hAp.add e62
      exact opk_val hAp rfl (r_load1 Try.underlying24 rfl (hAp.get rfl) ((hB59.ext hT.chg).cell 4 _ rfl)) fun _ _ e => ⟨_, e, Chg.refl _ _, fun _ => Eq.refl _⟩
    · intro a w hT
      have hAp := hT.ag hA52 [(1, .int .i64 at_2)] ⟨rfl, trivial⟩ (by kernel_rfl)
      exact opk_val hAp rfl (r_move (hAp.get rfl)) fun _ _ e => ⟨_, e, Chg.refl _ _, fun _ => Eq.refl _⟩
    · intro a w hT
      have hAp := hT.ag hA52 [(7, .pointer (some ⟨B_15, 0, none⟩))] ⟨rfl, trivial⟩ (by kernel_rfl)
      exact opk_val hAp rfl (r_fieldAddr (hAp.get rfl) Try.underlying26 rfl ti_24 (by decide)) fun _ _ e => ⟨_, e, Chg.refl _ _, fun _ => Eq.refl _⟩
    · intro a w hT
      have hAp := hT.ag hA52 [] trivial (by kernel_rfl)
      have e63 : a.tmps.getD 18 undef = .pointer (some ⟨B_15, 4, none⟩) := hT.vals 3 rfl 18 rfl
      have hAp := hAp.add e63
      exact opk_val hAp rfl (r_load1 Try.underlying24 rfl (hAp.get rfl) ((hB59.ext hT.chg).cell 4 _ rfl)) fun _ _ e => ⟨_, e, Chg.refl _ _, fun _ => Eq.refl _⟩
    · intro a w hT
      have hAp := hT.ag hA52 [] trivial (by kernel_rfl)
      have e64 : a.tmps.getD 19 undef = Sl.v r_7_Kids := hT.vals 4 rfl 19 rfl
      have hAp := hAp.add e64
      exact opk_val hAp rfl (r_len (hAp.get rfl) Try.underlying24) fun _ _ e => ⟨_, e, Chg.refl _ _, fun _ => Eq.refl _⟩
    · intro a w hT
      have hAp := hT.ag hA52 [] trivial (by kernel_rfl)
      have e65 : a.tmps.getD 17 undef = .int .i64 at_2 := hT.vals 2 rfl 17 rfl
      have hAp := hAp.add e65
      have e66 : a.tmps.getD 20 undef = .int .i64 (r_7_Kids.n : Int) := hT.vals 5 rfl 20 rfl
      have hAp := hAp.add e66
      exact opk_callX hAp rfl (r_call (args := #[.int .i64 at_2, .int .i64 (r_7_Kids.n : Int)]) Try.func14 (by decide) rfl (map_arr (ml_cons (hAp.get rfl) (ml_cons (hAp.get rfl) ml_nil))) rfl) (hc68 w hT.chg) fun _ _ _ _ e hR => ⟨_, e, hR.1, fun _ => hR.2⟩
    · intro a w hT
      have hAp := hT.ag hA52 [] trivial (by kernel_rfl)
      have e70 : a.tmps.getD 16 undef = Sl.v r_7_Kids := hT.vals 1 rfl 16 rfl
      have hAp := hAp.add e70
      have e71 : a.tmps.getD 21 undef = .int .i64 r_67 := hT.vals 6 rfl 21 rfl
      have hAp := hAp.add e71
      exact opk_val hAp rfl (r_indexAddr (hAp.get rfl) (hAp.get rfl) Try.underlying24 ti_26 hp73.1 hp73.2) fun _ _ e => ⟨_, e, Chg.refl _ _, fun _ => Eq.refl _⟩
    · intro a w hT
      have hAp := hT.ag hA52 [] trivial (by kernel_rfl)
      have e75 : a.tmps.getD 22 undef = .pointer (some (p_72.add (r_67.toNat * 5))) := hT.vals 7 rfl 22 rfl
      have hAp := hAp.add e75
      exact opk_val hAp rfl (r_assign (hAp.get rfl)) fun _ _ e => ⟨_, e, Chg.refl _ _, fun _ => Eq.refl _⟩
    · intro a76 w77 hE78 hag79 hv80
      have hA76 := hag79 [(2, .int .i64 how_3), (7, .pointer (some ⟨B_15, 0, none⟩))] ⟨rfl, rfl, trivial⟩ (by kernel_rfl)
      have e82 : a76.tmps.getD 8 undef = .pointer (some (p_72.add (r_67.toNat * 5))) := hv80 8 rfl 8 rfl
      have hA83 := hA76.add e82
      have hB84 := hB59.ext hE78
      have hC85 : Chg [] w57 w77 := hE78
      refine PR_end (by kernel_rfl) ?_
      have hA86 := hA83.keep [(2, .int .i64 how_3), (7, .pointer (some ⟨B_15, 0, none⟩)), (8, .pointer (some (p_72.add (r_67.toNat * 5))))] ⟨rfl, rfl, rfl, trivial⟩
      refine then_normal ?_
      refine wp_seq ?_
      refine wp_seq ?_
      refine wp_region_lit ?_
      refine sq (opk_val hA86 rfl (r_move (hA86.get rfl)) fun a87 hA87 _ => ?_)
      have ht88 := ht74 w77    hC85
      refine sq (opk_call hA87 rfl (r_call (args := #[.int .i64 how_3, .int .i64 6]) Try.func14 (by decide) rfl (map_arr (ml_cons (hA87.get rfl) (ml_cons rfl ml_nil))) rfl) ht88 fun a90 v96 w91 hA90 _ hn93 hz94 hK95 => ?_)
      obtain ⟨r_89, rfl, ht92⟩ := hK95
      have hB97 := hB84.kept hn93 (.head _)
      refine sq_end ?_
      have hA98 := hA90.keep [(7, .pointer (some ⟨B_15, 0, none⟩)), (8, .pointer (some (p_72.add (r_67.toNat * 5)))), (24, .int .i64 r_89)] ⟨rfl, rfl, rfl, trivial⟩
      refine then_normal ?_
      obtain ⟨J_266, ht267, hr268⟩ := ht92
      refine wp_meet (fun a w => Ag 64 a [(7, .pointer (some ⟨B_15, 0, none⟩))] ∧ Box w B_15 26 [.int .i64 r_7_Kind, .string (Bs r_7_Name), .string (Bs r_7_Text), Sl.v r_7_Attrs, Sl.v r_7_Kids] ∧ J_266 w) ?_ ?_
      · refine wp_block ?_
        refine wp_seq ?_
        refine wp_region_lit ?_
        refine sq (opk_val hA98 rfl (r_eql (hA98.get rfl) rfl) fun a269 hA269 _ => ?_)
        refine sq (opk_val hA269 rfl (r_assign (hA269.get rfl)) fun a270 hA270 _ => ?_)
        refine sq_end ?_
        have hA271 := hA270.keep [(7, .pointer (some ⟨B_15, 0, none⟩)), (8, .pointer (some (p_72.add (r_67.toNat * 5)))), (24, .int .i64 r_89), (30, .bool (decide (r_89 = 0)))] ⟨rfl, rfl, rfl, rfl, trivial⟩
        refine then_normal ?_
        refine wp_cond_split (hA271.get rfl) (fun hc => ?_) (fun hc => ?_)
        · have ht272 := ht267.1 (of_decide_eq_true hc)
          clear hc
          refine wp_region_lit ?_
          refine sq (opk_val hA271 rfl (r_move (hA271.get rfl)) fun a274 hA274 _ => ?_)
          refine sq (opk_val hA274 rfl (r_nilCheck (hA274.get rfl)) fun a275 hA275 _ => ?_)
          refine sq (opk_val hA275 rfl (r_fieldAddr (hA275.get rfl) Try.underlying26 rfl ti_3 (by decide)) fun a276 hA276 _ => ?_)
          obtain ⟨B_281, o_282, T_283, cs_284, he285, hb286, hl287, hx288, ht289⟩ := ht272
          refine sq (opk_store hA276 hb286 (r_store (vs := [.int .i64 1]) (((hA276.get rfl)).trans (congrArg (fun a => Value.pointer (some a)) he285)) rfl rfl ti_3 hb286 (Nat.ble_eq_true_of_le hl287) (ones_all [.int .i64 1] rfl)) fun a278 w277 hS279 hB280 hA278 => ?_)
          have hB290 := hB97.keep hS279 (by have := hx288 B_15 (by simp); simpa using this)
          have ht291 := ht289 w277 hS279 hB280
          refine sq_end ?_
          have hA292 := hA278.keep [(7, .pointer (some ⟨B_15, 0, none⟩))] ⟨rfl, trivial⟩
          refine block_normal ?_
          have hA293 := hA292.keep [(7, .pointer (some ⟨B_15, 0, none⟩))] ⟨rfl, trivial⟩
          exact then_normal ⟨hA293, hB290, ht291⟩
        · have ht273 := ht267.2 (of_decide_eq_false hc)
          clear hc
          refine wp_seq ?_
          refine wp_region_lit ?_
          refine sq (opk_val hA271 rfl (r_eql (hA271.get rfl) rfl) fun a294 hA294 _ => ?_)
          refine sq (opk_val hA294 rfl (r_assign (hA294.get rfl)) fun a295 hA295 _ => ?_)
          refine sq_end ?_
          have hA296 := hA295.keep [(7, .pointer (some ⟨B_15, 0, none⟩)), (8, .pointer (some (p_72.add (r_67.toNat * 5)))), (24, .int .i64 r_89), (35, .bool (decide (r_89 = 1)))] ⟨rfl, rfl, rfl, rfl, trivial⟩
          refine then_normal ?_
          refine wp_cond_split (hA296.get rfl) (fun hc => ?_) (fun hc => ?_)
          · have ht297 := ht273.1 (of_decide_eq_true hc)
            clear hc
            refine wp_region_lit ?_
            refine sq (opk_val hA296 rfl (r_move (hA296.get rfl)) fun a299 hA299 _ => ?_)
            refine sq (opk_val hA299 rfl (r_nilCheck (hA299.get rfl)) fun a300 hA300 _ => ?_)
            refine sq (opk_val hA300 rfl (r_fieldAddr (hA300.get rfl) Try.underlying26 rfl ti_3 (by decide)) fun a301 hA301 _ => ?_)
            obtain ⟨B_306, o_307, T_308, cs_309, he310, hb311, hl312, hx313, ht314⟩ := ht297
            refine sq (opk_store hA301 hb311 (r_store (vs := [.int .i64 0]) (((hA301.get rfl)).trans (congrArg (fun a => Value.pointer (some a)) he310)) rfl rfl ti_3 hb311 (Nat.ble_eq_true_of_le hl312) (ones_all [.int .i64 0] rfl)) fun a303 w302 hS304 hB305 hA303 => ?_)
            have hB315 := hB97.keep hS304 (by have := hx313 B_15 (by simp); simpa using this)
            have ht316 := ht314 w302 hS304 hB305
            refine sq_end ?_
            have hA317 := hA303.keep [(7, .pointer (some ⟨B_15, 0, none⟩))] ⟨rfl, trivial⟩
            refine block_normal ?_
            have hA318 := hA317.keep [(7, .pointer (some ⟨B_15, 0, none⟩))] ⟨rfl, trivial⟩
            exact then_normal ⟨hA318, hB315, ht316⟩
          · have ht298 := ht273.2 (of_decide_eq_false hc)
            clear hc
            refine wp_seq ?_
            refine wp_region_lit ?_
            refine sq (opk_val hA296 rfl (r_eql (hA296.get rfl) rfl) fun a319 hA319 _ => ?_)
            refine sq (opk_val hA319 rfl (r_assign (hA319.get rfl)) fun a320 hA320 _ => ?_)
            refine sq_end ?_
            have hA321 := hA320.keep [(7, .pointer (some ⟨B_15, 0, none⟩)), (8, .pointer (some (p_72.add (r_67.toNat * 5)))), (24, .int .i64 r_89), (40, .bool (decide (r_89 = 2)))] ⟨rfl, rfl, rfl, rfl, trivial⟩
            refine then_normal ?_
            refine wp_cond_split (hA321.get rfl) (fun hc => ?_) (fun hc => ?_)
            · have ht322 := ht298.1 (of_decide_eq_true hc)
              clear hc
              refine wp_region_lit ?_
              refine sq (opk_val hA321 rfl (r_move (hA321.get rfl)) fun a324 hA324 _ => ?_)
              refine sq (opk_val hA324 rfl (r_build (vs := #[(0, .int .i64 3)]) (cells := #[.int .i64 3, .string (Bs ([] : Str)), .string (Bs ([] : Str)), Sl.v Sl.nil, Sl.v Sl.nil]) (map_arr2 (ml2_cons rfl (ml2_nil))) ti_26 Try.underlying26 pl_26 (by kernel_rfl)) fun a325 hA325 _ => ?_)
              refine sq (opk_val hA325 rfl (r_nilCheck (hA325.get rfl)) fun a326 hA326 _ => ?_)
              obtain ⟨B_331, o_332, T_333, cs_334, he335, hb336, hl337, hx338, ht339⟩ := ht322
              refine sq (opk_store hA326 hb336 (r_store (vs := [.int .i64 3, .string (Bs ([] : Str)), .string (Bs ([] : Str)), Sl.v Sl.nil, Sl.v Sl.nil]) (((hA326.get rfl)).trans (congrArg (fun a => Value.pointer (some a)) he335)) (hA326.get rfl) rfl ti_26 hb336 (Nat.ble_eq_true_of_le hl337) (ones_all [.int .i64 3, .string (Bs ([] : Str)), .string (Bs ([] : Str)), Sl.v Sl.nil, Sl.v Sl.nil] rfl)) fun a328 w327 hS329 hB330 hA328 => ?_)
              have hB340 := hB97.keep hS329 (by have := hx338 B_15 (by simp); simpa using this)
              have ht341 := ht339 w327 hS329 hB330
              refine sq_end ?_
              have hA342 := hA328.keep [(7, .pointer (some ⟨B_15, 0, none⟩))] ⟨rfl, trivial⟩
              refine block_normal ?_
              have hA343 := hA342.keep [(7, .pointer (some ⟨B_15, 0, none⟩))] ⟨rfl, trivial⟩
              exact then_normal ⟨hA343, hB340, ht341⟩
            · have ht323 := ht298.2 (of_decide_eq_false hc)
              clear hc
              refine wp_seq ?_
              refine wp_region_lit ?_
              refine sq (opk_val hA321 rfl (r_eql (hA321.get rfl) rfl) fun a344 hA344 _ => ?_)
              refine sq (opk_val hA344 rfl (r_assign (hA344.get rfl)) fun a345 hA345 _ => ?_)
              refine sq_end ?_
              have hA346 := hA345.keep [(7, .pointer (some ⟨B_15, 0, none⟩)), (8, .pointer (some (p_72.add (r_67.toNat * 5)))), (24, .int .i64 r_89), (45, .bool (decide (r_89 = 3)))] ⟨rfl, rfl, rfl, rfl, trivial⟩
              refine then_normal ?_
              refine wp_cond_split (hA346.get rfl) (fun hc => ?_) (fun hc => ?_)
              · have ht347 := ht323.1 (of_decide_eq_true hc)
                clear hc
                refine wp_region_lit ?_
                refine sq (opk_val hA346 rfl (r_move (hA346.get rfl)) fun a349 hA349 _ => ?_)
                refine sq (opk_val hA349 rfl (r_build (vs := #[(0, .int .i64 2), (1, .string (Bs ([65] : Str)))]) (cells := #[.int .i64 2, .string (Bs ([65] : Str)), .string (Bs ([] : Str)), Sl.v Sl.nil, Sl.v Sl.nil]) (map_arr2 (ml2_cons rfl (ml2_cons rfl (ml2_nil)))) ti_26 Try.underlying26 pl_26 (by kernel_rfl)) fun a350 hA350 _ => ?_)
                refine sq (opk_val hA350 rfl (r_nilCheck (hA350.get rfl)) fun a351 hA351 _ => ?_)
                obtain ⟨B_356, o_357, T_358, cs_359, he360, hb361, hl362, hx363, ht364⟩ := ht347
                refine sq (opk_store hA351 hb361 (r_store (vs := [.int .i64 2, .string (Bs ([65] : Str)), .string (Bs ([] : Str)), Sl.v Sl.nil, Sl.v Sl.nil]) (((hA351.get rfl)).trans (congrArg (fun a => Value.pointer (some a)) he360)) (hA351.get rfl) rfl ti_26 hb361 (Nat.ble_eq_true_of_le hl362) (ones_all [.int .i64 2, .string (Bs ([65] : Str)), .string (Bs ([] : Str)), Sl.v Sl.nil, Sl.v Sl.nil] rfl)) fun a353 w352 hS354 hB355 hA353 => ?_)
                have hB365 := hB97.keep hS354 (by have := hx363 B_15 (by simp); simpa using this)
                have ht366 := ht364 w352 hS354 hB355
                refine sq_end ?_
                have hA367 := hA353.keep [(7, .pointer (some ⟨B_15, 0, none⟩))] ⟨rfl, trivial⟩
                refine block_normal ?_
                have hA368 := hA367.keep [(7, .pointer (some ⟨B_15, 0, none⟩))] ⟨rfl, trivial⟩
                exact then_normal ⟨hA368, hB365, ht366⟩
              · have ht348 := ht323.2 (of_decide_eq_false hc)
                clear hc
                refine wp_seq ?_
                refine wp_region_lit ?_
                refine sq (opk_val hA346 rfl (r_eql (hA346.get rfl) rfl) fun a369 hA369 _ => ?_)
                refine sq (opk_val hA369 rfl (r_assign (hA369.get rfl)) fun a370 hA370 _ => ?_)
                refine sq_end ?_
                have hA371 := hA370.keep [(7, .pointer (some ⟨B_15, 0, none⟩)), (8, .pointer (some (p_72.add (r_67.toNat * 5)))), (50, .bool (decide (r_89 = 4)))] ⟨rfl, rfl, rfl, trivial⟩
                refine then_normal ?_
                refine wp_cond_split (hA371.get rfl) (fun hc => ?_) (fun hc => ?_)
                · have ht372 := ht348.1 (of_decide_eq_true hc)
                  clear hc
                  refine wp_region_lit ?_
                  refine sq (opk_val hA371 rfl (r_move (hA371.get rfl)) fun a374 hA374 _ => ?_)
                  refine sq (opk_val hA374 rfl (r_build (vs := #[(0, .string (Bs ([121] : Str)))]) (cells := #[.string (Bs ([121] : Str)), .string (Bs ([] : Str))]) (map_arr2 (ml2_cons rfl (ml2_nil))) ti_33 Try.underlying33 pl_33 (by kernel_rfl)) fun a375 hA375 _ => ?_)
                  refine sq (opk_val hA375 rfl (r_build (vs := #[(0, .string (Bs ([120] : Str)))]) (cells := #[.string (Bs ([120] : Str)), .string (Bs ([] : Str))]) (map_arr2 (ml2_cons rfl (ml2_nil))) ti_33 Try.underlying33 pl_33 (by kernel_rfl)) fun a376 hA376 _ => ?_)
                  refine sq (opk_new (fun B => .slice (some ⟨B, 0, none⟩) 2 2) hA376 rfl (r_buildSlice (vs := #[(0, .agg #[.string (Bs ([121] : Str)), .string (Bs ([] : Str))]), (1, .agg #[.string (Bs ([120] : Str)), .string (Bs ([] : Str))])]) (cs := [.string (Bs ([121] : Str)), .string (Bs ([] : Str)), .string (Bs ([120] : Str)), .string (Bs ([] : Str))]) (map_arr2 (ml2_cons (hA376.get rfl) (ml2_cons (hA376.get rfl) (ml2_nil)))) Try.underlying23 ti_33 rfl rfl (by kernel_rfl)) fun a379 w378 B_377 hE380 hN381 hB382 hA379 _ => ?_)
                  have hne383 : B_15 ≠ B_377 := Nat.ne_of_lt (Nat.lt_of_lt_of_le hB97.lt hN381.ge)
                  have hN384 : New w91 B_377 w378 := hN381
                  have hB385 := hB97.ext hE380
                  have hC386 : Chg [] w91 w378 := hE380
                  refine sq (opk_val hA379 rfl (r_build (vs := #[(0, .int .i64 2), (1, .string (Bs ([97] : Str))), (3, Sl.v (Sl.mk (some ⟨B_377, 0, none⟩) 2 2))]) (cells := #[.int .i64 2, .string (Bs ([97] : Str)), .string (Bs ([] : Str)), Sl.v (Sl.mk (some ⟨B_377, 0, none⟩) 2 2), Sl.v Sl.nil]) (map_arr2 (ml2_cons rfl (ml2_cons rfl (ml2_cons (hA379.get rfl) (ml2_nil))))) ti_26 Try.underlying26 pl_26 (by kernel_rfl)) fun a387 hA387 _ => ?_)
                  refine sq (opk_val hA387 rfl (r_nilCheck (hA387.get rfl)) fun a388 hA388 _ => ?_)
                  have ht393 := ht372 w378 B_377 hN384  hC386
                  have ht394 := ht393 hB382
                  obtain ⟨B_395, o_396, T_397, cs_398, he399, hb400, hl401, hx402, ht403⟩ := ht394
                  refine sq (opk_store hA388 hb400 (r_store (vs := [.int .i64 2, .string (Bs ([97] : Str)), .string (Bs ([] : Str)), Sl.v (Sl.mk (some ⟨B_377, 0, none⟩) 2 2), Sl.v Sl.nil]) (((hA388.get rfl)).trans (congrArg (fun a => Value.pointer (some a)) he399)) (hA388.get rfl) rfl ti_26 hb400 (Nat.ble_eq_true_of_le hl401) (ones_all [.int .i64 2, .string (Bs ([97] : Str)), .string (Bs ([] : Str)), Sl.v (Sl.mk (some ⟨B_377, 0, none⟩) 2 2), Sl.v Sl.nil] rfl)) fun a390 w389 hS391 hB392 hA390 => ?_)
                  have hB404 := hB385.keep hS391 (by have := hx402 B_15 (by simp); simpa using this)
                  have ht405 := ht403 w389 hS391 hB392
                  refine sq_end ?_
                  have hA406 := hA390.keep [(7, .pointer (some ⟨B_15, 0, none⟩))] ⟨rfl, trivial⟩
                  refine block_normal ?_
                  have hA407 := hA406.keep [(7, .pointer (some ⟨B_15, 0, none⟩))] ⟨rfl, trivial⟩
                  exact then_normal ⟨hA407, hB404, ht405⟩
                · have ht373 := ht348.2 (of_decide_eq_false hc)
                  clear hc
                  refine wp_region_lit ?_
                  refine sq (opk_val hA371 rfl (r_move (hA371.get rfl)) fun a408 hA408 _ => ?_)
                  refine sq (opk_val hA408 rfl (r_build (vs := #[(0, .int .i64 3), (2, .string (Bs ([97] : Str)))]) (cells := #[.int .i64 3, .string (Bs ([] : Str)), .string (Bs ([97] : Str)), Sl.v Sl.nil, Sl.v Sl.nil]) (map_arr2 (ml2_cons rfl (ml2_cons rfl (ml2_nil)))) ti_26 Try.underlying26 pl_26 (by kernel_rfl)) fun a409 hA409 _ => ?_)
                  refine sq (opk_new (fun B => .slice (some ⟨B, 0, none⟩) 1 1) hA409 rfl (r_buildSlice (vs := #[(0, .agg #[.int .i64 3, .string (Bs ([] : Str)), .string (Bs ([97] : Str)), Sl.v Sl.nil, Sl.v Sl.nil])]) (cs := [.int .i64 3, .string (Bs ([] : Str)), .string (Bs ([97] : Str)), Sl.v Sl.nil, Sl.v Sl.nil]) (map_arr2 (ml2_cons (hA409.get rfl) (ml2_nil))) Try.underlying24 ti_26 rfl rfl (by kernel_rfl)) fun a412 w411 B_410 hE413 hN414 hB415 hA412 _ => ?_)
                  have hne416 : B_15 ≠ B_410 := Nat.ne_of_lt (Nat.lt_of_lt_of_le hB97.lt hN414.ge)
                  have hN417 : New w91 B_410 w411 := hN414
                  have hB418 := hB97.ext hE413
                  have hC419 : Chg [] w91 w411 := hE413
                  refine sq (opk_val hA412 rfl (r_build (vs := #[(0, .int .i64 4), (4, Sl.v (Sl.mk (some ⟨B_410, 0, none⟩) 1 1))]) (cells := #[.int .i64 4, .string (Bs ([] : Str)), .string (Bs ([] : Str)), Sl.v Sl.nil, Sl.v (Sl.mk (some ⟨B_410, 0, none⟩) 1 1)]) (map_arr2 (ml2_cons rfl (ml2_cons (hA412.get rfl) (ml2_nil)))) ti_26 Try.underlying26 pl_26 (by kernel_rfl)) fun a420 hA420 _ => ?_)
                  refine sq (opk_val hA420 rfl (r_nilCheck (hA420.get rfl)) fun a421 hA421 _ => ?_)
                  have ht426 := ht373 w411 B_410 hN417  hC419
                  have ht427 := ht426 hB415
                  obtain ⟨B_428, o_429, T_430, cs_431, he432, hb433, hl434, hx435, ht436⟩ := ht427
                  refine sq (opk_store hA421 hb433 (r_store (vs := [.int .i64 4, .string (Bs ([] : Str)), .string (Bs ([] : Str)), Sl.v Sl.nil, Sl.v (Sl.mk (some ⟨B_410, 0, none⟩) 1 1)]) (((hA421.get rfl)).trans (congrArg (fun a => Value.pointer (some a)) he432)) (hA421.get rfl) rfl ti_26 hb433 (Nat.ble_eq_true_of_le hl434) (ones_all [.int .i64 4, .string (Bs ([] : Str)), .string (Bs ([] : Str)), Sl.v Sl.nil, Sl.v (Sl.mk (some ⟨B_410, 0, none⟩) 1 1)] rfl)) fun a423 w422 hS424 hB425 hA423 => ?_)
                  have hB437 := hB418.keep hS424 (by have := hx435 B_15 (by simp); simpa using this)
                  have ht438 := ht436 w422 hS424 hB425
                  refine sq_end ?_
                  have hA439 := hA423.keep [(7, .pointer (some ⟨B_15, 0, none⟩))] ⟨rfl, trivial⟩
                  refine block_normal ?_
                  have hA440 := hA439.keep [(7, .pointer (some ⟨B_15, 0, none⟩))] ⟨rfl, trivial⟩
                  exact then_normal ⟨hA440, hB437, ht438⟩
      · intro a441 w265 hm
        obtain ⟨hA441, hB442, hJ468⟩ := hm
        have ht443 := hr268 w265 hJ468
        refine then_normal ?_
        refine wp_seq ?_
        refine wp_region_lit ?_
        refine sq (opk_val hA441 rfl (r_loadN (cs := [.int .i64 r_7_Kind, .string (Bs r_7_Name), .string (Bs r_7_Text), Sl.v r_7_Attrs, Sl.v r_7_Kids]) Try.underlying26 rfl ti_26 (hA441.get rfl) (hB442.part 0 _ rfl)) fun a444 hA444 _ => ?_)
        refine sq (opk_call hA444 rfl (r_call (args := #[.agg #[.int .i64 r_7_Kind, .string (Bs r_7_Name), .string (Bs r_7_Text), Sl.v r_7_Attrs, Sl.v r_7_Kids]]) Try.func12 (by decide) rfl (map_arr (ml_cons (hA444.get rfl) ml_nil)) rfl) ht443 fun a446 v452 w447 hA446 _ hn449 hz450 hK451 => ?_)
        obtain ⟨r_445, rfl, ht448⟩ := hK451
        have hB453 := hB442.kept hn449 (.head _)
        refine sq (opk_val hA446 rfl (r_not (hA446.get rfl)) fun a454 hA454 _ => ?_)
        refine sq (opk_val hA454 rfl (r_move (hA454.get rfl)) fun a455 hA455 _ => ?_)
        obtain ⟨r_456, hc460, ht459⟩ := ht448
        refine sq (opk_gcall hA455 rfl rfl (g := true) (e := (!r_445)) rfl (fun hg => r_call (args := #[]) Try.func15 (by decide) rfl (map_arr ml_nil) rfl) (fun hg => hc460 (b_not_t (g_t hg))) fun a457 w458 hA457 _ hE461 => ?_)
        have hB462 := hB453.ext hE461
        have hC463 : Chg [] w447 w458 := hE461
        have ht464 := ht459 w458 hE461
        refine sq (opk_val hA457 rfl (r_pick_and (g := (true && ((!r_445) == true))) (hA457.get rfl) (hA457.get rfl) (fun he => g_mkt rfl he)) fun a465 hA465 _ => ?_)
        refine sq (opk_val hA465 rfl (r_assign (hA465.get rfl)) fun a466 hA466 _ => ?_)
        refine sq_end ?_
        have hA467 := hA466.keep [(6, .bool ((!r_445) && r_456))] ⟨rfl, trivial⟩
        refine then_normal ?_
        refine wp_ret ?_
        exact res_all (vs := [.bool ((!r_445) && r_456)]) rfl hA467 ⟨res_of_tmp hA467 rfl, trivial⟩ ht464

/-- The condition of topiary/topiarylaw05.TreeLimits. -/
def law05_TreeLimits.vc  (R : Value → World → Prop) (w : World) : Prop :=
CallK Try.prog 16 #[.int .i64 300] w [] (fun v w10 => ∃ (r_8_Kind : Int) (r_8_Name : Str) (r_8_Text : Str) (r_8_Attrs : Sl) (r_8_Kids : Sl), v = .agg #[.int .i64 r_8_Kind, .string (Bs r_8_Name), .string (Bs r_8_Text), Sl.v r_8_Attrs, Sl.v r_8_Kids] ∧
CallK Try.prog 12 #[.agg #[.int .i64 r_8_Kind, .string (Bs r_8_Name), .string (Bs r_8_Text), Sl.v r_8_Attrs, Sl.v r_8_Kids]] w10 [] (fun v w18 => ∃ (r_16 : Bool), v = .bool r_16 ∧
∃ V_30 : Int → Str → Str → Sl → Sl → World → Prop, (((r_16 = true)) → Calls Try.prog 16 #[.int .i64 301] w18 (Ret fun v w' => Ext w18 w' ∧ ∃ r_26_Kind : Int, ∃ r_26_Name : Str, ∃ r_26_Text : Str, ∃ r_26_Attrs : Sl, ∃ r_26_Kids : Sl, v = .agg #[.int .i64 r_26_Kind, .string (Bs r_26_Name), .string (Bs r_26_Text), Sl.v r_26_Attrs, Sl.v r_26_Kids] ∧ V_30 r_26_Kind r_26_Name r_26_Text r_26_Attrs r_26_Kids w')) ∧
(∀ (r_26_Kind : Int) (r_26_Name : Str) (r_26_Text : Str) (r_26_Attrs : Sl) (r_26_Kids : Sl) (w28 : World), Ext w18 w28 → (((r_16 = true)) → V_30 r_26_Kind r_26_Name r_26_Text r_26_Attrs r_26_Kids w28) →
∃ (r_39 : Bool), (((r_16 = true)) → Calls Try.prog 12 #[.agg #[.int .i64 r_26_Kind, .string (Bs r_26_Name), .string (Bs r_26_Text), Sl.v r_26_Attrs, Sl.v r_26_Kids]] w28 (Ret fun v w' => Ext w28 w' ∧ v = .bool r_39)) ∧
(∀ w41 : World, Ext w28 w41 →
∃ V_55 : Int → Str → Str → Sl → Sl → World → Prop, ((((r_16 = true) ∧ (r_39 = false))) → Calls Try.prog 17 #[.int .i64 60] w41 (Ret fun v w' => Ext w41 w' ∧ ∃ r_51_Kind : Int, ∃ r_51_Name : Str, ∃ r_51_Text : Str, ∃ r_51_Attrs : Sl, ∃ r_51_Kids : Sl, v = .agg #[.int .i64 r_51_Kind, .string (Bs r_51_Name), .string (Bs r_51_Text), Sl.v r_51_Attrs, Sl.v r_51_Kids] ∧ V_55 r_51_Kind r_51_Name r_51_Text r_51_Attrs r_51_Kids w')) ∧
(∀ (r_51_Kind : Int) (r_51_Name : Str) (r_51_Text : Str) (r_51_Attrs : Sl) (r_51_Kids : Sl) (w53 : World), Ext w41 w53 → ((((r_16 = true) ∧ (r_39 = false))) → V_55 r_51_Kind r_51_Name r_51_Text r_51_Attrs r_51_Kids w53) →
∃ (r_64 : Bool), ((((r_16 = true) ∧ (r_39 = false))) → Calls Try.prog 12 #[.agg #[.int .i64 r_51_Kind, .string (Bs r_51_Name), .string (Bs r_51_Text), Sl.v r_51_Attrs, Sl.v r_51_Kids]] w53 (Ret fun v w' => Ext w53 w' ∧ v = .bool r_64)) ∧
(∀ w66 : World, Ext w53 w66 →
∃ V_79 : Int → Str → Str → Sl → Sl → World → Prop, (((((r_16 = true) ∧ (r_39 = false)) ∧ (r_64 = true))) → Calls Try.prog 17 #[.int .i64 61] w66 (Ret fun v w' => Ext w66 w' ∧ ∃ r_75_Kind : Int, ∃ r_75_Name : Str, ∃ r_75_Text : Str, ∃ r_75_Attrs : Sl, ∃ r_75_Kids : Sl, v = .agg #[.int .i64 r_75_Kind, .string (Bs r_75_Name), .string (Bs r_75_Text), Sl.v r_75_Attrs, Sl.v r_75_Kids] ∧ V_79 r_75_Kind r_75_Name r_75_Text r_75_Attrs r_75_Kids w')) ∧
(∀ (r_75_Kind : Int) (r_75_Name : Str) (r_75_Text : Str) (r_75_Attrs : Sl) (r_75_Kids : Sl) (w77 : World), Ext w66 w77 → (((((r_16 = true) ∧ (r_39 = false)) ∧ (r_64 = true))) → V_79 r_75_Kind r_75_Name r_75_Text r_75_Attrs r_75_Kids w77) →
∃ (r_88 : Bool), (((((r_16 = true) ∧ (r_39 = false)) ∧ (r_64 = true))) → Calls Try.prog 12 #[.agg #[.int .i64 r_75_Kind, .string (Bs r_75_Name), .string (Bs r_75_Text), Sl.v r_75_Attrs, Sl.v r_75_Kids]] w77 (Ret fun v w' => Ext w77 w' ∧ v = .bool r_88)) ∧
(∀ w90 : World, Ext w77 w90 →
∃ V_104 : Int → Str → Str → Sl → Sl → World → Prop, ((((((r_16 = true) ∧ (r_39 = false)) ∧ (r_64 = true)) ∧ (r_88 = false))) → Calls Try.prog 17 #[.int .i64 20] w90 (Ret fun v w' => Ext w90 w' ∧ ∃ r_100_Kind : Int, ∃ r_100_Name : Str, ∃ r_100_Text : Str, ∃ r_100_Attrs : Sl, ∃ r_100_Kids : Sl, v = .agg #[.int .i64 r_100_Kind, .string (Bs r_100_Name), .string (Bs r_100_Text), Sl.v r_100_Attrs, Sl.v r_100_Kids] ∧ V_104 r_100_Kind r_100_Name r_100_Text r_100_Attrs r_100_Kids w')) ∧
(∀ (r_100_Kind : Int) (r_100_Name : Str) (r_100_Text : Str) (r_100_Attrs : Sl) (r_100_Kids : Sl) (w102 : World), Ext w90 w102 → ((((((r_16 = true) ∧ (r_39 = false)) ∧ (r_64 = true)) ∧ (r_88 = false))) → V_104 r_100_Kind r_100_Name r_100_Text r_100_Attrs r_100_Kids w102) →
∃ (r_113 : Int), ((((((r_16 = true) ∧ (r_39 = false)) ∧ (r_64 = true)) ∧ (r_88 = false))) → Calls Try.prog 18 #[.agg #[.int .i64 r_100_Kind, .string (Bs r_100_Name), .string (Bs r_100_Text), Sl.v r_100_Attrs, Sl.v r_100_Kids]] w102 (Ret fun v w' => Ext w102 w' ∧ v = .int .i64 r_113)) ∧
(∀ w115 : World, Ext w102 w115 →
∃ (r_124 : Bool), (((((((r_16 = true) ∧ (r_39 = false)) ∧ (r_64 = true)) ∧ (r_88 = false)) ∧ (r_113 = 20))) → Calls Try.prog 15 #[] w115 (Ret fun v w' => Ext w115 w' ∧ v = .bool r_124)) ∧
(∀ w126 : World, Ext w115 w126 →
R (.bool (((((r_16 && (!r_39)) && r_64) && (!r_88)) && (decide (r_113 = 20))) && r_124)) w126)))))))))))
set_option maxHeartbeats 1000000 in
set_option maxRecDepth 10000 in
theorem law05_TreeLimits.ok  {R : Value → World → Prop} {w : World} (ht0 : law05_TreeLimits.vc  R w) : Calls Try.prog 4 #[] w (Ret R) := by
  refine enter [] Try.func4 rfl Try.ntmps4 rfl ?_
  intro a0 hA0
  unfold law05_TreeLimits.vc at ht0
  refine wp_seq ?_
  refine wp_region_lit ?_
  refine sq (opk_val hA0 rfl (r_assign rfl) fun a1 hA1 _ => ?_)
  refine sq_end ?_
  have hA2 := hA1.keep [] trivial
  refine then_normal ?_
  refine wp_seq ?_
  refine wp_region_lit ?_
  refine sq (opk_val hA2 rfl (r_assign rfl) fun a3 hA3 _ => ?_)
  refine sq_end ?_
  have hA4 := hA3.keep [(1, .func (.func 16) #[] #[])] ⟨rfl, trivial⟩
  refine then_normal ?_
  refine wp_seq ?_
  refine wp_region_lit ?_
  refine sq (opk_val hA4 rfl (r_assign rfl) fun a5 hA5 _ => ?_)
  refine sq_end ?_
  have hA6 := hA5.keep [(1, .func (.func 16) #[] #[]), (2, .func (.func 17) #[] #[])] ⟨rfl, rfl, trivial⟩
  refine then_normal ?_
  refine wp_seq ?_
  refine wp_region_lit ?_
  refine sq (opk_val hA6 rfl (r_move (hA6.get rfl)) fun a7 hA7 _ => ?_)
  refine sq (opk_call hA7 rfl (r_callV (args := #[.int .i64 300]) Try.func16 (by decide) rfl (map_arr (ml_cons rfl ml_nil)) (hA7.get rfl)) ht0 fun a9 v15 w10 hA9 _ hn12 hz13 hK14 => ?_)
  obtain ⟨r_8_Kind, r_8_Name, r_8_Text, r_8_Attrs, r_8_Kids, rfl, ht11⟩ := hK14
  refine sq (opk_call hA9 rfl (r_call (args := #[.agg #[.int .i64 r_8_Kind, .string (Bs r_8_Name), .string (Bs r_8_Text), Sl.v r_8_Attrs, Sl.v r_8_Kids]]) Try.func12 (by decide) rfl (map_arr (ml_cons (hA9.get rfl) ml_nil)) rfl) ht11 fun a17 v23 w18 hA17 _ hn20 hz21 hK22 => ?_)
  obtain ⟨r_16, rfl, ht19⟩ := hK22
  refine sq (opk_val hA17 rfl (r_move (hA17.get rfl)) fun a24 hA24 _ => ?_)
  refine sq (opk_gval hA24 rfl rfl (g := true) (e := r_16) rfl (fun hg => r_move (hA24.get rfl)) fun a25 hA25 _ => ?_)
  obtain ⟨V_30, hc31, ht29⟩ := ht19
  refine sq (opk_gcallM hA25 rfl rfl (g := true) (e := r_16) rfl (fun hg => r_callV (args := #[.int .i64 301]) Try.func16 (by decide) rfl (map_arr (ml_cons rfl ml_nil)) (cv_get (hA25.get rfl) hg)) (fun hg => hc31 (g_t hg)) fun a27 v34 w28 hA27 _ hE32 hR33 => ?_)
  obtain ⟨⟨r_26_Kind, r_26_Name, r_26_Text, r_26_Attrs, r_26_Kids⟩, hx35, hV36⟩ := cvty (α := Int × Str × Str × Sl × Sl) (fun s => .agg #[.int .i64 s.1, .string (Bs s.2.1), .string (Bs s.2.2.1), Sl.v s.2.2.2.1, Sl.v s.2.2.2.2]) (fun s w => V_30 s.1 s.2.1 s.2.2.1 s.2.2.2.1 s.2.2.2.2 w) (fun hg => by obtain ⟨r_26_Kind, r_26_Name, r_26_Text, r_26_Attrs, r_26_Kids, h1, h2⟩ := hR33 hg; exact ⟨(r_26_Kind, r_26_Name, r_26_Text, r_26_Attrs, r_26_Kids), h1, h2⟩)
  rw [hx35] at hA27
  have hC37 : Chg [] w18 w28 := hE32
  have ht38 := ht29 r_26_Kind r_26_Name r_26_Text r_26_Attrs r_26_Kids w28 hE32 (fun hp => hV36 (g_mkt rfl hp))
  obtain ⟨r_39, hc43, ht42⟩ := ht38
  refine sq (opk_gcall hA27 rfl rfl (g := true) (e := r_16) rfl (fun hg => r_call (args := #[.agg #[.int .i64 r_26_Kind, .string (Bs r_26_Name), .string (Bs r_26_Text), Sl.v r_26_Attrs, Sl.v r_26_Kids]]) Try.func12 (by decide) rfl (map_arr (ml_cons (cv_get (hA27.get rfl) hg) ml_nil)) rfl) (fun hg => hc43 (g_t hg)) fun a40 w41 hA40 _ hE44 => ?_)
  have hC45 : Chg [] w28 w41 := hE44
  have ht46 := ht42 w41 hE44
  refine sq (opk_gval hA40 rfl rfl (g := true) (e := r_16) rfl (fun hg => r_not (cv_get (hA40.get rfl) hg)) fun a47 hA47 _ => ?_)
  refine sq (opk_val hA47 rfl (r_pick_and (g := (true && (r_16 == true))) (hA47.get rfl) (hA47.get rfl) (fun he => g_mkt rfl he)) fun a48 hA48 _ => ?_)
  refine sq (opk_val hA48 rfl (r_move (hA48.get rfl)) fun a49 hA49 _ => ?_)
  refine sq (opk_gval hA49 rfl rfl (g := true) (e := (r_16 && (!r_39))) rfl (fun hg => r_move (hA49.get rfl)) fun a50 hA50 _ => ?_)
  obtain ⟨V_55, hc56, ht54⟩ := ht46
  refine sq (opk_gcallM hA50 rfl rfl (g := true) (e := (r_16 && (!r_39))) rfl (fun hg => r_callV (args := #[.int .i64 60]) Try.func17 (by decide) rfl (map_arr (ml_cons rfl ml_nil)) (cv_get (hA50.get rfl) hg)) (fun hg => hc56 ⟨(b_and_t (g_t hg)).1, (b_not_t (b_and_t (g_t hg)).2)⟩) fun a52 v59 w53 hA52 _ hE57 hR58 => ?_)
  obtain ⟨⟨r_51_Kind, r_51_Name, r_51_Text, r_51_Attrs, r_51_Kids⟩, hx60, hV61⟩ := cvty (α := Int × Str × Str × Sl × Sl) (fun s => .agg #[.int .i64 s.1, .string (Bs s.2.1), .string (Bs s.2.2.1), Sl.v s.2.2.2.1, Sl.v s.2.2.2.2]) (fun s w => V_55 s.1 s.2.1 s.2.2.1 s.2.2.2.1 s.2.2.2.2 w) (fun hg => by obtain ⟨r_51_Kind, r_51_Name, r_51_Text, r_51_Attrs, r_51_Kids, h1, h2⟩ := hR58 hg; exact ⟨(r_51_Kind, r_51_Name, r_51_Text, r_51_Attrs, r_51_Kids), h1, h2⟩)
  rw [hx60] at hA52
  have hC62 : Chg [] w41 w53 := hE57
  have ht63 := ht54 r_51_Kind r_51_Name r_51_Text r_51_Attrs r_51_Kids w53 hE57 (fun hp => hV61 (g_mkt rfl (b_and_mk ⟨hp.1, (b_not_mk hp.2)⟩)))
  obtain ⟨r_64, hc68, ht67⟩ := ht63
  refine sq (opk_gcall hA52 rfl rfl (g := true) (e := (r_16 && (!r_39))) rfl (fun hg => r_call (args := #[.agg #[.int .i64 r_51_Kind, .string (Bs r_51_Name), .string (Bs r_51_Text), Sl.v r_51_Attrs, Sl.v r_51_Kids]]) Try.func12 (by decide) rfl (map_arr (ml_cons (cv_get (hA52.get rfl) hg) ml_nil)) rfl) (fun hg => hc68 ⟨(b_and_t (g_t hg)).1, (b_not_t (b_and_t (g_t hg)).2)⟩) fun a65 w66 hA65 _ hE69 => ?_)
  have hC70 : Chg [] w53 w66 := hE69
  have ht71 := ht67 w66 hE69
  refine sq (opk_val hA65 rfl (r_pick_and (g := (true && ((r_16 && (!r_39)) == true))) (hA65.get rfl) (hA65.get rfl) (fun he => g_mkt rfl he)) fun a72 hA72 _ => ?_)
  refine sq (opk_val hA72 rfl (r_move (hA72.get rfl)) fun a73 hA73 _ => ?_)
  refine sq (opk_gval hA73 rfl rfl (g := true) (e := ((r_16 && (!r_39)) && r_64)) rfl (fun hg => r_move (hA73.get rfl)) fun a74 hA74 _ => ?_)
  obtain ⟨V_79, hc80, ht78⟩ := ht71
  refine sq (opk_gcallM hA74 rfl rfl (g := true) (e := ((r_16 && (!r_39)) && r_64)) rfl (fun hg => r_callV (args := #[.int .i64 61]) Try.func17 (by decide) rfl (map_arr (ml_cons rfl ml_nil)) (cv_get (hA74.get rfl) hg)) (fun hg => hc80 ⟨⟨(b_and_t (b_and_t (g_t hg)).1).1, (b_not_t (b_and_t (b_and_t (g_t hg)).1).2)⟩, (b_and_t (g_t hg)).2⟩) fun a76 v83 w77 hA76 _ hE81 hR82 => ?_)
  obtain ⟨⟨r_75_Kind, r_75_Name, r_75_Text, r_75_Attrs, r_75_Kids⟩, hx84, hV85⟩ := cvty (α := Int × Str × Str × Sl × Sl) (fun s => .agg #[.int .i64 s.1, .string (Bs s.2.1), .string (Bs s.2.2.1), Sl.v s.2.2.2.1, Sl.v s.2.2.2.2]) (fun s w => V_79 s.1 s.2.1 s.2.2.1 s.2.2.2.1 s.2.2.2.2 w) (fun hg => by obtain ⟨r_75_Kind, r_75_Name, r_75_Text, r_75_Attrs, r_75_Kids, h1, h2⟩ := hR82 hg; exact ⟨(r_75_Kind, r_75_Name, r_75_Text, r_75_Attrs, r_75_Kids), h1, h2⟩)
  rw [hx84] at hA76
  have hC86 : Chg [] w66 w77 := hE81
  have ht87 := ht78 r_75_Kind r_75_Name r_75_Text r_75_Attrs r_75_Kids w77 hE81 (fun hp => hV85 (g_mkt rfl (b_and_mk ⟨(b_and_mk ⟨hp.1.1, (b_not_mk hp.1.2)⟩), hp.2⟩)))
  obtain ⟨r_88, hc92, ht91⟩ := ht87
  refine sq (opk_gcall hA76 rfl rfl (g := true) (e := ((r_16 && (!r_39)) && r_64)) rfl (fun hg => r_call (args := #[.agg #[.int .i64 r_75_Kind, .string (Bs r_75_Name), .string (Bs r_75_Text), Sl.v r_75_Attrs, Sl.v r_75_Kids]]) Try.func12 (by decide) rfl (map_arr (ml_cons (cv_get (hA76.get rfl) hg) ml_nil)) rfl) (fun hg => hc92 ⟨⟨(b_and_t (b_and_t (g_t hg)).1).1, (b_not_t (b_and_t (b_and_t (g_t hg)).1).2)⟩, (b_and_t (g_t hg)).2⟩) fun a89 w90 hA89 _ hE93 => ?_)
  have hC94 : Chg [] w77 w90 := hE93
  have ht95 := ht91 w90 hE93
  refine sq (opk_gval hA89 rfl rfl (g := true) (e := ((r_16 && (!r_39)) && r_64)) rfl (fun hg => r_not (cv_get (hA89.get rfl) hg)) fun a96 hA96 _ => ?_)
  refine sq (opk_val hA96 rfl (r_pick_and (g := (true && (((r_16 && (!r_39)) && r_64) == true))) (hA96.get rfl) (hA96.get rfl) (fun he => g_mkt rfl he)) fun a97 hA97 _ => ?_)
  refine sq (opk_val hA97 rfl (r_move (hA97.get rfl)) fun a98 hA98 _ => ?_)
  refine sq (opk_gval hA98 rfl rfl (g := true) (e := (((r_16 && (!r_39)) && r_64) && (!r_88))) rfl (fun hg => r_move (hA98.get rfl)) fun a99 hA99 _ => ?_)
  obtain ⟨V_104, hc105, ht103⟩ := ht95
  refine sq (opk_gcallM hA99 rfl rfl (g := true) (e := (((r_16 && (!r_39)) && r_64) && (!r_88))) rfl (fun hg => r_callV (args := #[.int .i64 20]) Try.func17 (by decide) rfl (map_arr (ml_cons rfl ml_nil)) (cv_get (hA99.get rfl) hg)) (fun hg => hc105 ⟨⟨⟨(b_and_t (b_and_t (b_and_t (g_t hg)).1).1).1, (b_not_t (b_and_t (b_and_t (b_and_t (g_t hg)).1).1).2)⟩, (b_and_t (b_and_t (g_t hg)).1).2⟩, (b_not_t (b_and_t (g_t hg)).2)⟩) fun a101 v108 w102 hA101 _ hE106 hR107 => ?_)
  obtain ⟨⟨r_100_Kind, r_100_Name, r_100_Text, r_100_Attrs, r_100_Kids⟩, hx109, hV110⟩ := cvty (α := Int × Str × Str × Sl × Sl) (fun s => .agg #[.int .i64 s.1, .string (Bs s.2.1), .string (Bs s.2.2.1), Sl.v s.2.2.2.1, Sl.v s.2.2.2.2]) (fun s w => V_104 s.1 s.2.1 s.2.2.1 s.2.2.2.1 s.2.2.2.2 w) (fun hg => by obtain ⟨r_100_Kind, r_100_Name, r_100_Text, r_100_Attrs, r_100_Kids, h1, h2⟩ := hR107 hg; exact ⟨(r_100_Kind, r_100_Name, r_100_Text, r_100_Attrs, r_100_Kids), h1, h2⟩)
  rw [hx109] at hA101
  have hC111 : Chg [] w90 w102 := hE106
  have ht112 := ht103 r_100_Kind r_100_Name r_100_Text r_100_Attrs r_100_Kids w102 hE106 (fun hp => hV110 (g_mkt rfl (b_and_mk ⟨(b_and_mk ⟨(b_and_mk ⟨hp.1.1.1, (b_not_mk hp.1.1.2)⟩), hp.1.2⟩), (b_not_mk hp.2)⟩)))
  obtain ⟨r_113, hc117, ht116⟩ := ht112
  refine sq (opk_gcall hA101 rfl rfl (g := true) (e := (((r_16 && (!r_39)) && r_64) && (!r_88))) rfl (fun hg => r_call (args := #[.agg #[.int .i64 r_100_Kind, .string (Bs r_100_Name), .string (Bs r_100_Text), Sl.v r_100_Attrs, Sl.v r_100_Kids]]) Try.func18 (by decide) rfl (map_arr (ml_cons (cv_get (hA101.get rfl) hg) ml_nil)) rfl) (fun hg => hc117 ⟨⟨⟨(b_and_t (b_and_t (b_and_t (g_t hg)).1).1).1, (b_not_t (b_and_t (b_and_t (b_and_t (g_t hg)).1).1).2)⟩, (b_and_t (b_and_t (g_t hg)).1).2⟩, (b_not_t (b_and_t (g_t hg)).2)⟩) fun a114 w115 hA114 _ hE118 => ?_)
  have hC119 : Chg [] w102 w115 := hE118
  have ht120 := ht116 w115 hE118
  refine sq (opk_gval hA114 rfl rfl (g := true) (e := (((r_16 && (!r_39)) && r_64) && (!r_88))) rfl (fun hg => r_eql (cv_get (hA114.get rfl) hg) rfl) fun a121 hA121 _ => ?_)
  refine sq (opk_val hA121 rfl (r_pick_and (g := (true && ((((r_16 && (!r_39)) && r_64) && (!r_88)) == true))) (hA121.get rfl) (hA121.get rfl) (fun he => g_mkt rfl he)) fun a122 hA122 _ => ?_)
  refine sq (opk_val hA122 rfl (r_move (hA122.get rfl)) fun a123 hA123 _ => ?_)
  obtain ⟨r_124, hc128, ht127⟩ := ht120
  refine sq (opk_gcall hA123 rfl rfl (g := true) (e := ((((r_16 && (!r_39)) && r_64) && (!r_88)) && (decide (r_113 = 20)))) rfl (fun hg => r_call (args := #[]) Try.func15 (by decide) rfl (map_arr ml_nil) rfl) (fun hg => hc128 ⟨⟨⟨⟨(b_and_t (b_and_t (b_and_t (b_and_t (g_t hg)).1).1).1).1, (b_not_t (b_and_t (b_and_t (b_and_t (b_and_t (g_t hg)).1).1).1).2)⟩, (b_and_t (b_and_t (b_and_t (g_t hg)).1).1).2⟩, (b_not_t (b_and_t (b_and_t (g_t hg)).1).2)⟩, (of_decide_eq_true (b_and_t (g_t hg)).2)⟩) fun a125 w126 hA125 _ hE129 => ?_)
  have hC130 : Chg [] w115 w126 := hE129
  have ht131 := ht127 w126 hE129
  refine sq (opk_val hA125 rfl (r_pick_and (g := (true && (((((r_16 && (!r_39)) && r_64) && (!r_88)) && (decide (r_113 = 20))) == true))) (hA125.get rfl) (hA125.get rfl) (fun he => g_mkt rfl he)) fun a132 hA132 _ => ?_)
  refine sq (opk_val hA132 rfl (r_assign (hA132.get rfl)) fun a133 hA133 _ => ?_)
  refine sq_end ?_
  have hA134 := hA133.keep [(0, .bool (((((r_16 && (!r_39)) && r_64) && (!r_88)) && (decide (r_113 = 20))) && r_124))] ⟨rfl, trivial⟩
  refine then_normal ?_
  refine wp_ret ?_
  exact res_all (vs := [.bool (((((r_16 && (!r_39)) && r_64) && (!r_88)) && (decide (r_113 = 20))) && r_124)]) rfl hA134 ⟨res_of_tmp hA134 rfl, trivial⟩ ht131

/-- The condition of topiary/topiarylaw05.TreeNames. -/
def law05_TreeNames.vc  (R : Value → World → Prop) (w : World) : Prop :=
CallK Try.prog 19 #[.string (Bs ([97, 98, 99, 100, 101, 102, 103, 104, 105, 106, 107, 108, 109, 110, 111, 112, 113, 114, 115, 116, 117, 118, 119, 120, 121, 122, 48, 49, 50, 51, 52, 53] : Str))] w [] (fun v w8 => ∃ (r_6 : Bool), v = .bool r_6 ∧
(((r_6 = true)) → List.length ([97, 98, 99, 100, 101, 102, 103, 104, 105, 106, 107, 108, 109, 110, 111, 112, 113, 114, 115, 116, 117, 118, 119, 120, 121, 122, 48, 49, 50, 51, 52, 53] : Str) + List.length ([54] : Str) ≤ 9223372036854775807) ∧
∃ (r_20 : Bool), (((r_6 = true)) → Calls Try.prog 19 #[.string (Bs (([97, 98, 99, 100, 101, 102, 103, 104, 105, 106, 107, 108, 109, 110, 111, 112, 113, 114, 115, 116, 117, 118, 119, 120, 121, 122, 48, 49, 50, 51, 52, 53] : Str) ++ ([54] : Str)))] w8 (Ret fun v w' => Ext w8 w' ∧ v = .bool r_20)) ∧
(∀ w22 : World, Ext w8 w22 →
∃ (r_30 : Bool), ((((r_6 = true) ∧ (r_20 = false))) → Calls Try.prog 19 #[.string (Bs ([] : Str))] w22 (Ret fun v w' => Ext w22 w' ∧ v = .bool r_30)) ∧
(∀ w32 : World, Ext w22 w32 →
∃ (r_40 : Bool), (((((r_6 = true) ∧ (r_20 = false)) ∧ (r_30 = false))) → Calls Try.prog 19 #[.string (Bs ([195, 169, 45, 95, 58, 46, 38, 59] : Str))] w32 (Ret fun v w' => Ext w32 w' ∧ v = .bool r_40)) ∧
(∀ w42 : World, Ext w32 w42 →
(((((r_6 = false) ∨ (r_20 = true)) ∨ (r_30 = true)) ∨ (r_40 = false)) →
R (.bool false) w42) ∧
(((((r_6 = true) ∧ (r_20 = false)) ∧ (r_30 = false)) ∧ (r_40 = true)) →
∃ (J_59 : Int → World → Prop) (mu_60 : Int → World → Nat),
J_59 0 w42 ∧
(∀ (c_57 : Int) (w58 : World), J_59 c_57 w58 →
((c_57 < 128) →
∀ (w224 : World) (B_223 : Nat), New w58 B_223 w224 → Chg [] w58 w224 →
∀ (_ : Box w224 B_223 5 [.int .u8 (IntKind.u8.wrap c_57)]),
∃ s_233 : Str, ((convert 39 9 (Sl.v (Sl.mk (some ⟨B_223, 0, none⟩) 1 1))).run Try.prog w224 = .ok (.string (Bs s_233)) w224) ∧
(List.length ([120] : Str) + List.length s_233 ≤ 9223372036854775807) ∧
CallK Try.prog 19 #[.string (Bs (([120] : Str) ++ s_233))] w224 [] (fun v w242 => ∃ (r_240 : Bool), v = .bool r_240 ∧
(((r_240 == ((((((((((((decide (c_57 = 0)) || (decide (c_57 = 9))) || (decide (c_57 = 10))) || (decide (c_57 = 12))) || (decide (c_57 = 32))) || (decide (c_57 = 34))) || (decide (c_57 = 39))) || (decide (c_57 = 62))) || (decide (c_57 = 47))) || (decide (c_57 = 61))) || (decide (c_57 = 60))) || ((decide (65 ≤ c_57)) && (decide (c_57 ≤ 90))))) = true) →
R (.bool false) w242) ∧
(((r_240 == ((((((((((((decide (c_57 = 0)) || (decide (c_57 = 9))) || (decide (c_57 = 10))) || (decide (c_57 = 12))) || (decide (c_57 = 32))) || (decide (c_57 = 34))) || (decide (c_57 = 39))) || (decide (c_57 = 62))) || (decide (c_57 = 47))) || (decide (c_57 = 61))) || (decide (c_57 = 60))) || ((decide (65 ≤ c_57)) && (decide (c_57 ≤ 90))))) = false) →
(I64 (c_57 + 1)) ∧
J_59 (c_57 + 1) w242 ∧ mu_60 (c_57 + 1) w242 < mu_60 c_57 w58))) ∧
((¬ (c_57 < 128)) →
CallK Try.prog 15 #[] w58 [] (fun v w265 => ∃ (r_263 : Bool), v = .bool r_263 ∧
R (.bool r_263) w265))))))))
set_option maxHeartbeats 1000000 in
set_option maxRecDepth 10000 in
theorem law05_TreeNames.ok  {R : Value → World → Prop} {w : World} (ht0 : law05_TreeNames.vc  R w) : Calls Try.prog 5 #[] w (Ret R) := by
  refine enter [] Try.func5 rfl Try.ntmps5 rfl ?_
  intro a0 hA0
  unfold law05_TreeNames.vc at ht0
  refine wp_seq ?_
  refine wp_region_lit ?_
  refine sq (opk_val hA0 rfl (r_assign rfl) fun a1 hA1 _ => ?_)
  refine sq_end ?_
  have hA2 := hA1.keep [] trivial
  refine then_normal ?_
  refine wp_seq ?_
  refine wp_region_lit ?_
  refine sq (opk_val hA2 rfl (r_assign rfl) fun a3 hA3 _ => ?_)
  refine sq_end ?_
  have hA4 := hA3.keep [(1, .string (Bs ([97, 98, 99, 100, 101, 102, 103, 104, 105, 106, 107, 108, 109, 110, 111, 112, 113, 114, 115, 116, 117, 118, 119, 120, 121, 122, 48, 49, 50, 51, 52, 53] : Str)))] ⟨rfl, trivial⟩
  refine then_normal ?_
  refine wp_seq ?_
  refine wp_seq ?_
  refine wp_region_lit ?_
  refine sq (opk_val hA4 rfl (r_move (hA4.get rfl)) fun a5 hA5 _ => ?_)
  refine sq (opk_call hA5 rfl (r_call (args := #[.string (Bs ([97, 98, 99, 100, 101, 102, 103, 104, 105, 106, 107, 108, 109, 110, 111, 112, 113, 114, 115, 116, 117, 118, 119, 120, 121, 122, 48, 49, 50, 51, 52, 53] : Str))]) Try.func19 (by decide) rfl (map_arr (ml_cons (hA5.get rfl) ml_nil)) rfl) ht0 fun a7 v13 w8 hA7 _ hn10 hz11 hK12 => ?_)
  obtain ⟨r_6, rfl, ht9⟩ := hK12
  refine sq (opk_val hA7 rfl (r_not (hA7.get rfl)) fun a14 hA14 _ => ?_)
  refine sq (opk_val hA14 rfl (r_move (hA14.get rfl)) fun a15 hA15 _ => ?_)
  refine sq (opk_gval hA15 rfl rfl (g := true) (e := (!r_6)) rfl (fun hg => r_move (hA15.get rfl)) fun a16 hA16 _ => ?_)
  obtain ⟨hS18, ht19⟩ := ht9
  refine sq (opk_gval hA16 rfl rfl (g := true) (e := (!r_6)) rfl (fun hg => r_sadd (cv_get (hA16.get rfl) hg) rfl (hS18 (b_not_f (g_f hg)))) fun a17 hA17 _ => ?_)
  obtain ⟨r_20, hc24, ht23⟩ := ht19
  refine sq (opk_gcall hA17 rfl rfl (g := true) (e := (!r_6)) rfl (fun hg => r_call (args := #[.string (Bs (([97, 98, 99, 100, 101, 102, 103, 104, 105, 106, 107, 108, 109, 110, 111, 112, 113, 114, 115, 116, 117, 118, 119, 120, 121, 122, 48, 49, 50, 51, 52, 53] : Str) ++ ([54] : Str)))]) Try.func19 (by decide) rfl (map_arr (ml_cons (cv_get (hA17.get rfl) hg) ml_nil)) rfl) (fun hg => hc24 (b_not_f (g_f hg))) fun a21 w22 hA21 _ hE25 => ?_)
  have hC26 : Chg [] w8 w22 := hE25
  have ht27 := ht23 w22 hE25
  refine sq (opk_val hA21 rfl (r_pick_or (g := (true && ((!r_6) == false))) (hA21.get rfl) (hA21.get rfl) (fun he => g_mkf rfl he)) fun a28 hA28 _ => ?_)
  refine sq (opk_val hA28 rfl (r_move (hA28.get rfl)) fun a29 hA29 _ => ?_)
  obtain ⟨r_30, hc34, ht33⟩ := ht27
  refine sq (opk_gcall hA29 rfl rfl (g := true) (e := ((!r_6) || r_20)) rfl (fun hg => r_call (args := #[.string (Bs ([] : Str))]) Try.func19 (by decide) rfl (map_arr (ml_cons rfl ml_nil)) rfl) (fun hg => hc34 ⟨(b_not_f (b_or_f (g_f hg)).1), (b_or_f (g_f hg)).2⟩) fun a31 w32 hA31 _ hE35 => ?_)
  have hC36 : Chg [] w22 w32 := hE35
  have ht37 := ht33 w32 hE35
  refine sq (opk_val hA31 rfl (r_pick_or (g := (true && (((!r_6) || r_20) == false))) (hA31.get rfl) (hA31.get rfl) (fun he => g_mkf rfl he)) fun a38 hA38 _ => ?_)
  refine sq (opk_val hA38 rfl (r_move (hA38.get rfl)) fun a39 hA39 _ => ?_)
  obtain ⟨r_40, hc44, ht43⟩ := ht37
  refine sq (opk_gcall hA39 rfl rfl (g := true) (e := (((!r_6) || r_20) || r_30)) rfl (fun hg => r_call (args := #[.string (Bs ([195, 169, 45, 95, 58, 46, 38, 59] : Str))]) Try.func19 (by decide) rfl (map_arr (ml_cons rfl ml_nil)) rfl) (fun hg => hc44 ⟨⟨(b_not_f (b_or_f (b_or_f (g_f hg)).1).1), (b_or_f (b_or_f (g_f hg)).1).2⟩, (b_or_f (g_f hg)).2⟩) fun a41 w42 hA41 _ hE45 => ?_)
  have hC46 : Chg [] w32 w42 := hE45
  have ht47 := ht43 w42 hE45
  refine sq (opk_gval hA41 rfl rfl (g := true) (e := (((!r_6) || r_20) || r_30)) rfl (fun hg => r_not (cv_get (hA41.get rfl) hg)) fun a48 hA48 _ => ?_)
  refine sq (opk_val hA48 rfl (r_pick_or (g := (true && ((((!r_6) || r_20) || r_30) == false))) (hA48.get rfl) (hA48.get rfl) (fun he => g_mkf rfl he)) fun a49 hA49 _ => ?_)
  refine sq_end ?_
  have hA50 := hA49.keep [(18, .bool ((((!r_6) || r_20) || r_30) || (!r_40)))] ⟨rfl, trivial⟩
  refine then_normal ?_
  refine wp_cond_split (hA50.get rfl) (fun hc => ?_) (fun hc => ?_)
  · have ht51 := ht47.1 ((b_or_t hc).imp (fun h => ((b_or_t h).imp (fun h => ((b_or_t h).imp (fun h => (b_not_t h)) (fun h => h))) (fun h => h))) (fun h => (b_not_t h)))
    clear hc
    refine wp_seq ?_
    refine wp_region_lit ?_
    refine sq (opk_val hA50 rfl (r_assign rfl) fun a53 hA53 _ => ?_)
    refine sq_end ?_
    have hA54 := hA53.keep [(0, .bool false)] ⟨rfl, trivial⟩
    refine then_normal ?_
    refine wp_ret ?_
    refine then_ret ?_
    exact res_all (vs := [.bool false]) rfl hA54 ⟨res_of_tmp hA54 rfl, trivial⟩ ht51
  · have ht52 := ht47.2 ⟨⟨⟨(b_not_f (b_or_f (b_or_f (b_or_f hc).1).1).1), (b_or_f (b_or_f (b_or_f hc).1).1).2⟩, (b_or_f (b_or_f hc).1).2⟩, (b_not_f (b_or_f hc).2)⟩
    clear hc
    refine wp_skip ?_
    refine then_normal ?_
    refine wp_seq ?_
    refine wp_seq ?_
    refine wp_region_lit ?_
    refine sq (opk_val hA50 rfl (r_assign rfl) fun a55 hA55 _ => ?_)
    refine sq_end ?_
    have hA56 := hA55.keep [(2, .int .i64 0)] ⟨rfl, trivial⟩
    refine then_normal ?_
    refine wp_block ?_
    obtain ⟨J_59, mu_60, h0161, ht160⟩ := ht52
    refine wp_loop_st (σ := Int × World) (fun s a w => Ag 82 a [(2, .int .i64 s.1)] ∧ w = s.2 ∧ J_59 s.1 s.2) (fun s => mu_60 s.1 s.2) (0, w42) ⟨hA56.keep [(2, .int .i64 0)] ⟨rfl, trivial⟩, rfl, h0161⟩ ?_
    rintro ⟨c_57, w58⟩ a159 w_ ⟨hA159, hw_, hJ163⟩
    have hw_ : w58 = w_ := hw_.symm
    subst hw_
    have ht162 := ht160 c_57 _ hJ163
    refine wp_seq ?_
    refine wp_seq ?_
    refine wp_region_lit ?_
    refine sq (opk_val hA159 rfl (r_move (hA159.get rfl)) fun a164 hA164 _ => ?_)
    refine sq (opk_val hA164 rfl (r_lss (hA164.get rfl) rfl) fun a165 hA165 _ => ?_)
    refine sq_end ?_
    have hA166 := hA165.keep [(2, .int .i64 c_57), (20, .bool (decide (c_57 < 128)))] ⟨rfl, rfl, trivial⟩
    refine then_normal ?_
    refine wp_cond_split (hA166.get rfl) (fun hc => ?_) (fun hc => ?_)
    · have ht167 := ht162.1 (of_decide_eq_true hc)
      clear hc
      refine wp_skip ?_
      refine then_normal ?_
      refine wp_seq ?_
      refine wp_block ?_
      refine wp_seq ?_
      refine wp_region_lit ?_
      refine sq (opk_val hA166 rfl (r_move (hA166.get rfl)) fun a169 hA169 _ => ?_)
      refine sq (opk_val hA169 rfl (r_eql (hA169.get rfl) rfl) fun a170 hA170 _ => ?_)
      refine sq (opk_val hA170 rfl (r_move (hA170.get rfl)) fun a171 hA171 _ => ?_)
      refine sq (opk_gval hA171 rfl rfl (g := true) (e := (decide (c_57 = 0))) rfl (fun hg => r_move (hA171.get rfl)) fun a172 hA172 _ => ?_)
      refine sq (opk_gval hA172 rfl rfl (g := true) (e := (decide (c_57 = 0))) rfl (fun hg => r_eql (cv_get (hA172.get rfl) hg) rfl) fun a173 hA173 _ => ?_)
      refine sq (opk_val hA173 rfl (r_pick_or (g := (true && ((decide (c_57 = 0)) == false))) (hA173.get rfl) (hA173.get rfl) (fun he => g_mkf rfl he)) fun a174 hA174 _ => ?_)
      refine sq (opk_val hA174 rfl (r_move (hA174.get rfl)) fun a175 hA175 _ => ?_)
      refine sq (opk_gval hA175 rfl rfl (g := true) (e := ((decide (c_57 = 0)) || (decide (c_57 = 9)))) rfl (fun hg => r_move (hA175.get rfl)) fun a176 hA176 _ => ?_)
      refine sq (opk_gval hA176 rfl rfl (g := true) (e := ((decide (c_57 = 0)) || (decide (c_57 = 9)))) rfl (fun hg => r_eql (cv_get (hA176.get rfl) hg) rfl) fun a177 hA177 _ => ?_)
      refine sq (opk_val hA177 rfl (r_pick_or (g := (true && (((decide (c_57 = 0)) || (decide (c_57 = 9))) == false))) (hA177.get rfl) (hA177.get rfl) (fun he => g_mkf rfl he)) fun a178 hA178 _ => ?_)
      refine sq (opk_val hA178 rfl (r_move (hA178.get rfl)) fun a179 hA179 _ => ?_)
      refine sq (opk_gval hA179 rfl rfl (g := true) (e := (((decide (c_57 = 0)) || (decide (c_57 = 9))) || (decide (c_57 = 10)))) rfl (fun hg => r_move (hA179.get rfl)) fun a180 hA180 _ => ?_)
      refine sq (opk_gval hA180 rfl rfl (g := true) (e := (((decide (c_57 = 0)) || (decide (c_57 = 9))) || (decide (c_57 = 10)))) rfl (fun hg => r_eql (cv_get (hA180.get rfl) hg) rfl) fun a181 hA181 _ => ?_)
      refine sq (opk_val hA181 rfl (r_pick_or (g := (true && ((((decide (c_57 = 0)) || (decide (c_57 = 9))) || (decide (c_57 = 10))) == false))) (hA181.get rfl) (hA181.get rfl) (fun he => g_mkf rfl he)) fun a182 hA182 _ => ?_)
      refine sq (opk_val hA182 rfl (r_move (hA182.get rfl)) fun a183 hA183 _ => ?_)
      refine sq (opk_gval hA183 rfl rfl (g := true) (e := ((((decide (c_57 = 0)) || (decide (c_57 = 9))) || (decide (c_57 = 10))) || (decide (c_57 = 12)))) rfl (fun hg => r_move (hA183.get rfl)) fun a184 hA184 _ => ?_)
      refine sq (opk_gval hA184 rfl rfl (g := true) (e := ((((decide (c_57 = 0)) || (decide (c_57 = 9))) || (decide (c_57 = 10))) || (decide (c_57 = 12)))) rfl (fun hg => r_eql (cv_get (hA184.get rfl) hg) rfl) fun a185 hA185 _ => ?_)
      refine sq (opk_val hA185 rfl (r_pick_or (g := (true && (((((decide (c_57 = 0)) || (decide (c_57 = 9))) || (decide (c_57 = 10))) || (decide (c_57 = 12))) == false))) (hA185.get rfl) (hA185.get rfl) (fun he => g_mkf rfl he)) fun a186 hA186 _ => ?_)
      refine sq (opk_val hA186 rfl (r_move (hA186.get rfl)) fun a187 hA187 _ => ?_)
      refine sq (opk_gval hA187 rfl rfl (g := true) (e := (((((decide (c_57 = 0)) || (decide (c_57 = 9))) || (decide (c_57 = 10))) || (decide (c_57 = 12))) || (decide (c_57 = 32)))) rfl (fun hg => r_move (hA187.get rfl)) fun a188 hA188 _ => ?_)
      refine sq (opk_gval hA188 rfl rfl (g := true) (e := (((((decide (c_57 = 0)) || (decide (c_57 = 9))) || (decide (c_57 = 10))) || (decide (c_57 = 12))) || (decide (c_57 = 32)))) rfl (fun hg => r_eql (cv_get (hA188.get rfl) hg) rfl) fun a189 hA189 _ => ?_)
      refine sq (opk_val hA189 rfl (r_pick_or (g := (true && ((((((decide (c_57 = 0)) || (decide (c_57 = 9))) || (decide (c_57 = 10))) || (decide (c_57 = 12))) || (decide (c_57 = 32))) == false))) (hA189.get rfl) (hA189.get rfl) (fun he => g_mkf rfl he)) fun a190 hA190 _ => ?_)
      refine sq (opk_val hA190 rfl (r_move (hA190.get rfl)) fun a191 hA191 _ => ?_)
      refine sq (opk_gval hA191 rfl rfl (g := true) (e := ((((((decide (c_57 = 0)) || (decide (c_57 = 9))) || (decide (c_57 = 10))) || (decide (c_57 = 12))) || (decide (c_57 = 32))) || (decide (c_57 = 34)))) rfl (fun hg => r_move (hA191.get rfl)) fun a192 hA192 _ => ?_)
      refine sq (opk_gval hA192 rfl rfl (g := true) (e := ((((((decide (c_57 = 0)) || (decide (c_57 = 9))) || (decide (c_57 = 10))) || (decide (c_57 = 12))) || (decide (c_57 = 32))) || (decide (c_57 = 34)))) rfl (fun hg => r_eql (cv_get (hA192.get rfl) hg) rfl) fun a193 hA193 _ => ?_)
      refine sq (opk_val hA193 rfl (r_pick_or (g := (true && (((((((decide (c_57 = 0)) || (decide (c_57 = 9))) || (decide (c_57 = 10))) || (decide (c_57 = 12))) || (decide (c_57 = 32))) || (decide (c_57 = 34))) == false))) (hA193.get rfl) (hA193.get rfl) (fun he => g_mkf rfl he)) fun a194 hA194 _ => ?_)
      refine sq (opk_val hA194 rfl (r_move (hA194.get rfl)) fun a195 hA195 _ => ?_)
      refine sq (opk_gval hA195 rfl rfl (g := true) (e := (((((((decide (c_57 = 0)) || (decide (c_57 = 9))) || (decide (c_57 = 10))) || (decide (c_57 = 12))) || (decide (c_57 = 32))) || (decide (c_57 = 34))) || (decide (c_57 = 39)))) rfl (fun hg => r_move (hA195.get rfl)) fun a196 hA196 _ => ?_)
      refine sq (opk_gval hA196 rfl rfl (g := true) (e := (((((((decide (c_57 = 0)) || (decide (c_57 = 9))) || (decide (c_57 = 10))) || (decide (c_57 = 12))) || (decide (c_57 = 32))) || (decide (c_57 = 34))) || (decide (c_57 = 39)))) rfl (fun hg => r_eql (cv_get (hA196.get rfl) hg) rfl) fun a197 hA197 _ => ?_)
      refine sq (opk_val hA197 rfl (r_pick_or (g := (true && ((((((((decide (c_57 = 0)) || (decide (c_57 = 9))) || (decide (c_57 = 10))) || (decide (c_57 = 12))) || (decide (c_57 = 32))) || (decide (c_57 = 34))) || (decide (c_57 = 39))) == false))) (hA197.get rfl) (hA197.get rfl) (fun he => g_mkf rfl he)) fun a198 hA198 _ => ?_)
      refine sq (opk_val hA198 rfl (r_move (hA198.get rfl)) fun a199 hA199 _ => ?_)
      refine sq (opk_gval hA199 rfl rfl (g := true) (e := ((((((((decide (c_57 = 0)) || (decide (c_57 = 9))) || (decide (c_57 = 10))) || (decide (c_57 = 12))) || (decide (c_57 = 32))) || (decide (c_57 = 34))) || (decide (c_57 = 39))) || (decide (c_57 = 62)))) rfl (fun hg => r_move (hA199.get rfl)) fun a200 hA200 _ => ?_)
      refine sq (opk_gval hA200 rfl rfl (g := true) (e := ((((((((decide (c_57 = 0)) || (decide (c_57 = 9))) || (decide (c_57 = 10))) || (decide (c_57 = 12))) || (decide (c_57 = 32))) || (decide (c_57 = 34))) || (decide (c_57 = 39))) || (decide (c_57 = 62)))) rfl (fun hg => r_eql (cv_get (hA200.get rfl) hg) rfl) fun a201 hA201 _ => ?_)
      refine sq (opk_val hA201 rfl (r_pick_or (g := (true && (((((((((decide (c_57 = 0)) || (decide (c_57 = 9))) || (decide (c_57 = 10))) || (decide (c_57 = 12))) || (decide (c_57 = 32))) || (decide (c_57 = 34))) || (decide (c_57 = 39))) || (decide (c_57 = 62))) == false))) (hA201.get rfl) (hA201.get rfl) (fun he => g_mkf rfl he)) fun a202 hA202 _ => ?_)
      refine sq (opk_val hA202 rfl (r_move (hA202.get rfl)) fun a203 hA203 _ => ?_)
      refine sq (opk_gval hA203 rfl rfl (g := true) (e := (((((((((decide (c_57 = 0)) || (decide (c_57 = 9))) || (decide (c_57 = 10))) || (decide (c_57 = 12))) || (decide (c_57 = 32))) || (decide (c_57 = 34))) || (decide (c_57 = 39))) || (decide (c_57 = 62))) || (decide (c_57 = 47)))) rfl (fun hg => r_move (hA203.get rfl)) fun a204 hA204 _ => ?_)
      refine sq (opk_gval hA204 rfl rfl (g := true) (e := (((((((((decide (c_57 = 0)) || (decide (c_57 = 9))) || (decide (c_57 = 10))) || (decide (c_57 = 12))) || (decide (c_57 = 32))) || (decide (c_57 = 34))) || (decide (c_57 = 39))) || (decide (c_57 = 62))) || (decide (c_57 = 47)))) rfl (fun hg => r_eql (cv_get (hA204.get rfl) hg) rfl) fun a205 hA205 _ => ?_)
      refine sq (opk_val hA205 rfl (r_pick_or (g := (true && ((((((((((decide (c_57 = 0)) || (decide (c_57 = 9))) || (decide (c_57 = 10))) || (decide (c_57 = 12))) || (decide (c_57 = 32))) || (decide (c_57 = 34))) || (decide (c_57 = 39))) || (decide (c_57 = 62))) || (decide (c_57 = 47))) == false))) (hA205.get rfl) (hA205.get rfl) (fun he => g_mkf rfl he)) fun a206 hA206 _ => ?_)
      refine sq (opk_val hA206 rfl (r_move (hA206.get rfl)) fun a207 hA207 _ => ?_)
      refine sq (opk_gval hA207 rfl rfl (g := true) (e := ((((((((((decide (c_57 = 0)) || (decide (c_57 = 9))) || (decide (c_57 = 10))) || (decide (c_57 = 12))) || (decide (c_57 = 32))) || (decide (c_57 = 34))) || (decide (c_57 = 39))) || (decide (c_57 = 62))) || (decide (c_57 = 47))) || (decide (c_57 = 61)))) rfl (fun hg => r_move (hA207.get rfl)) fun a208 hA208 _ => ?_)
      refine sq (opk_gval hA208 rfl rfl (g := true) (e := ((((((((((decide (c_57 = 0)) || (decide (c_57 = 9))) || (decide (c_57 = 10))) || (decide (c_57 = 12))) || (decide (c_57 = 32))) || (decide (c_57 = 34))) || (decide (c_57 = 39))) || (decide (c_57 = 62))) || (decide (c_57 = 47))) || (decide (c_57 = 61)))) rfl (fun hg => r_eql (cv_get (hA208.get rfl) hg) rfl) fun a209 hA209 _ => ?_)
      refine sq (opk_val hA209 rfl (r_pick_or (g := (true && (((((((((((decide (c_57 = 0)) || (decide (c_57 = 9))) || (decide (c_57 = 10))) || (decide (c_57 = 12))) || (decide (c_57 = 32))) || (decide (c_57 = 34))) || (decide (c_57 = 39))) || (decide (c_57 = 62))) || (decide (c_57 = 47))) || (decide (c_57 = 61))) == false))) (hA209.get rfl) (hA209.get rfl) (fun he => g_mkf rfl he)) fun a210 hA210 _ => ?_)
      refine sq (opk_val hA210 rfl (r_move (hA210.get rfl)) fun a211 hA211 _ => ?_)
      refine sq (opk_gval hA211 rfl rfl (g := true) (e := (((((((((((decide (c_57 = 0)) || (decide (c_57 = 9))) || (decide (c_57 = 10))) || (decide (c_57 = 12))) || (decide (c_57 = 32))) || (decide (c_57 = 34))) || (decide (c_57 = 39))) || (decide (c_57 = 62))) || (decide (c_57 = 47))) || (decide (c_57 = 61))) || (decide (c_57 = 60)))) rfl (fun hg => r_move (hA211.get rfl)) fun a212 hA212 _ => ?_)
      refine sq (opk_gval hA212 rfl rfl (g := true) (e := (((((((((((decide (c_57 = 0)) || (decide (c_57 = 9))) || (decide (c_57 = 10))) || (decide (c_57 = 12))) || (decide (c_57 = 32))) || (decide (c_57 = 34))) || (decide (c_57 = 39))) || (decide (c_57 = 62))) || (decide (c_57 = 47))) || (decide (c_57 = 61))) || (decide (c_57 = 60)))) rfl (fun hg => r_geq (cv_get (hA212.get rfl) hg) rfl) fun a213 hA213 _ => ?_)
      refine sq (opk_gval hA213 rfl rfl (g := true) (e := (((((((((((decide (c_57 = 0)) || (decide (c_57 = 9))) || (decide (c_57 = 10))) || (decide (c_57 = 12))) || (decide (c_57 = 32))) || (decide (c_57 = 34))) || (decide (c_57 = 39))) || (decide (c_57 = 62))) || (decide (c_57 = 47))) || (decide (c_57 = 61))) || (decide (c_57 = 60)))) rfl (fun hg => r_move (cv_get (hA213.get rfl) hg)) fun a214 hA214 _ => ?_)
      refine sq (opk_gval hA214 rfl rfl (g := (true && ((((((((((((decide (c_57 = 0)) || (decide (c_57 = 9))) || (decide (c_57 = 10))) || (decide (c_57 = 12))) || (decide (c_57 = 32))) || (decide (c_57 = 34))) || (decide (c_57 = 39))) || (decide (c_57 = 62))) || (decide (c_57 = 47))) || (decide (c_57 = 61))) || (decide (c_57 = 60))) == false))) (e := (decide (65 ≤ c_57))) rfl (fun hg => r_move (hA214.get rfl)) fun a215 hA215 _ => ?_)
      refine sq (opk_gval hA215 rfl rfl (g := (true && ((((((((((((decide (c_57 = 0)) || (decide (c_57 = 9))) || (decide (c_57 = 10))) || (decide (c_57 = 12))) || (decide (c_57 = 32))) || (decide (c_57 = 34))) || (decide (c_57 = 39))) || (decide (c_57 = 62))) || (decide (c_57 = 47))) || (decide (c_57 = 61))) || (decide (c_57 = 60))) == false))) (e := (decide (65 ≤ c_57))) rfl (fun hg => r_leq (cv_get (hA215.get rfl) hg) rfl) fun a216 hA216 _ => ?_)
      refine sq (opk_gval hA216 rfl rfl (g := true) (e := (((((((((((decide (c_57 = 0)) || (decide (c_57 = 9))) || (decide (c_57 = 10))) || (decide (c_57 = 12))) || (decide (c_57 = 32))) || (decide (c_57 = 34))) || (decide (c_57 = 39))) || (decide (c_57 = 62))) || (decide (c_57 = 47))) || (decide (c_57 = 61))) || (decide (c_57 = 60)))) rfl (fun hg => r_pick_and (g := ((true && ((((((((((((decide (c_57 = 0)) || (decide (c_57 = 9))) || (decide (c_57 = 10))) || (decide (c_57 = 12))) || (decide (c_57 = 32))) || (decide (c_57 = 34))) || (decide (c_57 = 39))) || (decide (c_57 = 62))) || (decide (c_57 = 47))) || (decide (c_57 = 61))) || (decide (c_57 = 60))) == false)) && ((decide (65 ≤ c_57)) == true))) (cv_get (hA216.get rfl) hg) (hA216.get rfl) (fun he => g_mkt hg he)) fun a217 hA217 _ => ?_)
      refine sq (opk_val hA217 rfl (r_pick_or (g := (true && ((((((((((((decide (c_57 = 0)) || (decide (c_57 = 9))) || (decide (c_57 = 10))) || (decide (c_57 = 12))) || (decide (c_57 = 32))) || (decide (c_57 = 34))) || (decide (c_57 = 39))) || (decide (c_57 = 62))) || (decide (c_57 = 47))) || (decide (c_57 = 61))) || (decide (c_57 = 60))) == false))) (hA217.get rfl) (hA217.get rfl) (fun he => g_mkf rfl he)) fun a218 hA218 _ => ?_)
      refine sq (opk_val hA218 rfl (r_assign (hA218.get rfl)) fun a219 hA219 _ => ?_)
      refine sq_end ?_
      have hA220 := hA219.keep [(2, .int .i64 c_57), (3, .bool ((((((((((((decide (c_57 = 0)) || (decide (c_57 = 9))) || (decide (c_57 = 10))) || (decide (c_57 = 12))) || (decide (c_57 = 32))) || (decide (c_57 = 34))) || (decide (c_57 = 39))) || (decide (c_57 = 62))) || (decide (c_57 = 47))) || (decide (c_57 = 61))) || (decide (c_57 = 60))) || ((decide (65 ≤ c_57)) && (decide (c_57 ≤ 90)))))] ⟨rfl, rfl, trivial⟩
      refine then_normal ?_
      refine wp_seq ?_
      refine wp_region_lit ?_
      refine sq (opk_val hA220 rfl (r_move (hA220.get rfl)) fun a221 hA221 _ => ?_)
      refine sq (opk_val hA221 rfl (r_conv (hA221.get rfl) rfl Try.underlying5) fun a222 hA222 _ => ?_)
      refine sq (opk_new (fun B => .slice (some ⟨B, 0, none⟩) 1 1) hA222 rfl (r_buildSlice (vs := #[(0, .int .u8 (IntKind.u8.wrap c_57))]) (cs := [.int .u8 (IntKind.u8.wrap c_57)]) (map_arr2 (ml2_cons (hA222.get rfl) (ml2_nil))) Try.underlying39 ti_5 rfl rfl (by kernel_rfl)) fun a225 w224 B_223 hE226 hN227 hB228 hA225 _ => ?_)
      have hN229 : New w58 B_223 w224 := hN227
      have hC230 : Chg [] w58 w224 := hE226
      have ht231 := ht167 w224 B_223 hN229  hC230
      have ht232 := ht231 hB228
      obtain ⟨s_233, hx234, ht235⟩ := ht232
      refine sq (opk_val hA225 rfl (r_convR (hA225.get rfl) hx234) fun a236 hA236 _ => ?_)
      obtain ⟨hS238, ht239⟩ := ht235
      refine sq (opk_val hA236 rfl (r_sadd rfl (hA236.get rfl) hS238) fun a237 hA237 _ => ?_)
      refine sq (opk_call hA237 rfl (r_call (args := #[.string (Bs (([120] : Str) ++ s_233))]) Try.func19 (by decide) rfl (map_arr (ml_cons (hA237.get rfl) ml_nil)) rfl) ht239 fun a241 v247 w242 hA241 _ hn244 hz245 hK246 => ?_)
      obtain ⟨r_240, rfl, ht243⟩ := hK246
      refine sq (opk_val hA241 rfl (r_move (hA241.get rfl)) fun a248 hA248 _ => ?_)
      refine sq (opk_val hA248 rfl (r_beql (hA248.get rfl) (hA248.get rfl) Try.underlying4) fun a249 hA249 _ => ?_)
      refine sq_end ?_
      have hA250 := hA249.keep [(2, .int .i64 c_57), (80, .bool (r_240 == ((((((((((((decide (c_57 = 0)) || (decide (c_57 = 9))) || (decide (c_57 = 10))) || (decide (c_57 = 12))) || (decide (c_57 = 32))) || (decide (c_57 = 34))) || (decide (c_57 = 39))) || (decide (c_57 = 62))) || (decide (c_57 = 47))) || (decide (c_57 = 61))) || (decide (c_57 = 60))) || ((decide (65 ≤ c_57)) && (decide (c_57 ≤ 90))))))] ⟨rfl, rfl, trivial⟩
      refine then_normal ?_
      refine wp_cond_split (hA250.get rfl) (fun hc => ?_) (fun hc => ?_)
      · have ht251 := ht243.1 hc
        clear hc
        refine wp_seq ?_
        refine wp_region_lit ?_
        refine sq (opk_val hA250 rfl (r_assign rfl) fun a253 hA253 _ => ?_)
        refine sq_end ?_
        have hA254 := hA253.keep [(0, .bool false)] ⟨rfl, trivial⟩
        refine then_normal ?_
        refine wp_ret ?_
        refine block_ret ?_
        refine then_ret ?_
        refine then_ret ?_
        refine block_ret ?_
        refine then_ret ?_
        exact res_all (vs := [.bool false]) rfl hA254 ⟨res_of_tmp hA254 rfl, trivial⟩ ht251
      · have ht252 := ht243.2 hc
        clear hc
        refine wp_skip ?_
        refine block_normal ?_
        refine then_normal ?_
        refine wp_region_lit ?_
        refine sq (opk_val hA250 rfl (r_move (hA250.get rfl)) fun a255 hA255 _ => ?_)
        obtain ⟨hS257, ht258⟩ := ht252
        refine sq (opk_val hA255 rfl (r_addI (hA255.get rfl) rfl hS257) fun a256 hA256 _ => ?_)
        refine sq (opk_val hA256 rfl (r_assign (hA256.get rfl)) fun a259 hA259 _ => ?_)
        refine sq_end ?_
        have hA260 := hA259.keep [(2, .int .i64 (c_57 + 1))] ⟨rfl, trivial⟩
        have hA261 := hA260.keep [(2, .int .i64 (c_57 + 1))] ⟨rfl, trivial⟩
        exact then_normal ⟨(c_57 + 1, w242), ⟨hA261, rfl, ht258.1⟩, ht258.2⟩
    · have ht168 := ht162.2 (of_decide_eq_false hc)
      clear hc
      refine wp_exit ?_
      refine then_exit ?_
      refine then_exit ?_
      refine block_hit ?_
      have hA262 := hA166.keep [] trivial
      refine then_normal ?_
      refine wp_seq ?_
      refine wp_region_lit ?_
      refine sq (opk_call hA262 rfl (r_call (args := #[]) Try.func15 (by decide) rfl (map_arr ml_nil) rfl) ht168 fun a264 v270 w265 hA264 _ hn267 hz268 hK269 => ?_)
      obtain ⟨r_263, rfl, ht266⟩ := hK269
      refine sq (opk_val hA264 rfl (r_assign (hA264.get rfl)) fun a271 hA271 _ => ?_)
      refine sq_end ?_
      have hA272 := hA271.keep [(0, .bool r_263)] ⟨rfl, trivial⟩
      refine then_normal ?_
      refine wp_ret ?_
      exact res_all (vs := [.bool r_263]) rfl hA272 ⟨res_of_tmp hA272 rfl, trivial⟩ ht266

/-- The condition of topiary/topiarylaw05.TreeParts. -/
def law05_TreeParts.vc (t_1_Kind : Int) (t_1_Name : Str) (t_1_Text : Str) (t_1_Attrs : Sl) (t_1_Kids : Sl) (R : Value → World → Prop) (w : World) : Prop :=
∀ (w3 : World) (B_2 : Nat), New w B_2 w3 → Chg [] w w3 →
CallK Try.prog 20 #[.agg #[.int .i64 t_1_Kind, .string (Bs t_1_Name), .string (Bs t_1_Text), Sl.v t_1_Attrs, Sl.v t_1_Kids]] w3 [B_2] (fun v w16 => ∃ (r_14 : Bool), v = .bool r_14 ∧
((r_14 = false) →
CallK Try.prog 15 #[] w16 [B_2] (fun v w29 => ∃ (r_27 : Bool), v = .bool r_27 ∧
R (.bool r_27) w29)) ∧
((r_14 = true) →
∀ (w38 : World), Chg [] w16 w38 →
∀ (w47 : World), Chg [] w38 w47 →
∃ (J_68 : Int → Int → Int → Int → World → Prop) (mu_69 : Int → Int → Int → Int → World → Nat),
J_68 1 0 (t_1_Attrs.n : Int) 0 w47 ∧
(∀ (n_63 : Int) (d_64 : Int) (s_65 : Int) (i_66 : Int) (w67 : World), J_68 n_63 d_64 s_65 i_66 w67 →
((i_66 < (t_1_Kids.n : Int)) →
((0 : Int) ≤ i_66 ∧ i_66 < (t_1_Kids.n : Int)) ∧ ∃ p_184 : Addr, t_1_Kids.a = some p_184 ∧
∃ (x_190_Kind : Int) (x_190_Name : Str) (x_190_Text : Str) (x_190_Attrs : Sl) (x_190_Kids : Sl), (Cells w67 (p_184.add (i_66.toNat * 5)) [.int .i64 x_190_Kind, .string (Bs x_190_Name), .string (Bs x_190_Text), Sl.v x_190_Attrs, Sl.v x_190_Kids]) ∧
CallK Try.prog 21 #[.agg #[.int .i64 x_190_Kind, .string (Bs x_190_Name), .string (Bs x_190_Text), Sl.v x_190_Attrs, Sl.v x_190_Kids]] w67 [B_2] (fun v w195 => ∃ (r_193 : Int), v = .int .i64 r_193 ∧
(I64 (n_63 + r_193)) ∧
((0 : Int) ≤ i_66 ∧ i_66 < (t_1_Kids.n : Int)) ∧ ∃ p_211 : Addr, t_1_Kids.a = some p_211 ∧
∃ (x_217_Kind : Int) (x_217_Name : Str) (x_217_Text : Str) (x_217_Attrs : Sl) (x_217_Kids : Sl), (Cells w195 (p_211.add (i_66.toNat * 5)) [.int .i64 x_217_Kind, .string (Bs x_217_Name), .string (Bs x_217_Text), Sl.v x_217_Attrs, Sl.v x_217_Kids]) ∧
CallK Try.prog 18 #[.agg #[.int .i64 x_217_Kind, .string (Bs x_217_Name), .string (Bs x_217_Text), Sl.v x_217_Attrs, Sl.v x_217_Kids]] w195 [B_2] (fun v w222 => ∃ (r_220 : Int), v = .int .i64 r_220 ∧
((0 : Int) ≤ i_66 ∧ i_66 < (t_1_Kids.n : Int)) ∧ ∃ p_236 : Addr, t_1_Kids.a = some p_236 ∧
∃ (x_242_Kind : Int) (x_242_Name : Str) (x_242_Text : Str) (x_242_Attrs : Sl) (x_242_Kids : Sl), (Cells w222 (p_236.add (i_66.toNat * 5)) [.int .i64 x_242_Kind, .string (Bs x_242_Name), .string (Bs x_242_Text), Sl.v x_242_Attrs, Sl.v x_242_Kids]) ∧
CallK Try.prog 22 #[.agg #[.int .i64 x_242_Kind, .string (Bs x_242_Name), .string (Bs x_242_Text), Sl.v x_242_Attrs, Sl.v x_242_Kids]] w222 [B_2] (fun v w247 => ∃ (r_245 : Int), v = .int .i64 r_245 ∧
(I64 (s_65 + r_245)) ∧
(I64 (i_66 + 1)) ∧
J_68 (n_63 + r_193) (max d_64 r_220) (s_65 + r_245) (i_66 + 1) w247 ∧ mu_69 (n_63 + r_193) (max d_64 r_220) (s_65 + r_245) (i_66 + 1) w247 < mu_69 n_63 d_64 s_65 i_66 w67)))) ∧
((¬ (i_66 < (t_1_Kids.n : Int))) →
CallK Try.prog 21 #[.agg #[.int .i64 t_1_Kind, .string (Bs t_1_Name), .string (Bs t_1_Text), Sl.v t_1_Attrs, Sl.v t_1_Kids]] w67 [B_2] (fun v w270 => ∃ (r_268 : Int), v = .int .i64 r_268 ∧
∃ (r_281 : Int), (((r_268 = n_63)) → Calls Try.prog 18 #[.agg #[.int .i64 t_1_Kind, .string (Bs t_1_Name), .string (Bs t_1_Text), Sl.v t_1_Attrs, Sl.v t_1_Kids]] w270 (Ret fun v w' => Ext w270 w' ∧ v = .int .i64 r_281)) ∧
(∀ w283 : World, Ext w270 w283 →
(((r_268 = n_63)) → I64 (d_64 + 1)) ∧
∃ (r_298 : Int), ((((r_268 = n_63) ∧ (r_281 = (d_64 + 1)))) → Calls Try.prog 22 #[.agg #[.int .i64 t_1_Kind, .string (Bs t_1_Name), .string (Bs t_1_Text), Sl.v t_1_Attrs, Sl.v t_1_Kids]] w283 (Ret fun v w' => Ext w283 w' ∧ v = .int .i64 r_298)) ∧
(∀ w300 : World, Ext w283 w300 →
∃ (r_311 : Bool), (((((r_268 = n_63) ∧ (r_281 = (d_64 + 1))) ∧ (r_298 = s_65))) → Calls Try.prog 15 #[] w300 (Ret fun v w' => Ext w300 w' ∧ v = .bool r_311)) ∧
(∀ w313 : World, Ext w300 w313 →
R (.bool ((((decide (r_268 = n_63)) && (decide (r_281 = (d_64 + 1)))) && (decide (r_298 = s_65))) && r_311)) w313))))))))
set_option maxHeartbeats 1000000 in
set_option maxRecDepth 10000 in
theorem law05_TreeParts.ok (t_1_Kind : Int) (t_1_Name : Str) (t_1_Text : Str) (t_1_Attrs : Sl) (t_1_Kids : Sl) {R : Value → World → Prop} {w : World} (ht0 : law05_TreeParts.vc t_1_Kind t_1_Name t_1_Text t_1_Attrs t_1_Kids R w) : Calls Try.prog 6 #[.agg #[.int .i64 t_1_Kind, .string (Bs t_1_Name), .string (Bs t_1_Text), Sl.v t_1_Attrs, Sl.v t_1_Kids]] w (Ret R) := by
  refine enter [.agg #[.int .i64 t_1_Kind, .string (Bs t_1_Name), .string (Bs t_1_Text), Sl.v t_1_Attrs, Sl.v t_1_Kids]] Try.func6 rfl Try.ntmps6 rfl ?_
  intro a0 hA0
  unfold law05_TreeParts.vc at ht0
  refine wp_seq ?_
  refine wp_region_lit ?_
  refine sq (opk_new (fun B => .pointer (some ⟨B, 0, none⟩)) hA0 rfl (r_box (cs := [.int .i64 t_1_Kind, .string (Bs t_1_Name), .string (Bs t_1_Text), Sl.v t_1_Attrs, Sl.v t_1_Kids]) (hA0.get rfl) rfl) fun a4 w3 B_2 hE5 hN6 hB7 hA4 _ => ?_)
  have hN8 : New w B_2 w3 := hN6
  have hC9 : Chg [] w w3 := hE5
  refine sq (opk_val hA4 rfl (r_assign rfl) fun a10 hA10 _ => ?_)
  refine sq_end ?_
  have hA11 := hA10.keep [(1, .pointer (some ⟨B_2, 0, none⟩))] ⟨rfl, trivial⟩
  refine then_normal ?_
  refine wp_seq ?_
  refine wp_seq ?_
  refine wp_region_lit ?_
  refine sq (opk_val hA11 rfl (r_loadN (cs := [.int .i64 t_1_Kind, .string (Bs t_1_Name), .string (Bs t_1_Text), Sl.v t_1_Attrs, Sl.v t_1_Kids]) Try.underlying26 rfl ti_26 (hA11.get rfl) (hB7.part 0 _ rfl)) fun a12 hA12 _ => ?_)
  have ht13 := ht0 w3 B_2 hN8  hC9
  refine sq (opk_call hA12 rfl (r_call (args := #[.agg #[.int .i64 t_1_Kind, .string (Bs t_1_Name), .string (Bs t_1_Text), Sl.v t_1_Attrs, Sl.v t_1_Kids]]) Try.func20 (by decide) rfl (map_arr (ml_cons (hA12.get rfl) ml_nil)) rfl) ht13 fun a15 v21 w16 hA15 _ hn18 hz19 hK20 => ?_)
  obtain ⟨r_14, rfl, ht17⟩ := hK20
  have hB22 := hB7.kept hn18 (.head _)
  refine sq (opk_val hA15 rfl (r_not (hA15.get rfl)) fun a23 hA23 _ => ?_)
  refine sq_end ?_
  have hA24 := hA23.keep [(1, .pointer (some ⟨B_2, 0, none⟩)), (9, .bool (!r_14))] ⟨rfl, rfl, trivial⟩
  refine then_normal ?_
  refine wp_cond_split (hA24.get rfl) (fun hc => ?_) (fun hc => ?_)
  · have ht25 := ht17.1 (b_not_t hc)
    clear hc
    refine wp_seq ?_
    refine wp_region_lit ?_
    refine sq (opk_call hA24 rfl (r_call (args := #[]) Try.func15 (by decide) rfl (map_arr ml_nil) rfl) ht25 fun a28 v34 w29 hA28 _ hn31 hz32 hK33 => ?_)
    obtain ⟨r_27, rfl, ht30⟩ := hK33
    have hB35 := hB22.kept hn31 (.head _)
    refine sq (opk_val hA28 rfl (r_assign (hA28.get rfl)) fun a36 hA36 _ => ?_)
    refine sq_end ?_
    have hA37 := hA36.keep [(2, .bool r_27)] ⟨rfl, trivial⟩
    refine then_normal ?_
    refine wp_ret ?_
    refine then_ret ?_
    exact res_all (vs := [.bool r_27]) rfl hA37 ⟨res_of_tmp hA37 rfl, trivial⟩ ht30
  · have ht26 := ht17.2 (b_not_f hc)
    clear hc
    refine wp_skip ?_
    refine then_normal ?_
    refine wp_seq ?_
    refine draw' (by kernel_rfl) fun w38 hE39 => ?_
    have hB40 := hB22.ext hE39
    have hC41 : Chg [] w16 w38 := hE39
    have ht42 := ht26 w38    hC41
    refine par (D := [[], [0], [0, 1], [], [3], [0, 1, 2, 3, 4]]) (S := [0, 1, 2, 3, 4, 5]) (F := []) (V := VL [(0, fun v _ => v = .pointer (some ⟨B_2, 3, none⟩)), (1, fun v _ => v = Sl.v t_1_Attrs), (2, fun v _ => v = .int .i64 (t_1_Attrs.n : Int)), (3, fun v _ => v = .int .i64 1), (4, fun v _ => v = .int .i64 0), (5, fun v _ => v = .int .i64 (t_1_Attrs.n : Int))]) hA24 (by kernel_rfl) ⟨fun _ _ _ _ h => by first | exact h | (change _ = _ at h; change _ = _; exact h), fun _ _ _ _ h => by first | exact h | (change _ = _ at h; change _ = _; exact h), fun _ _ _ _ h => by first | exact h | (change _ = _ at h; change _ = _; exact h), fun _ _ _ _ h => by first | exact h | (change _ = _ at h; change _ = _; exact h), fun _ _ _ _ h => by first | exact h | (change _ = _ at h; change _ = _; exact h), fun _ _ _ _ h => by first | exact h | (change _ = _ at h; change _ = _; exact h), trivial⟩ ⟨?_, ?_, ?_, ?_, ?_, ?_, trivial⟩ ?_
    · intro a w hT
      have hAp := hT.ag hA24 [(1, .pointer (some ⟨B_2, 0, none⟩))] ⟨rfl, trivial⟩ (by kernel_rfl)
      exact opk_val hAp rfl (r_fieldAddr (hAp.get rfl) Try.underlying26 rfl ti_23 (by decide)) fun _ _ e => ⟨_, e, Chg.refl _ _, fun _ => Eq.refl _⟩
    · intro a w hT
      have hAp := hT.ag hA24 [] trivial (by kernel_rfl)
      have e43 : a.tmps.getD 11 undef = .pointer (some ⟨B_2, 3, none⟩) := hT.vals 0 rfl 11 rfl
      have hAp := hAp.add e43
      exact opk_val hAp rfl (r_load1 Try.underlying23 rfl (hAp.get rfl) ((hB40.ext hT.chg).cell 3 _ rfl)) fun _ _ e => ⟨_, e, Chg.refl _ _, fun _ => Eq.refl _⟩
    · intro a w hT
      have hAp := hT.ag hA24 [] trivial (by kernel_rfl)
      have e44 : a.tmps.getD 12 undef = Sl.v t_1_Attrs := hT.vals 1 rfl 12 rfl
      have hAp := hAp.add e44
      exact opk_val hAp rfl (r_len (hAp.get rfl) Try.underlying23) fun _ _ e => ⟨_, e, Chg.refl _ _, fun _ => Eq.refl _⟩
    · intro a w hT
      have hAp := hT.ag hA24 [] trivial (by kernel_rfl)
      exact opk_val hAp rfl (r_assign rfl) fun _ _ e => ⟨_, e, Chg.refl _ _, fun _ => Eq.refl _⟩
    · intro a w hT
      have hAp := hT.ag hA24 [] trivial (by kernel_rfl)
      exact opk_val hAp rfl (r_assign rfl) fun _ _ e => ⟨_, e, Chg.refl _ _, fun _ => Eq.refl _⟩
    · intro a w hT
      have hAp := hT.ag hA24 [] trivial (by kernel_rfl)
      have e45 : a.tmps.getD 13 undef = .int .i64 (t_1_Attrs.n : Int) := hT.vals 2 rfl 13 rfl
      have hAp := hAp.add e45
      exact opk_val hAp rfl (r_assign (hAp.get rfl)) fun _ _ e => ⟨_, e, Chg.refl _ _, fun _ => Eq.refl _⟩
    · intro a46 w47 hE48 hag49 hv50
      have hA46 := hag49 [(1, .pointer (some ⟨B_2, 0, none⟩))] ⟨rfl, trivial⟩ (by kernel_rfl)
      have e52 : a46.tmps.getD 3 undef = .int .i64 1 := hv50 3 rfl 3 rfl
      have hA53 := hA46.add e52
      have e54 : a46.tmps.getD 4 undef = .int .i64 0 := hv50 4 rfl 4 rfl
      have hA55 := hA53.add e54
      have e56 : a46.tmps.getD 5 undef = .int .i64 (t_1_Attrs.n : Int) := hv50 5 rfl 5 rfl
      have hA57 := hA55.add e56
      have hB58 := hB40.ext hE48
      have hC59 : Chg [] w38 w47 := hE48
      refine PR_end (by kernel_rfl) ?_
      have hA60 := hA57.keep [(1, .pointer (some ⟨B_2, 0, none⟩)), (3, .int .i64 1), (4, .int .i64 0), (5, .int .i64 (t_1_Attrs.n : Int))] ⟨rfl, rfl, rfl, rfl, trivial⟩
      refine then_normal ?_
      refine wp_seq ?_
      refine wp_seq ?_
      refine wp_region_lit ?_
      refine sq (opk_val hA60 rfl (r_assign rfl) fun a61 hA61 _ => ?_)
      refine sq_end ?_
      have hA62 := hA61.keep [(1, .pointer (some ⟨B_2, 0, none⟩)), (3, .int .i64 1), (4, .int .i64 0), (5, .int .i64 (t_1_Attrs.n : Int)), (6, .int .i64 0)] ⟨rfl, rfl, rfl, rfl, rfl, trivial⟩
      refine then_normal ?_
      refine wp_block ?_
      have ht165 := ht42 w47    hC59
      obtain ⟨J_68, mu_69, h0169, ht168⟩ := ht165
      refine wp_loop_st (σ := Int × Int × Int × Int × World) (fun s a w => Ag 65 a [(1, .pointer (some ⟨B_2, 0, none⟩)), (3, .int .i64 s.1), (4, .int .i64 s.2.1), (5, .int .i64 s.2.2.1), (6, .int .i64 s.2.2.2.1)] ∧ Box w B_2 26 [.int .i64 t_1_Kind, .string (Bs t_1_Name), .string (Bs t_1_Text), Sl.v t_1_Attrs, Sl.v t_1_Kids] ∧ w = s.2.2.2.2 ∧ J_68 s.1 s.2.1 s.2.2.1 s.2.2.2.1 s.2.2.2.2) (fun s => mu_69 s.1 s.2.1 s.2.2.1 s.2.2.2.1 s.2.2.2.2) (1, 0, (t_1_Attrs.n : Int), 0, w47) ⟨hA62.keep [(1, .pointer (some ⟨B_2, 0, none⟩)), (3, .int .i64 1), (4, .int .i64 0), (5, .int .i64 (t_1_Attrs.n : Int)), (6, .int .i64 0)] ⟨rfl, rfl, rfl, rfl, rfl, trivial⟩, hB58, rfl, h0169⟩ ?_
      rintro ⟨n_63, d_64, s_65, i_66, w67⟩ a166 w_ ⟨hA166, hB167, hw_, hJ171⟩
      have hw_ : w67 = w_ := hw_.symm
      subst hw_
      have ht170 := ht168 n_63 d_64 s_65 i_66 _ hJ171
      refine wp_seq ?_
      refine wp_seq ?_
      refine wp_region_lit ?_
      refine sq (opk_val hA166 rfl (r_move (hA166.get rfl)) fun a172 hA172 _ => ?_)
      refine sq (opk_val hA172 rfl (r_fieldAddr (hA172.get rfl) Try.underlying26 rfl ti_24 (by decide)) fun a173 hA173 _ => ?_)
      refine sq (opk_val hA173 rfl (r_load1 Try.underlying24 rfl (hA173.get rfl) (hB167.cell 4 _ rfl)) fun a174 hA174 _ => ?_)
      refine sq (opk_val hA174 rfl (r_len (hA174.get rfl) Try.underlying24) fun a175 hA175 _ => ?_)
      refine sq (opk_val hA175 rfl (r_lss (hA175.get rfl) (hA175.get rfl)) fun a176 hA176 _ => ?_)
      refine sq_end ?_
      have hA177 := hA176.keep [(1, .pointer (some ⟨B_2, 0, none⟩)), (3, .int .i64 n_63), (4, .int .i64 d_64), (5, .int .i64 s_65), (6, .int .i64 i_66), (18, .bool (decide (i_66 < (t_1_Kids.n : Int))))] ⟨rfl, rfl, rfl, rfl, rfl, rfl, trivial⟩
      refine then_normal ?_
      refine wp_cond_split (hA177.get rfl) (fun hc => ?_) (fun hc => ?_)
      · have ht178 := ht170.1 (of_decide_eq_true hc)
        clear hc
        refine wp_skip ?_
        refine then_normal ?_
        refine wp_seq ?_
        refine wp_block ?_
        refine wp_seq ?_
        refine wp_region_lit ?_
        refine sq (opk_val hA177 rfl (r_move (hA177.get rfl)) fun a180 hA180 _ => ?_)
        refine sq (opk_val hA180 rfl (r_fieldAddr (hA180.get rfl) Try.underlying26 rfl ti_24 (by decide)) fun a181 hA181 _ => ?_)
        refine sq (opk_val hA181 rfl (r_load1 Try.underlying24 rfl (hA181.get rfl) (hB167.cell 4 _ rfl)) fun a182 hA182 _ => ?_)
        refine sq (opk_val hA182 rfl (r_move (hA182.get rfl)) fun a183 hA183 _ => ?_)
        obtain ⟨hb185, p_184, hp186, ht187⟩ := ht178
        refine sq (opk_val hA183 rfl (r_indexAddr (hA183.get rfl) (hA183.get rfl) Try.underlying24 ti_26 hb185 hp186) fun a188 hA188 _ => ?_)
        obtain ⟨x_190_Kind, x_190_Name, x_190_Text, x_190_Attrs, x_190_Kids, hx191, ht192⟩ := ht187
        refine sq (opk_val hA188 rfl (r_loadN Try.underlying26 rfl ti_26 (hA188.get rfl) hx191) fun a189 hA189 _ => ?_)
        refine sq (opk_call hA189 rfl (r_call (args := #[.agg #[.int .i64 x_190_Kind, .string (Bs x_190_Name), .string (Bs x_190_Text), Sl.v x_190_Attrs, Sl.v x_190_Kids]]) Try.func21 (by decide) rfl (map_arr (ml_cons (hA189.get rfl) ml_nil)) rfl) ht192 fun a194 v200 w195 hA194 _ hn197 hz198 hK199 => ?_)
        obtain ⟨r_193, rfl, ht196⟩ := hK199
        have hB201 := hB167.kept hn197 (.head _)
        obtain ⟨hS203, ht204⟩ := ht196
        refine sq (opk_val hA194 rfl (r_addI (hA194.get rfl) (hA194.get rfl) hS203) fun a202 hA202 _ => ?_)
        refine sq (opk_val hA202 rfl (r_assign (hA202.get rfl)) fun a205 hA205 _ => ?_)
        refine sq_end ?_
        have hA206 := hA205.keep [(1, .pointer (some ⟨B_2, 0, none⟩)), (3, .int .i64 (n_63 + r_193)), (4, .int .i64 d_64), (5, .int .i64 s_65), (6, .int .i64 i_66)] ⟨rfl, rfl, rfl, rfl, rfl, trivial⟩
        refine then_normal ?_
        refine wp_seq ?_
        refine wp_region_lit ?_
        refine sq (opk_val hA206 rfl (r_move (hA206.get rfl)) fun a207 hA207 _ => ?_)
        refine sq (opk_val hA207 rfl (r_fieldAddr (hA207.get rfl) Try.underlying26 rfl ti_24 (by decide)) fun a208 hA208 _ => ?_)
        refine sq (opk_val hA208 rfl (r_load1 Try.underlying24 rfl (hA208.get rfl) (hB201.cell 4 _ rfl)) fun a209 hA209 _ => ?_)
        refine sq (opk_val hA209 rfl (r_move (hA209.get rfl)) fun a210 hA210 _ => ?_)
        obtain ⟨hb212, p_211, hp213, ht214⟩ := ht204
        refine sq (opk_val hA210 rfl (r_indexAddr (hA210.get rfl) (hA210.get rfl) Try.underlying24 ti_26 hb212 hp213) fun a215 hA215 _ => ?_)
        obtain ⟨x_217_Kind, x_217_Name, x_217_Text, x_217_Attrs, x_217_Kids, hx218, ht219⟩ := ht214
        refine sq (opk_val hA215 rfl (r_loadN Try.underlying26 rfl ti_26 (hA215.get rfl) hx218) fun a216 hA216 _ => ?_)
        refine sq (opk_call hA216 rfl (r_call (args := #[.agg #[.int .i64 x_217_Kind, .string (Bs x_217_Name), .string (Bs x_217_Text), Sl.v x_217_Attrs, Sl.v x_217_Kids]]) Try.func18 (by decide) rfl (map_arr (ml_cons (hA216.get rfl) ml_nil)) rfl) ht219 fun a221 v227 w222 hA221 _ hn224 hz225 hK226 => ?_)
        obtain ⟨r_220, rfl, ht223⟩ := hK226
        have hB228 := hB201.kept hn224 (.head _)
        refine sq (opk_val hA221 rfl (r_max (hA221.get rfl) (hA221.get rfl)) fun a229 hA229 _ => ?_)
        refine sq (opk_val hA229 rfl (r_assign (hA229.get rfl)) fun a230 hA230 _ => ?_)
        refine sq_end ?_
        have hA231 := hA230.keep [(1, .pointer (some ⟨B_2, 0, none⟩)), (3, .int .i64 (n_63 + r_193)), (4, .int .i64 (max d_64 r_220)), (5, .int .i64 s_65), (6, .int .i64 i_66)] ⟨rfl, rfl, rfl, rfl, rfl, trivial⟩
        refine then_normal ?_
        refine wp_region_lit ?_
        refine sq (opk_val hA231 rfl (r_move (hA231.get rfl)) fun a232 hA232 _ => ?_)
        refine sq (opk_val hA232 rfl (r_fieldAddr (hA232.get rfl) Try.underlying26 rfl ti_24 (by decide)) fun a233 hA233 _ => ?_)
        refine sq (opk_val hA233 rfl (r_load1 Try.underlying24 rfl (hA233.get rfl) (hB228.cell 4 _ rfl)) fun a234 hA234 _ => ?_)
        refine sq (opk_val hA234 rfl (r_move (hA234.get rfl)) fun a235 hA235 _ => ?_)
        obtain ⟨hb237, p_236, hp238, ht239⟩ := ht223
        refine sq (opk_val hA235 rfl (r_indexAddr (hA235.get rfl) (hA235.get rfl) Try.underlying24 ti_26 hb237 hp238) fun a240 hA240 _ => ?_)
        obtain ⟨x_242_Kind, x_242_Name, x_242_Text, x_242_Attrs, x_242_Kids, hx243, ht244⟩ := ht239
        refine sq (opk_val hA240 rfl (r_loadN Try.underlying26 rfl ti_26 (hA240.get rfl) hx243) fun a241 hA241 _ => ?_)
        refine sq (opk_call hA241 rfl (r_call (args := #[.agg #[.int .i64 x_242_Kind, .string (Bs x_242_Name), .string (Bs x_242_Text), Sl.v x_242_Attrs, Sl.v x_242_Kids]]) Try.func22 (by decide) rfl (map_arr (ml_cons (hA241.get rfl) ml_nil)) rfl) ht244 fun a246 v252 w247 hA246 _ hn249 hz250 hK251 => ?_)
        obtain ⟨r_245, rfl, ht248⟩ := hK251
        have hB253 := hB228.kept hn249 (.head _)
        obtain ⟨hS255, ht256⟩ := ht248
        refine sq (opk_val hA246 rfl (r_addI (hA246.get rfl) (hA246.get rfl) hS255) fun a254 hA254 _ => ?_)
        refine sq (opk_val hA254 rfl (r_assign (hA254.get rfl)) fun a257 hA257 _ => ?_)
        refine sq_end ?_
        have hA258 := hA257.keep [(1, .pointer (some ⟨B_2, 0, none⟩)), (3, .int .i64 (n_63 + r_193)), (4, .int .i64 (max d_64 r_220)), (5, .int .i64 (s_65 + r_245)), (6, .int .i64 i_66)] ⟨rfl, rfl, rfl, rfl, rfl, trivial⟩
        refine block_normal ?_
        refine then_normal ?_
        refine wp_region_lit ?_
        refine sq (opk_val hA258 rfl (r_move (hA258.get rfl)) fun a259 hA259 _ => ?_)
        obtain ⟨hS261, ht262⟩ := ht256
        refine sq (opk_val hA259 rfl (r_addI (hA259.get rfl) rfl hS261) fun a260 hA260 _ => ?_)
        refine sq (opk_val hA260 rfl (r_assign (hA260.get rfl)) fun a263 hA263 _ => ?_)
        refine sq_end ?_
        have hA264 := hA263.keep [(1, .pointer (some ⟨B_2, 0, none⟩)), (3, .int .i64 (n_63 + r_193)), (4, .int .i64 (max d_64 r_220)), (5, .int .i64 (s_65 + r_245)), (6, .int .i64 (i_66 + 1))] ⟨rfl, rfl, rfl, rfl, rfl, trivial⟩
        have hA265 := hA264.keep [(1, .pointer (some ⟨B_2, 0, none⟩)), (3, .int .i64 (n_63 + r_193)), (4, .int .i64 (max d_64 r_220)), (5, .int .i64 (s_65 + r_245)), (6, .int .i64 (i_66 + 1))] ⟨rfl, rfl, rfl, rfl, rfl, trivial⟩
        exact then_normal ⟨(n_63 + r_193, max d_64 r_220, s_65 + r_245, i_66 + 1, w247), ⟨hA265, hB253, rfl, ht262.1⟩, ht262.2⟩
      · have ht179 := ht170.2 (of_decide_eq_false hc)
        clear hc
        refine wp_exit ?_
        refine then_exit ?_
        refine then_exit ?_
        refine block_hit ?_
        have hA266 := hA177.keep [(1, .pointer (some ⟨B_2, 0, none⟩)), (3, .int .i64 n_63), (4, .int .i64 d_64), (5, .int .i64 s_65)] ⟨rfl, rfl, rfl, rfl, trivial⟩
        refine then_normal ?_
        refine wp_seq ?_
        refine wp_region_lit ?_
        refine sq (opk_val hA266 rfl (r_loadN (cs := [.int .i64 t_1_Kind, .string (Bs t_1_Name), .string (Bs t_1_Text), Sl.v t_1_Attrs, Sl.v t_1_Kids]) Try.underlying26 rfl ti_26 (hA266.get rfl) (hB167.part 0 _ rfl)) fun a267 hA267 _ => ?_)
        refine sq (opk_call hA267 rfl (r_call (args := #[.agg #[.int .i64 t_1_Kind, .string (Bs t_1_Name), .string (Bs t_1_Text), Sl.v t_1_Attrs, Sl.v t_1_Kids]]) Try.func21 (by decide) rfl (map_arr (ml_cons (hA267.get rfl) ml_nil)) rfl) ht179 fun a269 v275 w270 hA269 _ hn272 hz273 hK274 => ?_)
        obtain ⟨r_268, rfl, ht271⟩ := hK274
        have hB276 := hB167.kept hn272 (.head _)
        refine sq (opk_val hA269 rfl (r_move (hA269.get rfl)) fun a277 hA277 _ => ?_)
        refine sq (opk_val hA277 rfl (r_eql (hA277.get rfl) (hA277.get rfl)) fun a278 hA278 _ => ?_)
        refine sq (opk_val hA278 rfl (r_move (hA278.get rfl)) fun a279 hA279 _ => ?_)
        refine sq (opk_gval hA279 rfl rfl (g := true) (e := (decide (r_268 = n_63))) rfl (fun hg => r_loadN (cs := [.int .i64 t_1_Kind, .string (Bs t_1_Name), .string (Bs t_1_Text), Sl.v t_1_Attrs, Sl.v t_1_Kids]) Try.underlying26 rfl ti_26 (hA279.get rfl) (hB276.part 0 _ rfl)) fun a280 hA280 _ => ?_)
        obtain ⟨r_281, hc285, ht284⟩ := ht271
        refine sq (opk_gcall hA280 rfl rfl (g := true) (e := (decide (r_268 = n_63))) rfl (fun hg => r_call (args := #[.agg #[.int .i64 t_1_Kind, .string (Bs t_1_Name), .string (Bs t_1_Text), Sl.v t_1_Attrs, Sl.v t_1_Kids]]) Try.func18 (by decide) rfl (map_arr (ml_cons (cv_get (hA280.get rfl) hg) ml_nil)) rfl) (fun hg => hc285 (of_decide_eq_true (g_t hg))) fun a282 w283 hA282 _ hE286 => ?_)
        have hB287 := hB276.ext hE286
        have hC288 : Chg [] w270 w283 := hE286
        have ht289 := ht284 w283 hE286
        refine sq (opk_gval hA282 rfl rfl (g := true) (e := (decide (r_268 = n_63))) rfl (fun hg => r_move (hA282.get rfl)) fun a290 hA290 _ => ?_)
        obtain ⟨hS292, ht293⟩ := ht289
        refine sq (opk_gval hA290 rfl rfl (g := true) (e := (decide (r_268 = n_63))) rfl (fun hg => r_addI (cv_get (hA290.get rfl) hg) rfl (hS292 (of_decide_eq_true (g_t hg)))) fun a291 hA291 _ => ?_)
        refine sq (opk_gval hA291 rfl rfl (g := true) (e := (decide (r_268 = n_63))) rfl (fun hg => r_eql (cv_get (hA291.get rfl) hg) (cv_get (hA291.get rfl) hg)) fun a294 hA294 _ => ?_)
        refine sq (opk_val hA294 rfl (r_pick_and (g := (true && ((decide (r_268 = n_63)) == true))) (hA294.get rfl) (hA294.get rfl) (fun he => g_mkt rfl he)) fun a295 hA295 _ => ?_)
        refine sq (opk_val hA295 rfl (r_move (hA295.get rfl)) fun a296 hA296 _ => ?_)
        refine sq (opk_gval hA296 rfl rfl (g := true) (e := ((decide (r_268 = n_63)) && (decide (r_281 = (d_64 + 1))))) rfl (fun hg => r_loadN (cs := [.int .i64 t_1_Kind, .string (Bs t_1_Name), .string (Bs t_1_Text), Sl.v t_1_Attrs, Sl.v t_1_Kids]) Try.underlying26 rfl ti_26 (hA296.get rfl) (hB287.part 0 _ rfl)) fun a297 hA297 _ => ?_)
        obtain ⟨r_298, hc302, ht301⟩ := ht293
        refine sq (opk_gcall hA297 rfl rfl (g := true) (e := ((decide (r_268 = n_63)) && (decide (r_281 = (d_64 + 1))))) rfl (fun hg => r_call (args := #[.agg #[.int .i64 t_1_Kind, .string (Bs t_1_Name), .string (Bs t_1_Text), Sl.v t_1_Attrs, Sl.v t_1_Kids]]) Try.func22 (by decide) rfl (map_arr (ml_cons (cv_get (hA297.get rfl) hg) ml_nil)) rfl) (fun hg => hc302 ⟨(of_decide_eq_true (b_and_t (g_t hg)).1), (of_decide_eq_true (b_and_t (g_t hg)).2)⟩) fun a299 w300 hA299 _ hE303 => ?_)
        have hB304 := hB287.ext hE303
        have hC305 : Chg [] w283 w300 := hE303
        have ht306 := ht301 w300 hE303
        refine sq (opk_gval hA299 rfl rfl (g := true) (e := ((decide (r_268 = n_63)) && (decide (r_281 = (d_64 + 1))))) rfl (fun hg => r_move (hA299.get rfl)) fun a307 hA307 _ => ?_)
        refine sq (opk_gval hA307 rfl rfl (g := true) (e := ((decide (r_268 = n_63)) && (decide (r_281 = (d_64 + 1))))) rfl (fun hg => r_eql (cv_get (hA307.get rfl) hg) (cv_get (hA307.get rfl) hg)) fun a308 hA308 _ => ?_)
        refine sq (opk_val hA308 rfl (r_pick_and (g := (true && (((decide (r_268 = n_63)) && (decide (r_281 = (d_64 + 1)))) == true))) (hA308.get rfl) (hA308.get rfl) (fun he => g_mkt rfl he)) fun a309 hA309 _ => ?_)
        refine sq (opk_val hA309 rfl (r_move (hA309.get rfl)) fun a310 hA310 _ => ?_)
        obtain ⟨r_311, hc315, ht314⟩ := ht306
        refine sq (opk_gcall hA310 rfl rfl (g := true) (e := (((decide (r_268 = n_63)) && (decide (r_281 = (d_64 + 1)))) && (decide (r_298 = s_65)))) rfl (fun hg => r_call (args := #[]) Try.func15 (by decide) rfl (map_arr ml_nil) rfl) (fun hg => hc315 ⟨⟨(of_decide_eq_true (b_and_t (b_and_t (g_t hg)).1).1), (of_decide_eq_true (b_and_t (b_and_t (g_t hg)).1).2)⟩, (of_decide_eq_true (b_and_t (g_t hg)).2)⟩) fun a312 w313 hA312 _ hE316 => ?_)
        have hB317 := hB304.ext hE316
        have hC318 : Chg [] w300 w313 := hE316
        have ht319 := ht314 w313 hE316
        refine sq (opk_val hA312 rfl (r_pick_and (g := (true && ((((decide (r_268 = n_63)) && (decide (r_281 = (d_64 + 1)))) && (decide (r_298 = s_65))) == true))) (hA312.get rfl) (hA312.get rfl) (fun he => g_mkt rfl he)) fun a320 hA320 _ => ?_)
        refine sq (opk_val hA320 rfl (r_assign (hA320.get rfl)) fun a321 hA321 _ => ?_)
        refine sq_end ?_
        have hA322 := hA321.keep [(2, .bool ((((decide (r_268 = n_63)) && (decide (r_281 = (d_64 + 1)))) && (decide (r_298 = s_65))) && r_311))] ⟨rfl, trivial⟩
        refine then_normal ?_
        refine wp_ret ?_
        exact res_all (vs := [.bool ((((decide (r_268 = n_63)) && (decide (r_281 = (d_64 + 1)))) && (decide (r_298 = s_65))) && r_311)]) rfl hA322 ⟨res_of_tmp hA322 rfl, trivial⟩ ht319

/-- The condition of topiary/topiarylaw05.TreeAttrs. -/
def law05_TreeAttrs.vc (l_1 : Sl) (name_2 : Str) (R : Value → World → Prop) (w : World) : Prop :=
CallK Try.prog 11 #[Sl.v l_1] w [] (fun v w8 => ∃ (r_6_Kind : Int) (r_6_Name : Str) (r_6_Text : Str) (r_6_Attrs : Sl) (r_6_Kids : Sl), v = .agg #[.int .i64 r_6_Kind, .string (Bs r_6_Name), .string (Bs r_6_Text), Sl.v r_6_Attrs, Sl.v r_6_Kids] ∧
∀ (w22 : World) (B_14 : Nat), New w8 B_14 w22 → Chg [] w8 w22 →
∃ (J_34 : Int → World → Prop) (mu_35 : Int → World → Nat),
J_34 0 w22 ∧
(∀ (i_32 : Int) (w33 : World), J_34 i_32 w33 →
((i_32 < (r_6_Kids.n : Int)) →
((0 : Int) ≤ i_32 ∧ i_32 < (r_6_Kids.n : Int)) ∧ ∃ p_352 : Addr, r_6_Kids.a = some p_352 ∧
∃ (x_358_Kind : Int) (x_358_Name : Str) (x_358_Text : Str) (x_358_Attrs : Sl) (x_358_Kids : Sl), (Cells w33 (p_352.add (i_32.toNat * 5)) [.int .i64 x_358_Kind, .string (Bs x_358_Name), .string (Bs x_358_Text), Sl.v x_358_Attrs, Sl.v x_358_Kids]) ∧
∀ (w371 : World) (B_361 : Nat), New w33 B_361 w371 → Chg [] w33 w371 →
∃ (J_387 : Bool → Int → World → Prop) (mu_388 : Bool → Int → World → Nat),
J_387 false 0 w371 ∧
(∀ (in_384 : Bool) (j_385 : Int) (w386 : World), J_387 in_384 j_385 w386 →
((j_385 < (x_358_Attrs.n : Int)) →
∀ (w509 : World), Chg [] w386 w509 →
∃ p_518 : Addr, (((0 : Int) ≤ j_385 ∧ j_385 < (x_358_Attrs.n : Int)) ∧ x_358_Attrs.a = some p_518) ∧
∃ (x_523 : Str), (w509.cell? ((p_518.add (j_385.toNat * 2)).add 0) = some (.string (Bs x_523))) ∧
∃ (r_0_528 : Str) (r_1_529 : Bool), (∀ w' : World, Ext w509 w' → Calls Try.prog 23 #[.agg #[.int .i64 x_358_Kind, .string (Bs x_358_Name), .string (Bs x_358_Text), Sl.v x_358_Attrs, Sl.v x_358_Kids], .string (Bs x_523)] w' (Ret fun v w'' => Ext w' w'' ∧ v = .tuple #[.string (Bs r_0_528), .bool r_1_529])) ∧
∃ p_558 : Addr, (((r_1_529 = true)) → ((0 : Int) ≤ j_385 ∧ j_385 < (x_358_Attrs.n : Int)) ∧  x_358_Attrs.a = some p_558) ∧
∀ (w538 : World), Chg [] w509 w538 →
∃ (x_566 : Str), (((r_1_529 = true)) → w538.cell? ((p_558.add (j_385.toNat * 2)).add 1) = some (.string (Bs x_566))) ∧
(((r_1_529 = false) ∨ (r_0_528 ≠ x_566)) →
R (.bool false) w538) ∧
(((r_1_529 = true) ∧ (¬ (r_0_528 ≠ x_566))) →
∃ p_581 : Addr, (((in_384 = false)) → ((0 : Int) ≤ j_385 ∧ j_385 < (x_358_Attrs.n : Int)) ∧  x_358_Attrs.a = some p_581) ∧
∃ (x_588 : Str), (((in_384 = false)) → w538.cell? ((p_581.add (j_385.toNat * 2)).add 0) = some (.string (Bs x_588))) ∧
(I64 (j_385 + 1)) ∧
J_387 (in_384 || (decide (x_588 = name_2))) (j_385 + 1) w538 ∧ mu_388 (in_384 || (decide (x_588 = name_2))) (j_385 + 1) w538 < mu_388 in_384 j_385 w386)) ∧
((¬ (j_385 < (x_358_Attrs.n : Int))) →
CallK Try.prog 23 #[.agg #[.int .i64 x_358_Kind, .string (Bs x_358_Name), .string (Bs x_358_Text), Sl.v x_358_Attrs, Sl.v x_358_Kids], .string (Bs name_2)] w386 [B_14, B_361] (fun v w609 => ∃ (r_0_606 : Str) (r_1_607 : Bool), v = .tuple #[.string (Bs r_0_606), .bool r_1_607] ∧
(((r_1_607 == in_384) = false) →
R (.bool false) w609) ∧
(((r_1_607 == in_384) = true) →
(I64 (i_32 + 1)) ∧
J_34 (i_32 + 1) w609 ∧ mu_35 (i_32 + 1) w609 < mu_35 i_32 w33))))) ∧
((¬ (i_32 < (r_6_Kids.n : Int))) →
CallK Try.prog 23 #[.agg #[.int .i64 0, .string (Bs ([] : Str)), .string (Bs ([] : Str)), Sl.v Sl.nil, Sl.v Sl.nil], .string (Bs name_2)] w33 [] (fun v w644 => ∃ (r_0_641 : Str) (r_1_642 : Bool), v = .tuple #[.string (Bs r_0_641), .bool r_1_642] ∧
∃ (r_659 : Bool), (((r_1_642 = false)) → Calls Try.prog 15 #[] w644 (Ret fun v w' => Ext w644 w' ∧ v = .bool r_659)) ∧
(∀ w661 : World, Ext w644 w661 →
R (.bool ((!r_1_642) && r_659)) w661)))))
set_option maxHeartbeats 1000000 in
set_option maxRecDepth 10000 in
theorem law05_TreeAttrs.ok (l_1 : Sl) (name_2 : Str) {R : Value → World → Prop} {w : World} (ht0 : law05_TreeAttrs.vc l_1 name_2 R w) : Calls Try.prog 7 #[Sl.v l_1, .string (Bs name_2)] w (Ret R) := by
  refine enter [Sl.v l_1, .string (Bs name_2)] Try.func7 rfl Try.ntmps7 rfl ?_
  intro a0 hA0
  unfold law05_TreeAttrs.vc at ht0
  refine wp_seq ?_
  refine wp_region_lit ?_
  refine sq (opk_val hA0 rfl (r_assign rfl) fun a3 hA3 _ => ?_)
  refine sq_end ?_
  have hA4 := hA3.keep [(0, Sl.v l_1), (1, .string (Bs name_2))] ⟨rfl, rfl, trivial⟩
  refine then_normal ?_
  refine wp_seq ?_
  refine wp_region_lit ?_
  refine sq (opk_val hA4 rfl (r_move (hA4.get rfl)) fun a5 hA5 _ => ?_)
  refine sq (opk_call hA5 rfl (r_call (args := #[Sl.v l_1]) Try.func11 (by decide) rfl (map_arr (ml_cons (hA5.get rfl) ml_nil)) rfl) ht0 fun a7 v13 w8 hA7 _ hn10 hz11 hK12 => ?_)
  obtain ⟨r_6_Kind, r_6_Name, r_6_Text, r_6_Attrs, r_6_Kids, rfl, ht9⟩ := hK12
  refine sq (opk_new (fun B => .pointer (some ⟨B, 0, none⟩)) hA7 rfl (r_alloc (cs := [.int .i64 0, .string (Bs ([] : Str)), .string (Bs ([] : Str)), Sl.v Sl.nil, Sl.v Sl.nil]) ti_26 rfl) fun a16 w15 B_14 hE17 hN18 hB19 hA16 _ => ?_)
  have hN20 : New w8 B_14 w15 := hN18
  have hC21 : Chg [] w8 w15 := hE17
  refine sq (opk_store hA16 hB19 (r_store (vs := [.int .i64 r_6_Kind, .string (Bs r_6_Name), .string (Bs r_6_Text), Sl.v r_6_Attrs, Sl.v r_6_Kids]) (hA16.get rfl) (hA16.get rfl) rfl ti_26 hB19 rfl (ones_all [.int .i64 r_6_Kind, .string (Bs r_6_Name), .string (Bs r_6_Text), Sl.v r_6_Attrs, Sl.v r_6_Kids] rfl)) fun a23 w22 hS24 hB25 hA23 => ?_)
  have hB26 : Box w22 B_14 26 [.int .i64 r_6_Kind, .string (Bs r_6_Name), .string (Bs r_6_Text), Sl.v r_6_Attrs, Sl.v r_6_Kids] := hB25
  have hC27 := hC21.storeNew hN20 hS24
  have hN28 := hN20.up hS24.size
  refine sq_end ?_
  have hA29 := hA23.keep [(1, .string (Bs name_2)), (5, .pointer (some ⟨B_14, 0, none⟩))] ⟨rfl, rfl, trivial⟩
  refine then_normal ?_
  refine wp_seq ?_
  refine wp_seq ?_
  refine wp_region_lit ?_
  refine sq (opk_val hA29 rfl (r_assign rfl) fun a30 hA30 _ => ?_)
  refine sq_end ?_
  have hA31 := hA30.keep [(1, .string (Bs name_2)), (5, .pointer (some ⟨B_14, 0, none⟩)), (6, .int .i64 0)] ⟨rfl, rfl, rfl, trivial⟩
  refine then_normal ?_
  refine wp_block ?_
  have ht334 := ht9 w22 B_14 hN28  hC27
  obtain ⟨J_34, mu_35, h0338, ht337⟩ := ht334
  refine wp_loop_st (σ := Int × World) (fun s a w => Ag 91 a [(1, .string (Bs name_2)), (5, .pointer (some ⟨B_14, 0, none⟩)), (6, .int .i64 s.1)] ∧ Box w B_14 26 [.int .i64 r_6_Kind, .string (Bs r_6_Name), .string (Bs r_6_Text), Sl.v r_6_Attrs, Sl.v r_6_Kids] ∧ w = s.2 ∧ J_34 s.1 s.2) (fun s => mu_35 s.1 s.2) (0, w22) ⟨hA31.keep [(1, .string (Bs name_2)), (5, .pointer (some ⟨B_14, 0, none⟩)), (6, .int .i64 0)] ⟨rfl, rfl, rfl, trivial⟩, hB26, rfl, h0338⟩ ?_
  rintro ⟨i_32, w33⟩ a335 w_ ⟨hA335, hB336, hw_, hJ340⟩
  have hw_ : w33 = w_ := hw_.symm
  subst hw_
  have ht339 := ht337 i_32 _ hJ340
  refine wp_seq ?_
  refine wp_seq ?_
  refine wp_region_lit ?_
  refine sq (opk_val hA335 rfl (r_move (hA335.get rfl)) fun a341 hA341 _ => ?_)
  refine sq (opk_val hA341 rfl (r_fieldAddr (hA341.get rfl) Try.underlying26 rfl ti_24 (by decide)) fun a342 hA342 _ => ?_)
  refine sq (opk_val hA342 rfl (r_load1 Try.underlying24 rfl (hA342.get rfl) (hB336.cell 4 _ rfl)) fun a343 hA343 _ => ?_)
  refine sq (opk_val hA343 rfl (r_len (hA343.get rfl) Try.underlying24) fun a344 hA344 _ => ?_)
  refine sq (opk_val hA344 rfl (r_lss (hA344.get rfl) (hA344.get rfl)) fun a345 hA345 _ => ?_)
  refine sq_end ?_
  have hA346 := hA345.keep [(1, .string (Bs name_2)), (5, .pointer (some ⟨B_14, 0, none⟩)), (6, .int .i64 i_32), (22, .bool (decide (i_32 < (r_6_Kids.n : Int))))] ⟨rfl, rfl, rfl, rfl, trivial⟩
  refine then_normal ?_
  refine wp_cond_split (hA346.get rfl) (fun hc => ?_) (fun hc => ?_)
  · have ht347 := ht339.1 (of_decide_eq_true hc)
    clear hc
    refine wp_skip ?_
    refine then_normal ?_
    refine wp_seq ?_
    refine wp_block ?_
    refine wp_seq ?_
    refine wp_region_lit ?_
    refine sq (opk_val hA346 rfl (r_fieldAddr (hA346.get rfl) Try.underlying26 rfl ti_24 (by decide)) fun a349 hA349 _ => ?_)
    refine sq (opk_val hA349 rfl (r_load1 Try.underlying24 rfl (hA349.get rfl) (hB336.cell 4 _ rfl)) fun a350 hA350 _ => ?_)
    refine sq (opk_val hA350 rfl (r_move (hA350.get rfl)) fun a351 hA351 _ => ?_)
    obtain ⟨hb353, p_352, hp354, ht355⟩ := ht347
    refine sq (opk_val hA351 rfl (r_indexAddr (hA351.get rfl) (hA351.get rfl) Try.underlying24 ti_26 hb353 hp354) fun a356 hA356 _ => ?_)
    obtain ⟨x_358_Kind, x_358_Name, x_358_Text, x_358_Attrs, x_358_Kids, hx359, ht360⟩ := ht355
    refine sq (opk_val hA356 rfl (r_loadN Try.underlying26 rfl ti_26 (hA356.get rfl) hx359) fun a357 hA357 _ => ?_)
    refine sq (opk_new (fun B => .pointer (some ⟨B, 0, none⟩)) hA357 rfl (r_alloc (cs := [.int .i64 0, .string (Bs ([] : Str)), .string (Bs ([] : Str)), Sl.v Sl.nil, Sl.v Sl.nil]) ti_26 rfl) fun a363 w362 B_361 hE364 hN365 hB366 hA363 _ => ?_)
    have hne367 : B_14 ≠ B_361 := Nat.ne_of_lt (Nat.lt_of_lt_of_le hB336.lt hN365.ge)
    have hN368 : New w33 B_361 w362 := hN365
    have hB369 := hB336.ext hE364
    have hC370 : Chg [] w33 w362 := hE364
    refine sq (opk_store hA363 hB366 (r_store (vs := [.int .i64 x_358_Kind, .string (Bs x_358_Name), .string (Bs x_358_Text), Sl.v x_358_Attrs, Sl.v x_358_Kids]) (hA363.get rfl) (hA363.get rfl) rfl ti_26 hB366 rfl (ones_all [.int .i64 x_358_Kind, .string (Bs x_358_Name), .string (Bs x_358_Text), Sl.v x_358_Attrs, Sl.v x_358_Kids] rfl)) fun a372 w371 hS373 hB374 hA372 => ?_)
    have hB375 : Box w371 B_361 26 [.int .i64 x_358_Kind, .string (Bs x_358_Name), .string (Bs x_358_Text), Sl.v x_358_Attrs, Sl.v x_358_Kids] := hB374
    have hB376 := hB369.keep hS373 (by simpa using hne367)
    have hC377 := hC370.storeNew hN368 hS373
    have hN378 := hN368.up hS373.size
    refine sq_end ?_
    have hA379 := hA372.keep [(1, .string (Bs name_2)), (5, .pointer (some ⟨B_14, 0, none⟩)), (6, .int .i64 i_32), (7, .pointer (some ⟨B_361, 0, none⟩))] ⟨rfl, rfl, rfl, rfl, trivial⟩
    refine then_normal ?_
    refine wp_seq ?_
    refine wp_region_lit ?_
    refine sq (opk_val hA379 rfl (r_assign rfl) fun a380 hA380 _ => ?_)
    refine sq_end ?_
    have hA381 := hA380.keep [(1, .string (Bs name_2)), (5, .pointer (some ⟨B_14, 0, none⟩)), (6, .int .i64 i_32), (7, .pointer (some ⟨B_361, 0, none⟩)), (8, .bool false)] ⟨rfl, rfl, rfl, rfl, rfl, trivial⟩
    refine then_normal ?_
    refine wp_seq ?_
    refine wp_seq ?_
    refine wp_region_lit ?_
    refine sq (opk_val hA381 rfl (r_assign rfl) fun a382 hA382 _ => ?_)
    refine sq_end ?_
    have hA383 := hA382.keep [(1, .string (Bs name_2)), (5, .pointer (some ⟨B_14, 0, none⟩)), (6, .int .i64 i_32), (7, .pointer (some ⟨B_361, 0, none⟩)), (8, .bool false), (9, .int .i64 0)] ⟨rfl, rfl, rfl, rfl, rfl, rfl, trivial⟩
    refine then_normal ?_
    refine wp_block ?_
    have ht493 := ht360 w371 B_361 hN378  hC377
    obtain ⟨J_387, mu_388, h0498, ht497⟩ := ht493
    refine wp_loop_st (σ := Bool × Int × World) (fun s a w => Ag 91 a [(1, .string (Bs name_2)), (5, .pointer (some ⟨B_14, 0, none⟩)), (6, .int .i64 i_32), (7, .pointer (some ⟨B_361, 0, none⟩)), (8, .bool s.1), (9, .int .i64 s.2.1)] ∧ Box w B_14 26 [.int .i64 r_6_Kind, .string (Bs r_6_Name), .string (Bs r_6_Text), Sl.v r_6_Attrs, Sl.v r_6_Kids] ∧ Box w B_361 26 [.int .i64 x_358_Kind, .string (Bs x_358_Name), .string (Bs x_358_Text), Sl.v x_358_Attrs, Sl.v x_358_Kids] ∧ w = s.2.2 ∧ J_387 s.1 s.2.1 s.2.2) (fun s => mu_388 s.1 s.2.1 s.2.2) (false, 0, w371) ⟨hA383.keep [(1, .string (Bs name_2)), (5, .pointer (some ⟨B_14, 0, none⟩)), (6, .int .i64 i_32), (7, .pointer (some ⟨B_361, 0, none⟩)), (8, .bool false), (9, .int .i64 0)] ⟨rfl, rfl, rfl, rfl, rfl, rfl, trivial⟩, hB376, hB375, rfl, h0498⟩ ?_
    rintro ⟨in_384, j_385, w386⟩ a494 w_ ⟨hA494, hB495, hB496, hw_, hJ500⟩
    have hw_ : w386 = w_ := hw_.symm
    subst hw_
    have ht499 := ht497 in_384 j_385 _ hJ500
    refine wp_seq ?_
    refine wp_seq ?_
    refine wp_region_lit ?_
    refine sq (opk_val hA494 rfl (r_move (hA494.get rfl)) fun a501 hA501 _ => ?_)
    refine sq (opk_val hA501 rfl (r_fieldAddr (hA501.get rfl) Try.underlying26 rfl ti_23 (by decide)) fun a502 hA502 _ => ?_)
    refine sq (opk_val hA502 rfl (r_load1 Try.underlying23 rfl (hA502.get rfl) (hB496.cell 3 _ rfl)) fun a503 hA503 _ => ?_)
    refine sq (opk_val hA503 rfl (r_len (hA503.get rfl) Try.underlying23) fun a504 hA504 _ => ?_)
    refine sq (opk_val hA504 rfl (r_lss (hA504.get rfl) (hA504.get rfl)) fun a505 hA505 _ => ?_)
    refine sq_end ?_
    have hA506 := hA505.keep [(1, .string (Bs name_2)), (5, .pointer (some ⟨B_14, 0, none⟩)), (6, .int .i64 i_32), (7, .pointer (some ⟨B_361, 0, none⟩)), (8, .bool in_384), (9, .int .i64 j_385), (34, .bool (decide (j_385 < (x_358_Attrs.n : Int))))] ⟨rfl, rfl, rfl, rfl, rfl, rfl, rfl, trivial⟩
    refine then_normal ?_
    refine wp_cond_split (hA506.get rfl) (fun hc => ?_) (fun hc => ?_)
    · have ht507 := ht499.1 (of_decide_eq_true hc)
      clear hc
      refine wp_skip ?_
      refine then_normal ?_
      refine wp_seq ?_
      refine wp_block ?_
      refine wp_seq ?_
      refine draw' (by kernel_rfl) fun w509 hE510 => ?_
      have hB511 := hB495.ext hE510
      have hB512 := hB496.ext hE510
      have hC513 : Chg [] w386 w509 := hE510
      have ht514 := ht507 w509    hC513
      obtain ⟨p_518, hp519, ht520⟩ := ht514
      obtain ⟨x_523, hx524, ht525⟩ := ht520
      obtain ⟨r_0_528, r_1_529, hc530, ht531⟩ := ht525
      refine par (D := [[], [], [1], [], [1, 2, 3], [1, 2, 3, 4], [1, 2, 3, 4, 5], [0, 1, 2, 3, 4, 5, 6], [0, 1, 2, 3, 4, 5, 6, 7], [0, 1, 2, 3, 4, 5, 6, 7, 8], [0, 1, 2, 3, 4, 5, 6, 7, 8], [0, 1, 2, 3, 4, 5, 6, 7, 8, 9], [0, 1, 2, 3, 4, 5, 6, 7, 8, 9, 10, 11]]) (S := [0, 1, 2, 3, 4, 5, 6, 7, 8, 9, 10, 11, 12]) (F := []) (V := VL [(0, fun v _ => v = .agg #[.int .i64 x_358_Kind, .string (Bs x_358_Name), .string (Bs x_358_Text), Sl.v x_358_Attrs, Sl.v x_358_Kids]), (1, fun v _ => v = .pointer (some ⟨B_361, 3, none⟩)), (2, fun v _ => v = Sl.v x_358_Attrs), (3, fun v _ => v = .int .i64 j_385), (4, fun v _ => v = .pointer (some (p_518.add (j_385.toNat * 2)))), (5, fun v _ => v = .pointer (some ((p_518.add (j_385.toNat * 2)).add 0))), (6, fun v _ => v = .string (Bs x_523)), (7, fun v _ => v = .tuple #[.string (Bs r_0_528), .bool r_1_529]), (8, fun v _ => v = .tuple #[.string (Bs r_0_528), .bool r_1_529]), (9, fun v _ => v = .string (Bs r_0_528)), (10, fun v _ => v = .bool r_1_529), (11, fun v _ => v = .string (Bs r_0_528)), (12, fun v _ => v = .bool r_1_529)]) hA506 (by kernel_rfl) ⟨fun _ _ _ _ h => by first | exact h | (change _ = _ at h; change _ = _; exact h), fun _ _ _ _ h => by first | exact h | (change _ = _ at h; change _ = _; exact h), fun _ _ _ _ h => by first | exact h | (change _ = _ at h; change _ = _; exact h), fun _ _ _ _ h => by first | exact h | (change _ = _ at h; change _ = _; exact h), fun _ _ _ _ h => by first | exact h | (change _ = _ at h; change _ = _; exact h), fun _ _ _ _ h => by first | exact h | (change _ = _ at h; change _ = _; exact h), fun _ _ _ _ h => by first | exact h | (change _ = _ at h; change _ = _; exact h), fun _ _ _ _ h => by first | exact h | (change _ = _ at h; change _ = _; exact h), fun _ _ _ _ h => by first | exact h | (change _ = _ at h; change _ = _; exact h), fun _ _ _ _ h => by first | exact h | (change _ = _ at h; change _ = _; exact h), fun _ _ _ _ h => by first | exact h | (change _ = _ at h; change _ = _; exact h), fun _ _ _ _ h => by first | exact h | (change _ = _ at h; change _ = _; exact h), fun _ _ _ _ h => by first | exact h | (change _ = _ at h; change _ = _; exact h), trivial⟩ ⟨?_, ?_, ?_, ?_, ?_, ?_, ?_, ?_, ?_, ?_, ?_, ?_, ?_, trivial⟩ ?_
      · intro a w hT
        have hAp := hT.ag hA506 [(7, .pointer (some ⟨B_361, 0, none⟩))] ⟨rfl, trivial⟩ (by kernel_rfl)
        exact opk_val hAp rfl (r_loadN (cs := [.int .i64 x_358_Kind, .string (Bs x_358_Name), .string (Bs x_358_Text), Sl.v x_358_Attrs, Sl.v x_358_Kids]) Try.underlying26 rfl ti_26 (hAp.get rfl) ((hB512.ext hT.chg).part 0 _ rfl)) fun _ _ e => ⟨_, e, Chg.refl _ _, fun _ => Eq.refl _⟩
      · intro a w hT
        have hAp := hT.ag hA506 [(7, .pointer (some ⟨B_361, 0, none⟩))] ⟨rfl, trivial⟩ (by kernel_rfl)
        exact opk_val hAp rfl (r_fieldAddr (hAp.get rfl) Try.underlying26 rfl ti_23 (by decide)) fun _ _ e => ⟨_, e, Chg.refl _ _, fun _ => Eq.refl _⟩
      · intro a w hT
        have hAp := hT.ag hA506 [] trivial (by kernel_rfl)
        have e515 : a.tmps.getD 39 undef = .pointer (some ⟨B_361, 3, none⟩) := hT.vals 1 rfl 39 rfl
        have hAp := hAp.add e515
        exact opk_val hAp rfl (r_load1 Try.underlying23 rfl (hAp.get rfl) ((hB512.ext hT.chg).cell 3 _ rfl)) fun _ _ e => ⟨_, e, Chg.refl _ _, fun _ => Eq.refl _⟩
      · intro a w hT
        have hAp := hT.ag hA506 [(9, .int .i64 j_385)] ⟨rfl, trivial⟩ (by kernel_rfl)
        exact opk_val hAp rfl (r_move (hAp.get rfl)) fun _ _ e => ⟨_, e, Chg.refl _ _, fun _ => Eq.refl _⟩
      · intro a w hT
        have hAp := hT.ag hA506 [] trivial (by kernel_rfl)
        have e516 : a.tmps.getD 40 undef = Sl.v x_358_Attrs := hT.vals 2 rfl 40 rfl
        have hAp := hAp.add e516
        have e517 : a.tmps.getD 41 undef = .int .i64 j_385 := hT.vals 3 rfl 41 rfl
        have hAp := hAp.add e517
        exact opk_val hAp rfl (r_indexAddr (hAp.get rfl) (hAp.get rfl) Try.underlying23 ti_33 hp519.1 hp519.2) fun _ _ e => ⟨_, e, Chg.refl _ _, fun _ => Eq.refl _⟩
      · intro a w hT
        have hAp := hT.ag hA506 [] trivial (by kernel_rfl)
        have e521 : a.tmps.getD 42 undef = .pointer (some (p_518.add (j_385.toNat * 2))) := hT.vals 4 rfl 42 rfl
        have hAp := hAp.add e521
        exact opk_val hAp rfl (r_fieldAddr (hAp.get rfl) Try.underlying33 rfl ti_9 (by decide)) fun _ _ e => ⟨_, e, Chg.refl _ _, fun _ => Eq.refl _⟩
      · intro a w hT
        have hAp := hT.ag hA506 [] trivial (by kernel_rfl)
        have e522 : a.tmps.getD 43 undef = .pointer (some ((p_518.add (j_385.toNat * 2)).add 0)) := hT.vals 5 rfl 43 rfl
        have hAp := hAp.add e522
        exact opk_val hAp rfl (r_load1 Try.underlying9 rfl (hAp.get rfl) (Ext.cell hT.chg hx524)) fun _ _ e => ⟨_, e, Chg.refl _ _, fun _ => Eq.refl _⟩
      · intro a w hT
        have hAp := hT.ag hA506 [] trivial (by kernel_rfl)
        have e526 : a.tmps.getD 38 undef = .agg #[.int .i64 x_358_Kind, .string (Bs x_358_Name), .string (Bs x_358_Text), Sl.v x_358_Attrs, Sl.v x_358_Kids] := hT.vals 0 rfl 38 rfl
        have hAp := hAp.add e526
        have e527 : a.tmps.getD 44 undef = .string (Bs x_523) := hT.vals 6 rfl 44 rfl
        have hAp := hAp.add e527
        exact opk_callX hAp rfl (r_call (args := #[.agg #[.int .i64 x_358_Kind, .string (Bs x_358_Name), .string (Bs x_358_Text), Sl.v x_358_Attrs, Sl.v x_358_Kids], .string (Bs x_523)]) Try.func23 (by decide) rfl (map_arr (ml_cons (hAp.get rfl) (ml_cons (hAp.get rfl) ml_nil))) rfl) (hc530 w hT.chg) fun _ _ _ _ e hR => ⟨_, e, hR.1, fun _ => hR.2⟩
      · intro a w hT
        have hAp := hT.ag hA506 [] trivial (by kernel_rfl)
        have e532 : a.tmps.getD 45 undef = .tuple #[.string (Bs r_0_528), .bool r_1_529] := hT.vals 7 rfl 45 rfl
        have hAp := hAp.add e532
        exact opk_val hAp rfl (r_move (hAp.get rfl)) fun _ _ e => ⟨_, e, Chg.refl _ _, fun _ => Eq.refl _⟩
      · intro a w hT
        have hAp := hT.ag hA506 [] trivial (by kernel_rfl)
        have e533 : a.tmps.getD 37 undef = .tuple #[.string (Bs r_0_528), .bool r_1_529] := hT.vals 8 rfl 37 rfl
        have hAp := hAp.add e533
        exact opk_val hAp rfl (r_extract (hAp.get rfl) rfl) fun _ _ e => ⟨_, e, Chg.refl _ _, fun _ => Eq.refl _⟩
      · intro a w hT
        have hAp := hT.ag hA506 [] trivial (by kernel_rfl)
        have e534 : a.tmps.getD 37 undef = .tuple #[.string (Bs r_0_528), .bool r_1_529] := hT.vals 8 rfl 37 rfl
        have hAp := hAp.add e534
        exact opk_val hAp rfl (r_extract (hAp.get rfl) rfl) fun _ _ e => ⟨_, e, Chg.refl _ _, fun _ => Eq.refl _⟩
      · intro a w hT
        have hAp := hT.ag hA506 [] trivial (by kernel_rfl)
        have e535 : a.tmps.getD 46 undef = .string (Bs r_0_528) := hT.vals 9 rfl 46 rfl
        have hAp := hAp.add e535
        exact opk_val hAp rfl (r_assign (hAp.get rfl)) fun _ _ e => ⟨_, e, Chg.refl _ _, fun _ => Eq.refl _⟩
      · intro a w hT
        have hAp := hT.ag hA506 [] trivial (by kernel_rfl)
        have e536 : a.tmps.getD 47 undef = .bool r_1_529 := hT.vals 10 rfl 47 rfl
        have hAp := hAp.add e536
        exact opk_val hAp rfl (r_assign (hAp.get rfl)) fun _ _ e => ⟨_, e, Chg.refl _ _, fun _ => Eq.refl _⟩
      · intro a537 w538 hE539 hag540 hv541
        have hA537 := hag540 [(1, .string (Bs name_2)), (5, .pointer (some ⟨B_14, 0, none⟩)), (6, .int .i64 i_32), (7, .pointer (some ⟨B_361, 0, none⟩)), (8, .bool in_384), (9, .int .i64 j_385)] ⟨rfl, rfl, rfl, rfl, rfl, rfl, trivial⟩ (by kernel_rfl)
        have e543 : a537.tmps.getD 10 undef = .string (Bs r_0_528) := hv541 11 rfl 10 rfl
        have hA544 := hA537.add e543
        have e545 : a537.tmps.getD 11 undef = .bool r_1_529 := hv541 12 rfl 11 rfl
        have hA546 := hA544.add e545
        have hB547 := hB511.ext hE539
        have hB548 := hB512.ext hE539
        have hC549 : Chg [] w509 w538 := hE539
        refine PR_end (by kernel_rfl) ?_
        have hA550 := hA546.keep [(1, .string (Bs name_2)), (5, .pointer (some ⟨B_14, 0, none⟩)), (6, .int .i64 i_32), (7, .pointer (some ⟨B_361, 0, none⟩)), (8, .bool in_384), (9, .int .i64 j_385), (10, .string (Bs r_0_528)), (11, .bool r_1_529)] ⟨rfl, rfl, rfl, rfl, rfl, rfl, rfl, rfl, trivial⟩
        refine then_normal ?_
        refine wp_seq ?_
        refine wp_seq ?_
        refine wp_region_lit ?_
        refine sq (opk_val hA550 rfl (r_move (hA550.get rfl)) fun a551 hA551 _ => ?_)
        refine sq (opk_val hA551 rfl (r_not (hA551.get rfl)) fun a552 hA552 _ => ?_)
        refine sq (opk_val hA552 rfl (r_move (hA552.get rfl)) fun a553 hA553 _ => ?_)
        refine sq (opk_gval hA553 rfl rfl (g := true) (e := (!r_1_529)) rfl (fun hg => r_move (hA553.get rfl)) fun a554 hA554 _ => ?_)
        refine sq (opk_gval hA554 rfl rfl (g := true) (e := (!r_1_529)) rfl (fun hg => r_fieldAddr (hA554.get rfl) Try.underlying26 rfl ti_23 (by decide)) fun a555 hA555 _ => ?_)
        refine sq (opk_gval hA555 rfl rfl (g := true) (e := (!r_1_529)) rfl (fun hg => r_load1 Try.underlying23 rfl (cv_get (hA555.get rfl) hg) (hB548.cell 3 _ rfl)) fun a556 hA556 _ => ?_)
        refine sq (opk_gval hA556 rfl rfl (g := true) (e := (!r_1_529)) rfl (fun hg => r_move (hA556.get rfl)) fun a557 hA557 _ => ?_)
        obtain ⟨p_558, hp560, ht561⟩ := ht531
        refine sq (opk_gval hA557 rfl rfl (g := true) (e := (!r_1_529)) rfl (fun hg => r_indexAddr (cv_get (hA557.get rfl) hg) (cv_get (hA557.get rfl) hg) Try.underlying23 ti_33 (hp560 (b_not_f (g_f hg))).1 (hp560 (b_not_f (g_f hg))).2) fun a562 hA562 _ => ?_)
        refine sq (opk_gval hA562 rfl rfl (g := true) (e := (!r_1_529)) rfl (fun hg => r_fieldAddr (cv_get (hA562.get rfl) hg) Try.underlying33 rfl ti_9 (by decide)) fun a563 hA563 _ => ?_)
        have ht565 := ht561 w538    hC549
        obtain ⟨x_566, hx567, ht568⟩ := ht565
        refine sq (opk_gval hA563 rfl rfl (g := true) (e := (!r_1_529)) rfl (fun hg => r_load1 Try.underlying9 rfl (cv_get (hA563.get rfl) hg) (hx567 (b_not_f (g_f hg)))) fun a564 hA564 _ => ?_)
        refine sq (opk_gval hA564 rfl rfl (g := true) (e := (!r_1_529)) rfl (fun hg => r_sneq (cv_get (hA564.get rfl) hg) (cv_get (hA564.get rfl) hg)) fun a569 hA569 _ => ?_)
        refine sq (opk_val hA569 rfl (r_pick_or (g := (true && ((!r_1_529) == false))) (hA569.get rfl) (hA569.get rfl) (fun he => g_mkf rfl he)) fun a570 hA570 _ => ?_)
        refine sq_end ?_
        have hA571 := hA570.keep [(1, .string (Bs name_2)), (5, .pointer (some ⟨B_14, 0, none⟩)), (6, .int .i64 i_32), (7, .pointer (some ⟨B_361, 0, none⟩)), (8, .bool in_384), (9, .int .i64 j_385), (59, .bool ((!r_1_529) || (decide (r_0_528 ≠ x_566))))] ⟨rfl, rfl, rfl, rfl, rfl, rfl, rfl, trivial⟩
        refine then_normal ?_
        refine wp_cond_split (hA571.get rfl) (fun hc => ?_) (fun hc => ?_)
        · have ht572 := ht568.1 ((b_or_t hc).imp (fun h => (b_not_t h)) (fun h => (of_decide_eq_true h)))
          clear hc
          refine wp_seq ?_
          refine wp_region_lit ?_
          refine sq (opk_val hA571 rfl (r_assign rfl) fun a574 hA574 _ => ?_)
          refine sq_end ?_
          have hA575 := hA574.keep [(4, .bool false)] ⟨rfl, trivial⟩
          refine then_normal ?_
          refine wp_ret ?_
          refine then_ret ?_
          refine block_ret ?_
          refine then_ret ?_
          refine then_ret ?_
          refine block_ret ?_
          refine then_ret ?_
          refine block_ret ?_
          refine then_ret ?_
          refine then_ret ?_
          refine block_ret ?_
          refine then_ret ?_
          exact res_all (vs := [.bool false]) rfl hA575 ⟨res_of_tmp hA575 rfl, trivial⟩ ht572
        · have ht573 := ht568.2 ⟨(b_not_f (b_or_f hc).1), (of_decide_eq_false (b_or_f hc).2)⟩
          clear hc
          refine wp_skip ?_
          refine then_normal ?_
          refine wp_region_lit ?_
          refine sq (opk_val hA571 rfl (r_move (hA571.get rfl)) fun a576 hA576 _ => ?_)
          refine sq (opk_val hA576 rfl (r_move (hA576.get rfl)) fun a577 hA577 _ => ?_)
          refine sq (opk_gval hA577 rfl rfl (g := true) (e := in_384) rfl (fun hg => r_fieldAddr (hA577.get rfl) Try.underlying26 rfl ti_23 (by decide)) fun a578 hA578 _ => ?_)
          refine sq (opk_gval hA578 rfl rfl (g := true) (e := in_384) rfl (fun hg => r_load1 Try.underlying23 rfl (cv_get (hA578.get rfl) hg) (hB548.cell 3 _ rfl)) fun a579 hA579 _ => ?_)
          refine sq (opk_gval hA579 rfl rfl (g := true) (e := in_384) rfl (fun hg => r_move (hA579.get rfl)) fun a580 hA580 _ => ?_)
          obtain ⟨p_581, hp583, ht584⟩ := ht573
          refine sq (opk_gval hA580 rfl rfl (g := true) (e := in_384) rfl (fun hg => r_indexAddr (cv_get (hA580.get rfl) hg) (cv_get (hA580.get rfl) hg) Try.underlying23 ti_33 (hp583 (g_f hg)).1 (hp583 (g_f hg)).2) fun a585 hA585 _ => ?_)
          refine sq (opk_gval hA585 rfl rfl (g := true) (e := in_384) rfl (fun hg => r_fieldAddr (cv_get (hA585.get rfl) hg) Try.underlying33 rfl ti_9 (by decide)) fun a586 hA586 _ => ?_)
          obtain ⟨x_588, hx589, ht590⟩ := ht584
          refine sq (opk_gval hA586 rfl rfl (g := true) (e := in_384) rfl (fun hg => r_load1 Try.underlying9 rfl (cv_get (hA586.get rfl) hg) (hx589 (g_f hg))) fun a587 hA587 _ => ?_)
          refine sq (opk_gval hA587 rfl rfl (g := true) (e := in_384) rfl (fun hg => r_move (hA587.get rfl)) fun a591 hA591 _ => ?_)
          refine sq (opk_gval hA591 rfl rfl (g := true) (e := in_384) rfl (fun hg => r_seql (cv_get (hA591.get rfl) hg) (cv_get (hA591.get rfl) hg)) fun a592 hA592 _ => ?_)
          refine sq (opk_val hA592 rfl (r_pick_or (g := (true && (in_384 == false))) (hA592.get rfl) (hA592.get rfl) (fun he => g_mkf rfl he)) fun a593 hA593 _ => ?_)
          refine sq (opk_val hA593 rfl (r_assign (hA593.get rfl)) fun a594 hA594 _ => ?_)
          refine sq_end ?_
          have hA595 := hA594.keep [(1, .string (Bs name_2)), (5, .pointer (some ⟨B_14, 0, none⟩)), (6, .int .i64 i_32), (7, .pointer (some ⟨B_361, 0, none⟩)), (8, .bool (in_384 || (decide (x_588 = name_2)))), (9, .int .i64 j_385)] ⟨rfl, rfl, rfl, rfl, rfl, rfl, trivial⟩
          refine block_normal ?_
          refine then_normal ?_
          refine wp_region_lit ?_
          refine sq (opk_val hA595 rfl (r_move (hA595.get rfl)) fun a596 hA596 _ => ?_)
          obtain ⟨hS598, ht599⟩ := ht590
          refine sq (opk_val hA596 rfl (r_addI (hA596.get rfl) rfl hS598) fun a597 hA597 _ => ?_)
          refine sq (opk_val hA597 rfl (r_assign (hA597.get rfl)) fun a600 hA600 _ => ?_)
          refine sq_end ?_
          have hA601 := hA600.keep [(1, .string (Bs name_2)), (5, .pointer (some ⟨B_14, 0, none⟩)), (6, .int .i64 i_32), (7, .pointer (some ⟨B_361, 0, none⟩)), (8, .bool (in_384 || (decide (x_588 = name_2)))), (9, .int .i64 (j_385 + 1))] ⟨rfl, rfl, rfl, rfl, rfl, rfl, trivial⟩
          have hA602 := hA601.keep [(1, .string (Bs name_2)), (5, .pointer (some ⟨B_14, 0, none⟩)), (6, .int .i64 i_32), (7, .pointer (some ⟨B_361, 0, none⟩)), (8, .bool (in_384 || (decide (x_588 = name_2)))), (9, .int .i64 (j_385 + 1))] ⟨rfl, rfl, rfl, rfl, rfl, rfl, trivial⟩
          exact then_normal ⟨((in_384 || (decide (x_588 = name_2))), j_385 + 1, w538), ⟨hA602, hB547, hB548, rfl, ht599.1⟩, ht599.2⟩
    · have ht508 := ht499.2 (of_decide_eq_false hc)
      clear hc
      refine wp_exit ?_
      refine then_exit ?_
      refine then_exit ?_
      refine block_hit ?_
      have hA603 := hA506.keep [(1, .string (Bs name_2)), (5, .pointer (some ⟨B_14, 0, none⟩)), (6, .int .i64 i_32), (7, .pointer (some ⟨B_361, 0, none⟩)), (8, .bool in_384)] ⟨rfl, rfl, rfl, rfl, rfl, trivial⟩
      refine then_normal ?_
      refine wp_seq ?_
      refine wp_region_lit ?_
      refine sq (opk_val hA603 rfl (r_loadN (cs := [.int .i64 x_358_Kind, .string (Bs x_358_Name), .string (Bs x_358_Text), Sl.v x_358_Attrs, Sl.v x_358_Kids]) Try.underlying26 rfl ti_26 (hA603.get rfl) (hB496.part 0 _ rfl)) fun a604 hA604 _ => ?_)
      refine sq (opk_val hA604 rfl (r_move (hA604.get rfl)) fun a605 hA605 _ => ?_)
      refine sq (opk_call hA605 rfl (r_call (args := #[.agg #[.int .i64 x_358_Kind, .string (Bs x_358_Name), .string (Bs x_358_Text), Sl.v x_358_Attrs, Sl.v x_358_Kids], .string (Bs name_2)]) Try.func23 (by decide) rfl (map_arr (ml_cons (hA605.get rfl) (ml_cons (hA605.get rfl) ml_nil))) rfl) ht508 fun a608 v614 w609 hA608 _ hn611 hz612 hK613 => ?_)
      obtain ⟨r_0_606, r_1_607, rfl, ht610⟩ := hK613
      have hB615 := hB495.kept hn611 (.head _)
      have hB616 := hB496.kept hn611 (.tail _ (.head _))
      refine sq (opk_val hA608 rfl (r_move (hA608.get rfl)) fun a617 hA617 _ => ?_)
      refine sq (opk_val hA617 rfl (r_extract (hA617.get rfl) rfl) fun a618 hA618 _ => ?_)
      refine sq (opk_val hA618 rfl (r_extract (hA618.get rfl) rfl) fun a619 hA619 _ => ?_)
      refine sq (opk_val hA619 rfl (r_assign (hA619.get rfl)) fun a620 hA620 _ => ?_)
      refine sq (opk_val hA620 rfl (r_assign (hA620.get rfl)) fun a621 hA621 _ => ?_)
      refine sq_end ?_
      have hA622 := hA621.keep [(1, .string (Bs name_2)), (5, .pointer (some ⟨B_14, 0, none⟩)), (6, .int .i64 i_32), (8, .bool in_384), (13, .bool r_1_607)] ⟨rfl, rfl, rfl, rfl, rfl, trivial⟩
      refine then_normal ?_
      refine wp_seq ?_
      refine wp_region_lit ?_
      refine sq (opk_val hA622 rfl (r_move (hA622.get rfl)) fun a623 hA623 _ => ?_)
      refine sq (opk_val hA623 rfl (r_move (hA623.get rfl)) fun a624 hA624 _ => ?_)
      refine sq (opk_val hA624 rfl (r_bneq (hA624.get rfl) (hA624.get rfl) Try.underlying4) fun a625 hA625 _ => ?_)
      refine sq_end ?_
      have hA626 := hA625.keep [(1, .string (Bs name_2)), (5, .pointer (some ⟨B_14, 0, none⟩)), (6, .int .i64 i_32), (79, .bool (!(r_1_607 == in_384)))] ⟨rfl, rfl, rfl, rfl, trivial⟩
      refine then_normal ?_
      refine wp_cond_split (hA626.get rfl) (fun hc => ?_) (fun hc => ?_)
      · have ht627 := ht610.1 (b_not_t hc)
        clear hc
        refine wp_seq ?_
        refine wp_region_lit ?_
        refine sq (opk_val hA626 rfl (r_assign rfl) fun a629 hA629 _ => ?_)
        refine sq_end ?_
        have hA630 := hA629.keep [(4, .bool false)] ⟨rfl, trivial⟩
        refine then_normal ?_
        refine wp_ret ?_
        refine block_ret ?_
        refine then_ret ?_
        refine then_ret ?_
        refine block_ret ?_
        refine then_ret ?_
        exact res_all (vs := [.bool false]) rfl hA630 ⟨res_of_tmp hA630 rfl, trivial⟩ ht627
      · have ht628 := ht610.2 (b_not_f hc)
        clear hc
        refine wp_skip ?_
        refine block_normal ?_
        refine then_normal ?_
        refine wp_region_lit ?_
        refine sq (opk_val hA626 rfl (r_move (hA626.get rfl)) fun a631 hA631 _ => ?_)
        obtain ⟨hS633, ht634⟩ := ht628
        refine sq (opk_val hA631 rfl (r_addI (hA631.get rfl) rfl hS633) fun a632 hA632 _ => ?_)
        refine sq (opk_val hA632 rfl (r_assign (hA632.get rfl)) fun a635 hA635 _ => ?_)
        refine sq_end ?_
        have hA636 := hA635.keep [(1, .string (Bs name_2)), (5, .pointer (some ⟨B_14, 0, none⟩)), (6, .int .i64 (i_32 + 1))] ⟨rfl, rfl, rfl, trivial⟩
        have hA637 := hA636.keep [(1, .string (Bs name_2)), (5, .pointer (some ⟨B_14, 0, none⟩)), (6, .int .i64 (i_32 + 1))] ⟨rfl, rfl, rfl, trivial⟩
        exact then_normal ⟨(i_32 + 1, w609), ⟨hA637, hB615, rfl, ht634.1⟩, ht634.2⟩
  · have ht348 := ht339.2 (of_decide_eq_false hc)
    clear hc
    refine wp_exit ?_
    refine then_exit ?_
    refine then_exit ?_
    refine block_hit ?_
    have hA638 := hA346.keep [(1, .string (Bs name_2))] ⟨rfl, trivial⟩
    refine then_normal ?_
    refine wp_seq ?_
    refine wp_region_lit ?_
    refine sq (opk_val hA638 rfl (r_build (vs := #[]) (cells := #[.int .i64 0, .string (Bs ([] : Str)), .string (Bs ([] : Str)), Sl.v Sl.nil, Sl.v Sl.nil]) (map_arr2 ml2_nil) ti_26 Try.underlying26 pl_26 (by kernel_rfl)) fun a639 hA639 _ => ?_)
    refine sq (opk_val hA639 rfl (r_move (hA639.get rfl)) fun a640 hA640 _ => ?_)
    refine sq (opk_call hA640 rfl (r_call (args := #[.agg #[.int .i64 0, .string (Bs ([] : Str)), .string (Bs ([] : Str)), Sl.v Sl.nil, Sl.v Sl.nil], .string (Bs name_2)]) Try.func23 (by decide) rfl (map_arr (ml_cons (hA640.get rfl) (ml_cons (hA640.get rfl) ml_nil))) rfl) ht348 fun a643 v649 w644 hA643 _ hn646 hz647 hK648 => ?_)
    obtain ⟨r_0_641, r_1_642, rfl, ht645⟩ := hK648
    refine sq (opk_val hA643 rfl (r_move (hA643.get rfl)) fun a650 hA650 _ => ?_)
    refine sq (opk_val hA650 rfl (r_extract (hA650.get rfl) rfl) fun a651 hA651 _ => ?_)
    refine sq (opk_val hA651 rfl (r_extract (hA651.get rfl) rfl) fun a652 hA652 _ => ?_)
    refine sq (opk_val hA652 rfl (r_assign (hA652.get rfl)) fun a653 hA653 _ => ?_)
    refine sq (opk_val hA653 rfl (r_assign (hA653.get rfl)) fun a654 hA654 _ => ?_)
    refine sq_end ?_
    have hA655 := hA654.keep [(15, .bool r_1_642)] ⟨rfl, trivial⟩
    refine then_normal ?_
    refine wp_seq ?_
    refine wp_region_lit ?_
    refine sq (opk_val hA655 rfl (r_move (hA655.get rfl)) fun a656 hA656 _ => ?_)
    refine sq (opk_val hA656 rfl (r_not (hA656.get rfl)) fun a657 hA657 _ => ?_)
    refine sq (opk_val hA657 rfl (r_move (hA657.get rfl)) fun a658 hA658 _ => ?_)
    obtain ⟨r_659, hc663, ht662⟩ := ht645
    refine sq (opk_gcall hA658 rfl rfl (g := true) (e := (!r_1_642)) rfl (fun hg => r_call (args := #[]) Try.func15 (by decide) rfl (map_arr ml_nil) rfl) (fun hg => hc663 (b_not_t (g_t hg))) fun a660 w661 hA660 _ hE664 => ?_)
    have hC665 : Chg [] w644 w661 := hE664
    have ht666 := ht662 w661 hE664
    refine sq (opk_val hA660 rfl (r_pick_and (g := (true && ((!r_1_642) == true))) (hA660.get rfl) (hA660.get rfl) (fun he => g_mkt rfl he)) fun a667 hA667 _ => ?_)
    refine sq (opk_val hA667 rfl (r_assign (hA667.get rfl)) fun a668 hA668 _ => ?_)
    refine sq_end ?_
    have hA669 := hA668.keep [(4, .bool ((!r_1_642) && r_659))] ⟨rfl, trivial⟩
    refine then_normal ?_
    refine wp_ret ?_
    exact res_all (vs := [.bool ((!r_1_642) && r_659)]) rfl hA669 ⟨res_of_tmp hA669 rfl, trivial⟩ ht666

end Go.Proofs.Ytpacegmmbabhjaa
