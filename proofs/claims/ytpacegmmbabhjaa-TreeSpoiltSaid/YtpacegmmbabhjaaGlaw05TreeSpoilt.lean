/-
  PRINTED BY PROGRAM: for each function its condition (vc), and that this suffices (ok).
-/
import Derived.Test.YtpacegmmbabhjaaGT
namespace Go.Proofs.Ytpacegmmbabhjaa
open Go.RowKit
set_option linter.unusedVariables false

/-- The condition of topiary/topiarylaw05.TreeSpoilt. -/
def law05_TreeSpoilt.vc (l_1 : Sl) (at_2 : Int) (how_3 : Int) (R : Value → World → Prop) (w : World) : Prop :=
CallK Try.prog 11 #[Sl.v l_1] w [] (fun v w9 => ∃ (r_7_Kind : Int) (r_7_Name : Str) (r_7_Text : Str) (r_7_Attrs : Sl) (r_7_Kids : Sl), v = .agg #[.int .i64 r_7_Kind, .string (Bs r_7_Name), .string (Bs r_7_Text), Sl.v r_7_Attrs, Sl.v r_7_Kids] ∧
∀ (w23 : World) (B_15 : Nat), New w9 B_15 w23 → Chg [] w9 w23 →
CallK Try.prog 13 #[.agg #[.int .i64 r_7_Kind, .string (Bs r_7_Name), .string (Bs r_7_Text), Sl.v r_7_Attrs, Sl.v r_7_Kids]] w23 [B_15] (fun v w35 => ∃ (r_33_Kind : Int) (r_33_Name : Str) (r_33_Text : Str) (r_33_Attrs : Sl) (r_33_Kids : Sl), v = .agg #[.int .i64 r_33_Kind, .string (Bs r_33_Name), .string (Bs r_33_Text), Sl.v r_33_Attrs, Sl.v r_33_Kids] ∧
CallK Try.prog 12 #[.agg #[.int .i64 r_33_Kind, .string (Bs r_33_Name), .string (Bs r_33_Text), Sl.v r_33_Attrs, Sl.v r_33_Kids]] w35 [B_15] (fun v w44 => ∃ (r_42 : Bool), v = .bool r_42 ∧
((r_42 = false) →
R (.bool false) w44) ∧
((r_42 = true) →
∀ (w57 : World), Chg [] w44 w57 →
∃ (r_67 : Int), (∀ w' : World, Ext w57 w' → Calls Try.prog 14 #[.int .i64 at_2, .int .i64 (r_7_Kids.n : Int)] w' (Ret fun v w'' => Ext w' w'' ∧ v = .int .i64 r_67)) ∧
∃ p_72 : Addr, (((0 : Int) ≤ r_67 ∧ r_67 < (r_7_Kids.n : Int)) ∧ r_7_Kids.a = some p_72) ∧
∀ (w77 : World), Chg [] w57 w77 →
CallK Try.prog 14 #[.int .i64 how_3, .int .i64 6] w77 [B_15] (fun v w91 => ∃ (r_89 : Int), v = .int .i64 r_89 ∧
∃ J_266 : World → Prop,
(((r_89 = 0) →
∃ (B_281 o_282 : Nat) (T_283 : TypeId) (cs_284 : List Value), ((p_72.add (r_67.toNat * 5)).add 0) = ⟨B_281, o_282, none⟩ ∧ Box w91 B_281 T_283 cs_284 ∧ o_282 + 1 ≤ cs_284.length ∧ (∀ b ∈ [B_15], b ≠ B_281) ∧
(∀ w277 : World, Chg [B_281] w91 w277 → Box w277 B_281 T_283 (putAt cs_284 o_282 [.int .i64 1]) →
J_266 w277)) ∧
((¬ (r_89 = 0)) →
((r_89 = 1) →
∃ (B_306 o_307 : Nat) (T_308 : TypeId) (cs_309 : List Value), ((p_72.add (r_67.toNat * 5)).add 0) = ⟨B_306, o_307, none⟩ ∧ Box w91 B_306 T_308 cs_309 ∧ o_307 + 1 ≤ cs_309.length ∧ (∀ b ∈ [B_15], b ≠ B_306) ∧
(∀ w302 : World, Chg [B_306] w91 w302 → Box w302 B_306 T_308 (putAt cs_309 o_307 [.int .i64 0]) →
J_266 w302)) ∧
((¬ (r_89 = 1)) →
((r_89 = 2) →
∃ (B_331 o_332 : Nat) (T_333 : TypeId) (cs_334 : List Value), (p_72.add (r_67.toNat * 5)) = ⟨B_331, o_332, none⟩ ∧ Box w91 B_331 T_333 cs_334 ∧ o_332 + 5 ≤ cs_334.length ∧ (∀ b ∈ [B_15], b ≠ B_331) ∧
(∀ w327 : World, Chg [B_331] w91 w327 → Box w327 B_331 T_333 (putAt cs_334 o_332 [.int .i64 3, .string (Bs ([] : Str)), .string (Bs ([] : Str)), Sl.v Sl.nil, Sl.v Sl.nil]) →
J_266 w327)) ∧
((¬ (r_89 = 2)) →
((r_89 = 3) →
∃ (B_356 o_357 : Nat) (T_358 : TypeId) (cs_359 : List Value), (p_72.add (r_67.toNat * 5)) = ⟨B_356, o_357, none⟩ ∧ Box w91 B_356 T_358 cs_359 ∧ o_357 + 5 ≤ cs_359.length ∧ (∀ b ∈ [B_15], b ≠ B_356) ∧
(∀ w352 : World, Chg [B_356] w91 w352 → Box w352 B_356 T_358 (putAt cs_359 o_357 [.int .i64 2, .string (Bs ([65] : Str)), .string (Bs ([] : Str)), Sl.v Sl.nil, Sl.v Sl.nil]) →
J_266 w352)) ∧
((¬ (r_89 = 3)) →
((r_89 = 4) →
∀ (w378 : World) (B_377 : Nat), New w91 B_377 w378 → Chg [] w91 w378 →
∀ (_ : Box w378 B_377 33 [.string (Bs ([121] : Str)), .string (Bs ([] : Str)), .string (Bs ([120] : Str)), .string (Bs ([] : Str))]),
∃ (B_395 o_396 : Nat) (T_397 : TypeId) (cs_398 : List Value), (p_72.add (r_67.toNat * 5)) = ⟨B_395, o_396, none⟩ ∧ Box w378 B_395 T_397 cs_398 ∧ o_396 + 5 ≤ cs_398.length ∧ (∀ b ∈ [B_15], b ≠ B_395) ∧
(∀ w389 : World, Chg [B_395] w378 w389 → Box w389 B_395 T_397 (putAt cs_398 o_396 [.int .i64 2, .string (Bs ([97] : Str)), .string (Bs ([] : Str)), Sl.v (Sl.mk (some ⟨B_377, 0, none⟩) 2 2), Sl.v Sl.nil]) →
J_266 w389)) ∧
((¬ (r_89 = 4)) →
∀ (w411 : World) (B_410 : Nat), New w91 B_410 w411 → Chg [] w91 w411 →
∀ (_ : Box w411 B_410 26 [.int .i64 3, .string (Bs ([] : Str)), .string (Bs ([97] : Str)), Sl.v Sl.nil, Sl.v Sl.nil]),
∃ (B_428 o_429 : Nat) (T_430 : TypeId) (cs_431 : List Value), (p_72.add (r_67.toNat * 5)) = ⟨B_428, o_429, none⟩ ∧ Box w411 B_428 T_430 cs_431 ∧ o_429 + 5 ≤ cs_431.length ∧ (∀ b ∈ [B_15], b ≠ B_428) ∧
(∀ w422 : World, Chg [B_428] w411 w422 → Box w422 B_428 T_430 (putAt cs_431 o_429 [.int .i64 4, .string (Bs ([] : Str)), .string (Bs ([] : Str)), Sl.v Sl.nil, Sl.v (Sl.mk (some ⟨B_410, 0, none⟩) 1 1)]) →
J_266 w422))))))) ∧
(∀ (w265 : World), J_266 w265 →
CallK Try.prog 12 #[.agg #[.int .i64 r_7_Kind, .string (Bs r_7_Name), .string (Bs r_7_Text), Sl.v r_7_Attrs, Sl.v r_7_Kids]] w265 [B_15] (fun v w447 => ∃ (r_445 : Bool), v = .bool r_445 ∧
∃ (r_456 : Bool), (((r_445 = false)) → Calls Try.prog 15 #[] w447 (Ret fun v w' => Ext w447 w' ∧ v = .bool r_456)) ∧
(∀ w458 : World, Ext w447 w458 →
R (.bool ((!r_445) && r_456)) w458))))))))
set_option maxHeartbeats 1000000 in
set_option maxRecDepth 10000 in
theorem law05_TreeSpoilt.ok (l_1 : Sl) (at_2 : Int) (how_3 : Int) {R : Value → World → Prop} {w : World} (ht0 : law05_TreeSpoilt.vc l_1 at_2 how_3 R w) : Calls Try.prog 3 #[Sl.v l_1, .int .i64 at_2, .int .i64 how_3] w (Ret R) := by
  refine enter [Sl.v l_1, .int .i64 at_2, .int .i64 how_3] Try.func3 rfl Try.ntmps3 rfl ?_
  intro a0 hA0
  unfold law05_TreeSpoilt.vc at ht0
  refine wp_seq ?_
  refine wp_region_lit ?_
  refine sq (opk_val hA0 rfl (r_assign rfl) fun a4 hA4 _ => ?_)
  refine sq_end ?_
  have hA5 := hA4.keep [(0, Sl.v l_1), (1, .int .i64 at_2), (2, .int .i64 how_3)] ⟨rfl, rfl, rfl, trivial⟩
  refine then_normal ?_
  refine wp_seq ?_
  refine wp_region_lit ?_
  refine sq (opk_val hA5 rfl (r_move (hA5.get rfl)) fun a6 hA6 _ => ?_)
  refine sq (opk_call hA6 rfl (r_call (args := #[Sl.v l_1]) Try.func11 (by decide) rfl (map_arr (ml_cons (hA6.get rfl) ml_nil)) rfl) ht0 fun a8 v14 w9 hA8 _ hn11 hz12 hK13 => ?_)
  obtain ⟨r_7_Kind, r_7_Name, r_7_Text, r_7_Attrs, r_7_Kids, rfl, ht10⟩ := hK13
  refine sq (opk_new (fun B => .pointer (some ⟨B, 0, none⟩)) hA8 rfl (r_alloc (cs := [.int .i64 0, .string (Bs ([] : Str)), .string (Bs ([] : Str)), Sl.v Sl.nil, Sl.v Sl.nil]) ti_26 rfl) fun a17 w16 B_15 hE18 hN19 hB20 hA17 _ => ?_)
  have hN21 : New w9 B_15 w16 := hN19
  have hC22 : Chg [] w9 w16 := hE18
  refine sq (opk_store hA17 hB20 (r_store (vs := [.int .i64 r_7_Kind, .string (Bs r_7_Name), .string (Bs r_7_Text), Sl.v r_7_Attrs, Sl.v r_7_Kids]) (hA17.get rfl) (hA17.get rfl) rfl ti_26 hB20 rfl (ones_all [.int .i64 r_7_Kind, .string (Bs r_7_Name), .string (Bs r_7_Text), Sl.v r_7_Attrs, Sl.v r_7_Kids] rfl)) fun a24 w23 hS25 hB26 hA24 => ?_)
  have hB27 : Box w23 B_15 26 [.int .i64 r_7_Kind, .string (Bs r_7_Name), .string (Bs r_7_Text), Sl.v r_7_Attrs, Sl.v r_7_Kids] := hB26
  have hC28 := hC22.storeNew hN21 hS25
  have hN29 := hN21.up hS25.size
  refine sq_end ?_
  have hA30 := hA24.keep [(1, .int .i64 at_2), (2, .int .i64 how_3), (7, .pointer (some ⟨B_15, 0, none⟩))] ⟨rfl, rfl, rfl, trivial⟩
  refine then_normal ?_
  refine wp_seq ?_
  refine wp_seq ?_
  refine wp_region_lit ?_
  refine sq (opk_val hA30 rfl (r_loadN (cs := [.int .i64 r_7_Kind, .string (Bs r_7_Name), .string (Bs r_7_Text), Sl.v r_7_Attrs, Sl.v r_7_Kids]) Try.underlying26 rfl ti_26 (hA30.get rfl) (hB27.part 0 _ rfl)) fun a31 hA31 _ => ?_)
  have ht32 := ht10 w23 B_15 hN29  hC28
  refine sq (opk_call hA31 rfl (r_call (args := #[.agg #[.int .i64 r_7_Kind, .string (Bs r_7_Name), .string (Bs r_7_Text), Sl.v r_7_Attrs, Sl.v r_7_Kids]]) Try.func13 (by decide) rfl (map_arr (ml_cons (hA31.get rfl) ml_nil)) rfl) ht32 fun a34 v40 w35 hA34 _ hn37 hz38 hK39 => ?_)
  obtain ⟨r_33_Kind, r_33_Name, r_33_Text, r_33_Attrs, r_33_Kids, rfl, ht36⟩ := hK39
  have hB41 := hB27.kept hn37 (.head _)
  refine sq (opk_call hA34 rfl (r_call (args := #[.agg #[.int .i64 r_33_Kind, .string (Bs r_33_Name), .string (Bs r_33_Text), Sl.v r_33_Attrs, Sl.v r_33_Kids]]) Try.func12 (by decide) rfl (map_arr (ml_cons (hA34.get rfl) ml_nil)) rfl) ht36 fun a43 v49 w44 hA43 _ hn46 hz47 hK48 => ?_)
  obtain ⟨r_42, rfl, ht45⟩ := hK48
  have hB50 := hB41.kept hn46 (.head _)
  refine sq (opk_val hA43 rfl (r_not (hA43.get rfl)) fun a51 hA51 _ => ?_)
  refine sq_end ?_
  have hA52 := hA51.keep [(1, .int .i64 at_2), (2, .int .i64 how_3), (7, .pointer (some ⟨B_15, 0, none⟩)), (14, .bool (!r_42))] ⟨rfl, rfl, rfl, rfl, trivial⟩
  refine then_normal ?_
  refine wp_cond_split (hA52.get rfl) (fun hc => ?_) (fun hc => ?_)
  · have ht53 := ht45.1 (b_not_t hc)
    clear hc
    refine wp_seq ?_
    refine wp_region_lit ?_
    refine sq (opk_val hA52 rfl (r_assign rfl) fun a55 hA55 _ => ?_)
    refine sq_end ?_
    have hA56 := hA55.keep [(6, .bool false)] ⟨rfl, trivial⟩
    refine then_normal ?_
    refine wp_ret ?_
    refine then_ret ?_
    exact res_all (vs := [.bool false]) rfl hA56 ⟨res_of_tmp hA56 rfl, trivial⟩ ht53
  · have ht54 := ht45.2 (b_not_f hc)
    clear hc
    refine wp_skip ?_
    refine then_normal ?_
    refine wp_seq ?_
    refine draw' (by kernel_rfl) fun w57 hE58 => ?_
    have hB59 := hB50.ext hE58
    have hC60 : Chg [] w44 w57 := hE58
    have ht61 := ht54 w57    hC60
    obtain ⟨r_67, hc68, ht69⟩ := ht61
    obtain ⟨p_72, hp73, ht74⟩ := ht69
    refine par (D := [[], [0], [], [], [3], [3, 4], [2, 3, 4, 5], [0, 1, 2, 3, 4, 5, 6], [0, 1, 2, 3, 4, 5, 6, 7]]) (S := [0, 1, 2, 3, 4, 5, 6, 7, 8]) (F := []) (V := VL [(0, fun v _ => v = .pointer (some ⟨B_15, 4, none⟩)), (1, fun v _ => v = Sl.v r_7_Kids), (2, fun v _ => v = .int .i64 at_2), (3, fun v _ => v = .pointer (some ⟨B_15, 4, none⟩)), (4, fun v _ => v = Sl.v r_7_Kids), (5, fun v _ => v = .int .i64 (r_7_Kids.n : Int)), (6, fun v _ => v = .int .i64 r_67), (7, fun v _ => v = .pointer (some (p_72.add (r_67.toNat * 5)))), (8, fun v _ => v = .pointer (some (p_72.add (r_67.toNat * 5))))]) hA52 (by kernel_rfl) ⟨fun _ _ _ _ h => by first | exact h | (change _ = _ at h; change _ = _; exact h), fun _ _ _ _ h => by first | exact h | (change _ = _ at h; change _ = _; exact h), fun _ _ _ _ h => by first | exact h | (change _ = _ at h; change _ = _; exact h), fun _ _ _ _ h => by first | exact h | (change _ = _ at h; change _ = _; exact h), fun _ _ _ _ h => by first | exact h | (change _ = _ at h; change _ = _; exact h), fun _ _ _ _ h => by first | exact h | (change _ = _ at h; change _ = _; exact h), fun _ _ _ _ h => by first | exact h | (change _ = _ at h; change _ = _; exact h), fun _ _ _ _ h => by first | exact h | (change _ = _ at h; change _ = _; exact h), fun _ _ _ _ h => by first | exact h | (change _ = _ at h; change _ = _; exact h), trivial⟩ ⟨?_, ?_, ?_, ?_, ?_, ?_, ?_, ?_, ?_, trivial⟩ ?_
    · intro a w hT
      have hAp := hT.ag hA52 [(7, .pointer (some ⟨B_15, 0, none⟩))] ⟨rfl, trivial⟩ (by kernel_rfl)
      exact opk_val hAp rfl (r_fieldAddr (hAp.get rfl) Try.underlying26 rfl ti_24 (by decide)) fun _ _ e => ⟨_, e, Chg.refl _ _, fun _ => Eq.refl _⟩
    · intro a w hT
      have hAp := hT.ag hA52 [] trivial (by kernel_rfl)
      have e62 : a.tmps.getD 15 undef = .pointer (some ⟨B_15, 4, none⟩) := hT.vals 0 rfl 15 rfl
      have hAp := hAp.add e62
      exact opk_val hAp rfl (r_load1 Try.underlying24 rfl (hAp.get rfl) ((hB59.ext hT.chg).cell 4 _ rfl)) fun _ _ e => ⟨_, e, Chg.refl _ _, fun _ => Eq.refl _⟩
    · intro a w hT
      have hAp := hT.ag hA52 [(1, .int .i64 at_2)] ⟨rfl, trivial⟩ (by kernel_rfl)
      exact opk_val hAp rfl (r_move (hAp.get rfl)) fun _ _ e => ⟨_, e, Chg.refl _ _, fun _ => Eq.refl _⟩
    · intro a w hT
      have hAp := hT.ag hA52 [(7, .pointer (some ⟨B_15, 0, none⟩))] ⟨rfl, trivial⟩ (by kernel_rfl)
      exact opk_val hAp rfl (r_fieldAddr (hAp.get rfl) Try.underlying26 rfl ti_24 (by decide)) fun _ _ e => ⟨_, e, Chg.refl _ _, fun _ => Eq.refl _⟩
    · intro a w hT
      have hAp := hT.ag hA52 [] trivial (by kernel_rfl)
      have e63 : a.tmps.getD 18 undef = .pointer (some ⟨B_15, 4, none⟩) := hT.vals 3 rfl 18 rfl
      have hAp := hAp.add e63
      exact opk_val hAp rfl (r_load1 Try.underlying24 rfl (hAp.get rfl) ((hB59.ext hT.chg).cell 4 _ rfl)) fun _ _ e => ⟨_, e, Chg.refl _ _, fun _ => Eq.refl _⟩
    · intro a w hT
      have hAp := hT.ag hA52 [] trivial (by kernel_rfl)
      have e64 : a.tmps.getD 19 undef = Sl.v r_7_Kids := hT.vals 4 rfl 19 rfl
      have hAp := hAp.add e64
      exact opk_val hAp rfl (r_len (hAp.get rfl) Try.underlying24) fun _ _ e => ⟨_, e, Chg.refl _ _, fun _ => Eq.refl _⟩
    · intro a w hT
      have hAp := hT.ag hA52 [] trivial (by kernel_rfl)
      have e65 : a.tmps.getD 17 undef = .int .i64 at_2 := hT.vals 2 rfl 17 rfl
      have hAp := hAp.add e65
      have e66 : a.tmps.getD 20 undef = .int .i64 (r_7_Kids.n : Int) := hT.vals 5 rfl 20 rfl
      have hAp := hAp.add e66
      exact opk_callX hAp rfl (r_call (args := #[.int .i64 at_2, .int .i64 (r_7_Kids.n : Int)]) Try.func14 (by decide) rfl (map_arr (ml_cons (hAp.get rfl) (ml_cons (hAp.get rfl) ml_nil))) rfl) (hc68 w hT.chg) fun _ _ _ _ e hR => ⟨_, e, hR.1, fun _ => hR.2⟩
    · intro a w hT
      have hAp := hT.ag hA52 [] trivial (by kernel_rfl)
      have e70 : a.tmps.getD 16 undef = Sl.v r_7_Kids := hT.vals 1 rfl 16 rfl
      have hAp := hAp.add e70
      have e71 : a.tmps.getD 21 undef = .int .i64 r_67 := hT.vals 6 rfl 21 rfl
      have hAp := hAp.add e71
      exact opk_val hAp rfl (r_indexAddr (hAp.get rfl) (hAp.get rfl) Try.underlying24 ti_26 hp73.1 hp73.2) fun _ _ e => ⟨_, e, Chg.refl _ _, fun _ => Eq.refl _⟩
    · intro a w hT
      have hAp := hT.ag hA52 [] trivial (by kernel_rfl)
      have e75 : a.tmps.getD 22 undef = .pointer (some (p_72.add (r_67.toNat * 5))) := hT.vals 7 rfl 22 rfl
      have hAp := hAp.add e75
      exact opk_val hAp rfl (r_assign (hAp.get rfl)) fun _ _ e => ⟨_, e, Chg.refl _ _, fun _ => Eq.refl _⟩
    · intro a76 w77 hE78 hag79 hv80
      have hA76 := hag79 [(2, .int .i64 how_3), (7, .pointer (some ⟨B_15, 0, none⟩))] ⟨rfl, rfl, trivial⟩ (by kernel_rfl)
      have e82 : a76.tmps.getD 8 undef = .pointer (some (p_72.add (r_67.toNat * 5))) := hv80 8 rfl 8 rfl
      have hA83 := hA76.add e82
      have hB84 := hB59.ext hE78
      have hC85 : Chg [] w57 w77 := hE78
      refine PR_end (by kernel_rfl) ?_
      have hA86 := hA83.keep [(2, .int .i64 how_3), (7, .pointer (some ⟨B_15, 0, none⟩)), (8, .pointer (some (p_72.add (r_67.toNat * 5))))] ⟨rfl, rfl, rfl, trivial⟩
      refine then_normal ?_
      refine wp_seq ?_
      refine wp_seq ?_
      refine wp_region_lit ?_
      refine sq (opk_val hA86 rfl (r_move (hA86.get rfl)) fun a87 hA87 _ => ?_)
      have ht88 := ht74 w77    hC85
      refine sq (opk_call hA87 rfl (r_call (args := #[.int .i64 how_3, .int .i64 6]) Try.func14 (by decide) rfl (map_arr (ml_cons (hA87.get rfl) (ml_cons rfl ml_nil))) rfl) ht88 fun a90 v96 w91 hA90 _ hn93 hz94 hK95 => ?_)
      obtain ⟨r_89, rfl, ht92⟩ := hK95
      have hB97 := hB84.kept hn93 (.head _)
      refine sq_end ?_
      have hA98 := hA90.keep [(7, .pointer (some ⟨B_15, 0, none⟩)), (8, .pointer (some (p_72.add (r_67.toNat * 5)))), (24, .int .i64 r_89)] ⟨rfl, rfl, rfl, trivial⟩
      refine then_normal ?_
      obtain ⟨J_266, ht267, hr268⟩ := ht92
      refine wp_meet (fun a w => Ag 64 a [(7, .pointer (some ⟨B_15, 0, none⟩))] ∧ Box w B_15 26 [.int .i64 r_7_Kind, .string (Bs r_7_Name), .string (Bs r_7_Text), Sl.v r_7_Attrs, Sl.v r_7_Kids] ∧ J_266 w) ?_ ?_
      · refine wp_block ?_
        refine wp_seq ?_
        refine wp_region_lit ?_
        refine sq (opk_val hA98 rfl (r_eql (hA98.get rfl) rfl) fun a269 hA269 _ => ?_)
        refine sq (opk_val hA269 rfl (r_assign (hA269.get rfl)) fun a270 hA270 _ => ?_)
        refine sq_end ?_
        have hA271 := hA270.keep [(7, .pointer (some ⟨B_15, 0, none⟩)), (8, .pointer (some (p_72.add (r_67.toNat * 5)))), (24, .int .i64 r_89), (30, .bool (decide (r_89 = 0)))] ⟨rfl, rfl, rfl, rfl, trivial⟩
        refine then_normal ?_
        refine wp_cond_split (hA271.get rfl) (fun hc => ?_) (fun hc => ?_)
        · have ht272 := ht267.1 (of_decide_eq_true hc)
          clear hc
          refine wp_region_lit ?_
          refine sq (opk_val hA271 rfl (r_move (hA271.get rfl)) fun a274 hA274 _ => ?_)
          refine sq (opk_val hA274 rfl (r_nilCheck (hA274.get rfl)) fun a275 hA275 _ => ?_)
          refine sq (opk_val hA275 rfl (r_fieldAddr (hA275.get rfl) Try.underlying26 rfl ti_3 (by decide)) fun a276 hA276 _ => ?_)
          obtain ⟨B_281, o_282, T_283, cs_284, he285, hb286, hl287, hx288, ht289⟩ := ht272
          refine sq (opk_store hA276 hb286 (r_store (vs := [.int .i64 1]) (((hA276.get rfl)).trans (congrArg (fun a => Value.pointer (some a)) he285)) rfl rfl ti_3 hb286 (Nat.ble_eq_true_of_le hl287) (ones_all [.int .i64 1] rfl)) fun a278 w277 hS279 hB280 hA278 => ?_)
          have hB290 := hB97.keep hS279 (by have := hx288 B_15 (by simp); simpa using this)
          have ht291 := ht289 w277 hS279 hB280
          refine sq_end ?_
          have hA292 := hA278.keep [(7, .pointer (some ⟨B_15, 0, none⟩))] ⟨rfl, trivial⟩
          refine block_normal ?_
          have hA293 := hA292.keep [(7, .pointer (some ⟨B_15, 0, none⟩))] ⟨rfl, trivial⟩
          exact then_normal ⟨hA293, hB290, ht291⟩
        · have ht273 := ht267.2 (of_decide_eq_false hc)
          clear hc
          refine wp_seq ?_
          refine wp_region_lit ?_
          refine sq (opk_val hA271 rfl (r_eql (hA271.get rfl) rfl) fun a294 hA294 _ => ?_)
          refine sq (opk_val hA294 rfl (r_assign (hA294.get rfl)) fun a295 hA295 _ => ?_)
          refine sq_end ?_
          have hA296 := hA295.keep [(7, .pointer (some ⟨B_15, 0, none⟩)), (8, .pointer (some (p_72.add (r_67.toNat * 5)))), (24, .int .i64 r_89), (35, .bool (decide (r_89 = 1)))] ⟨rfl, rfl, rfl, rfl, trivial⟩
          refine then_normal ?_
          refine wp_cond_split (hA296.get rfl) (fun hc => ?_) (fun hc => ?_)
          · have ht297 := ht273.1 (of_decide_eq_true hc)
            clear hc
            refine wp_region_lit ?_
            refine sq (opk_val hA296 rfl (r_move (hA296.get rfl)) fun a299 hA299 _ => ?_)
            refine sq (opk_val hA299 rfl (r_nilCheck (hA299.get rfl)) fun a300 hA300 _ => ?_)
            refine sq (opk_val hA300 rfl (r_fieldAddr (hA300.get rfl) Try.underlying26 rfl ti_3 (by decide)) fun a301 hA301 _ => ?_)
            obtain ⟨B_306, o_307, T_308, cs_309, he310, hb311, hl312, hx313, ht314⟩ := ht297
            refine sq (opk_store hA301 hb311 (r_store (vs := [.int .i64 0]) (((hA301.get rfl)).trans (congrArg (fun a => Value.pointer (some a)) he310)) rfl rfl ti_3 hb311 (Nat.ble_eq_true_of_le hl312) (ones_all [.int .i64 0] rfl)) fun a303 w302 hS304 hB305 hA303 => ?_)
            have hB315 := hB97.keep hS304 (by have := hx313 B_15 (by simp); simpa using this)
            have ht316 := ht314 w302 hS304 hB305
            refine sq_end ?_
            have hA317 := hA303.keep [(7, .pointer (some ⟨B_15, 0, none⟩))] ⟨rfl, trivial⟩
            refine block_normal ?_
            have hA318 := hA317.keep [(7, .pointer (some ⟨B_15, 0, none⟩))] ⟨rfl, trivial⟩
            exact then_normal ⟨hA318, hB315, ht316⟩
          · have ht298 := ht273.2 (of_decide_eq_false hc)
            clear hc
            refine wp_seq ?_
            refine wp_region_lit ?_
            refine sq (opk_val hA296 rfl (r_eql (hA296.get rfl) rfl) fun a319 hA319 _ => ?_)
            refine sq (opk_val hA319 rfl (r_assign (hA319.get rfl)) fun a320 hA320 _ => ?_)
            refine sq_end ?_
            have hA321 := hA320.keep [(7, .pointer (some ⟨B_15, 0, none⟩)), (8, .pointer (some (p_72.add (r_67.toNat * 5)))), (24, .int .i64 r_89), (40, .bool (decide (r_89 = 2)))] ⟨rfl, rfl, rfl, rfl, trivial⟩
            refine then_normal ?_
            refine wp_cond_split (hA321.get rfl) (fun hc => ?_) (fun hc => ?_)
            · have ht322 := ht298.1 (of_decide_eq_true hc)
              clear hc
              refine wp_region_lit ?_
              refine sq (opk_val hA321 rfl (r_move (hA321.get rfl)) fun a324 hA324 _ => ?_)
              refine sq (opk_val hA324 rfl (r_build (vs := #[(0, .int .i64 3)]) (cells := #[.int .i64 3, .string (Bs ([] : Str)), .string (Bs ([] : Str)), Sl.v Sl.nil, Sl.v Sl.nil]) (map_arr2 (ml2_cons rfl (ml2_nil))) ti_26 Try.underlying26 pl_26 (by kernel_rfl)) fun a325 hA325 _ => ?_)
              refine sq (opk_val hA325 rfl (r_nilCheck (hA325.get rfl)) fun a326 hA326 _ => ?_)
              obtain ⟨B_331, o_332, T_333, cs_334, he335, hb336, hl337, hx338, ht339⟩ := ht322
              refine sq (opk_store hA326 hb336 (r_store (vs := [.int .i64 3, .string (Bs ([] : Str)), .string (Bs ([] : Str)), Sl.v Sl.nil, Sl.v Sl.nil]) (((hA326.get rfl)).trans (congrArg (fun a => Value.pointer (some a)) he335)) (hA326.get rfl) rfl ti_26 hb336 (Nat.ble_eq_true_of_le hl337) (ones_all [.int .i64 3, .string (Bs ([] : Str)), .string (Bs ([] : Str)), Sl.v Sl.nil, Sl.v Sl.nil] rfl)) fun a328 w327 hS329 hB330 hA328 => ?_)
              have hB340 := hB97.keep hS329 (by have := hx338 B_15 (by simp); simpa using this)
              have ht341 := ht339 w327 hS329 hB330
              refine sq_end ?_
              have hA342 := hA328.keep [(7, .pointer (some ⟨B_15, 0, none⟩))] ⟨rfl, trivial⟩
              refine block_normal ?_
              have hA343 := hA342.keep [(7, .pointer (some ⟨B_15, 0, none⟩))] ⟨rfl, trivial⟩
              exact then_normal ⟨hA343, hB340, ht341⟩
            · have ht323 := ht298.2 (of_decide_eq_false hc)
              clear hc
              refine wp_seq ?_
              refine wp_region_lit ?_
              refine sq (opk_val hA321 rfl (r_eql (hA321.get rfl) rfl) fun a344 hA344 _ => ?_)
              refine sq (opk_val hA344 rfl (r_assign (hA344.get rfl)) fun a345 hA345 _ => ?_)
              refine sq_end ?_
              have hA346 := hA345.keep [(7, .pointer (some ⟨B_15, 0, none⟩)), (8, .pointer (some (p_72.add (r_67.toNat * 5)))), (24, .int .i64 r_89), (45, .bool (decide (r_89 = 3)))] ⟨rfl, rfl, rfl, rfl, trivial⟩
              refine then_normal ?_
              refine wp_cond_split (hA346.get rfl) (fun hc => ?_) (fun hc => ?_)
              · have ht347 := ht323.1 (of_decide_eq_true hc)
                clear hc
                refine wp_region_lit ?_
                refine sq (opk_val hA346 rfl (r_move (hA346.get rfl)) fun a349 hA349 _ => ?_)
                refine sq (opk_val hA349 rfl (r_build (vs := #[(0, .int .i64 2), (1, .string (Bs ([65] : Str)))]) (cells := #[.int .i64 2, .string (Bs ([65] : Str)), .string (Bs ([] : Str)), Sl.v Sl.nil, Sl.v Sl.nil]) (map_arr2 (ml2_cons rfl (ml2_cons rfl (ml2_nil)))) ti_26 Try.underlying26 pl_26 (by kernel_rfl)) fun a350 hA350 _ => ?_)
                refine sq (opk_val hA350 rfl (r_nilCheck (hA350.get rfl)) fun a351 hA351 _ => ?_)
                obtain ⟨B_356, o_357, T_358, cs_359, he360, hb361, hl362, hx363, ht364⟩ := ht347
                refine sq (opk_store hA351 hb361 (r_store (vs := [.int .i64 2, .string (Bs ([65] : Str)), .string (Bs ([] : Str)), Sl.v Sl.nil, Sl.v Sl.nil]) (((hA351.get rfl)).trans (congrArg (fun a => Value.pointer (some a)) he360)) (hA351.get rfl) rfl ti_26 hb361 (Nat.ble_eq_true_of_le hl362) (ones_all [.int .i64 2, .string (Bs ([65] : Str)), .string (Bs ([] : Str)), Sl.v Sl.nil, Sl.v Sl.nil] rfl)) fun a353 w352 hS354 hB355 hA353 => ?_)
                have hB365 := hB97.keep hS354 (by have := hx363 B_15 (by simp); simpa using this)
                have ht366 := ht364 w352 hS354 hB355
                refine sq_end ?_
                have hA367 := hA353.keep [(7, .pointer (some ⟨B_15, 0, none⟩))] ⟨rfl, trivial⟩
                refine block_normal ?_
                have hA368 := hA367.keep [(7, .pointer (some ⟨B_15, 0, none⟩))] ⟨rfl, trivial⟩
                exact then_normal ⟨hA368, hB365, ht366⟩
              · have ht348 := ht323.2 (of_decide_eq_false hc)
                clear hc
                refine wp_seq ?_
                refine wp_region_lit ?_
                refine sq (opk_val hA346 rfl (r_eql (hA346.get rfl) rfl) fun a369 hA369 _ => ?_)
                refine sq (opk_val hA369 rfl (r_assign (hA369.get rfl)) fun a370 hA370 _ => ?_)
                refine sq_end ?_
                have hA371 := hA370.keep [(7, .pointer (some ⟨B_15, 0, none⟩)), (8, .pointer (some (p_72.add (r_67.toNat * 5)))), (50, .bool (decide (r_89 = 4)))] ⟨rfl, rfl, rfl, trivial⟩
                refine then_normal ?_
                refine wp_cond_split (hA371.get rfl) (fun hc => ?_) (fun hc => ?_)
                · have ht372 := ht348.1 (of_decide_eq_true hc)
                  clear hc
                  refine wp_region_lit ?_
                  refine sq (opk_val hA371 rfl (r_move (hA371.get rfl)) fun a374 hA374 _ => ?_)
                  refine sq (opk_val hA374 rfl (r_build (vs := #[(0, .string (Bs ([121] : Str)))]) (cells := #[.string (Bs ([121] : Str)), .string (Bs ([] : Str))]) (map_arr2 (ml2_cons rfl (ml2_nil))) ti_33 Try.underlying33 pl_33 (by kernel_rfl)) fun a375 hA375 _ => ?_)
                  refine sq (opk_val hA375 rfl (r_build (vs := #[(0, .string (Bs ([120] : Str)))]) (cells := #[.string (Bs ([120] : Str)), .string (Bs ([] : Str))]) (map_arr2 (ml2_cons rfl (ml2_nil))) ti_33 Try.underlying33 pl_33 (by kernel_rfl)) fun a376 hA376 _ => ?_)
                  refine sq (opk_new (fun B => .slice (some ⟨B, 0, none⟩) 2 2) hA376 rfl (r_buildSlice (vs := #[(0, .agg #[.string (Bs ([121] : Str)), .string (Bs ([] : Str))]), (1, .agg #[.string (Bs ([120] : Str)), .string (Bs ([] : Str))])]) (cs := [.string (Bs ([121] : Str)), .string (Bs ([] : Str)), .string (Bs ([120] : Str)), .string (Bs ([] : Str))]) (map_arr2 (ml2_cons (hA376.get rfl) (ml2_cons (hA376.get rfl) (ml2_nil)))) Try.underlying23 ti_33 rfl rfl (by kernel_rfl)) fun a379 w378 B_377 hE380 hN381 hB382 hA379 _ => ?_)
                  have hne383 : B_15 ≠ B_377 := Nat.ne_of_lt (Nat.lt_of_lt_of_le hB97.lt hN381.ge)
                  have hN384 : New w91 B_377 w378 := hN381
                  have hB385 := hB97.ext hE380
                  have hC386 : Chg [] w91 w378 := hE380
                  refine sq (opk_val hA379 rfl (r_build (vs := #[(0, .int .i64 2), (1, .string (Bs ([97] : Str))), (3, Sl.v (Sl.mk (some ⟨B_377, 0, none⟩) 2 2))]) (cells := #[.int .i64 2, .string (Bs ([97] : Str)), .string (Bs ([] : Str)), Sl.v (Sl.mk (some ⟨B_377, 0, none⟩) 2 2), Sl.v Sl.nil]) (map_arr2 (ml2_cons rfl (ml2_cons rfl (ml2_cons (hA379.get rfl) (ml2_nil))))) ti_26 Try.underlying26 pl_26 (by kernel_rfl)) fun a387 hA387 _ => ?_)
                  refine sq (opk_val hA387 rfl (r_nilCheck (hA387.get rfl)) fun a388 hA388 _ => ?_)
                  have ht393 := ht372 w378 B_377 hN384  hC386
                  have ht394 := ht393 hB382
                  obtain ⟨B_395, o_396, T_397, cs_398, he399, hb400, hl401, hx402, ht403⟩ := ht394
                  refine sq (opk_store hA388 hb400 (r_store (vs := [.int .i64 2, .string (Bs ([97] : Str)), .string (Bs ([] : Str)), Sl.v (Sl.mk (some ⟨B_377, 0, none⟩) 2 2), Sl.v Sl.nil]) (((hA388.get rfl)).trans (congrArg (fun a => Value.pointer (some a)) he399)) (hA388.get rfl) rfl ti_26 hb400 (Nat.ble_eq_true_of_le hl401) (ones_all [.int .i64 2, .string (Bs ([97] : Str)), .string (Bs ([] : Str)), Sl.v (Sl.mk (some ⟨B_377, 0, none⟩) 2 2), Sl.v Sl.nil] rfl)) fun a390 w389 hS391 hB392 hA390 => ?_)
                  have hB404 := hB385.keep hS391 (by have := hx402 B_15 (by simp); simpa using this)
                  have ht405 := ht403 w389 hS391 hB392
                  refine sq_end ?_
                  have hA406 := hA390.keep [(7, .pointer (some ⟨B_15, 0, none⟩))] ⟨rfl, trivial⟩
                  refine block_normal ?_
                  have hA407 := hA406.keep [(7, .pointer (some ⟨B_15, 0, none⟩))] ⟨rfl, trivial⟩
                  exact then_normal ⟨hA407, hB404, ht405⟩
                · have ht373 := ht348.2 (of_decide_eq_false hc)
                  clear hc
                  refine wp_region_lit ?_
                  refine sq (opk_val hA371 rfl (r_move (hA371.get rfl)) fun a408 hA408 _ => ?_)
                  refine sq (opk_val hA408 rfl (r_build (vs := #[(0, .int .i64 3), (2, .string (Bs ([97] : Str)))]) (cells := #[.int .i64 3, .string (Bs ([] : Str)), .string (Bs ([97] : Str)), Sl.v Sl.nil, Sl.v Sl.nil]) (map_arr2 (ml2_cons rfl (ml2_cons rfl (ml2_nil)))) ti_26 Try.underlying26 pl_26 (by kernel_rfl)) fun a409 hA409 _ => ?_)
                  refine sq (opk_new (fun B => .slice (some ⟨B, 0, none⟩) 1 1) hA409 rfl (r_buildSlice (vs := #[(0, .agg #[.int .i64 3, .string (Bs ([] : Str)), .string (Bs ([97] : Str)), Sl.v Sl.nil, Sl.v Sl.nil])]) (cs := [.int .i64 3, .string (Bs ([] : Str)), .string (Bs ([97] : Str)), Sl.v Sl.nil, Sl.v Sl.nil]) (map_arr2 (ml2_cons (hA409.get rfl) (ml2_nil))) Try.underlying24 ti_26 rfl rfl (by kernel_rfl)) fun a412 w411 B_410 hE413 hN414 hB415 hA412 _ => ?_)
                  have hne416 : B_15 ≠ B_410 := Nat.ne_of_lt (Nat.lt_of_lt_of_le hB97.lt hN414.ge)
                  have hN417 : New w91 B_410 w411 := hN414
                  have hB418 := hB97.ext hE413
                  have hC419 : Chg [] w91 w411 := hE413
                  refine sq (opk_val hA412 rfl (r_build (vs := #[(0, .int .i64 4), (4, Sl.v (Sl.mk (some ⟨B_410, 0, none⟩) 1 1))]) (cells := #[.int .i64 4, .string (Bs ([] : Str)), .string (Bs ([] : Str)), Sl.v Sl.nil, Sl.v (Sl.mk (some ⟨B_410, 0, none⟩) 1 1)]) (map_arr2 (ml2_cons rfl (ml2_cons (hA412.get rfl) (ml2_nil)))) ti_26 Try.underlying26 pl_26 (by kernel_rfl)) fun a420 hA420 _ => ?_)
                  refine sq (opk_val hA420 rfl (r_nilCheck (hA420.get rfl)) fun a421 hA421 _ => ?_)
                  have ht426 := ht373 w411 B_410 hN417  hC419
                  have ht427 := ht426 hB415
                  obtain ⟨B_428, o_429, T_430, cs_431, he432, hb433, hl434, hx435, ht436⟩ := ht427
                  refine sq (opk_store hA421 hb433 (r_store (vs := [.int .i64 4, .string (Bs ([] : Str)), .string (Bs ([] : Str)), Sl.v Sl.nil, Sl.v (Sl.mk (some ⟨B_410, 0, none⟩) 1 1)]) (((hA421.get rfl)).trans (congrArg (fun a => Value.pointer (some a)) he432)) (hA421.get rfl) rfl ti_26 hb433 (Nat.ble_eq_true_of_le hl434) (ones_all [.int .i64 4, .string (Bs ([] : Str)), .string (Bs ([] : Str)), Sl.v Sl.nil, Sl.v (Sl.mk (some ⟨B_410, 0, none⟩) 1 1)] rfl)) fun a423 w422 hS424 hB425 hA423 => ?_)
                  have hB437 := hB418.keep hS424 (by have := hx435 B_15 (by simp); simpa using this)
                  have ht438 := ht436 w422 hS424 hB425
                  refine sq_end ?_
                  have hA439 := hA423.keep [(7, .pointer (some ⟨B_15, 0, none⟩))] ⟨rfl, trivial⟩
                  refine block_normal ?_
                  have hA440 := hA439.keep [(7, .pointer (some ⟨B_15, 0, none⟩))] ⟨rfl, trivial⟩
                  exact then_normal ⟨hA440, hB437, ht438⟩
      · intro a441 w265 hm
        obtain ⟨hA441, hB442, hJ468⟩ := hm
        have ht443 := hr268 w265 hJ468
        refine then_normal ?_
        refine wp_seq ?_
        refine wp_region_lit ?_
        refine sq (opk_val hA441 rfl (r_loadN (cs := [.int .i64 r_7_Kind, .string (Bs r_7_Name), .string (Bs r_7_Text), Sl.v r_7_Attrs, Sl.v r_7_Kids]) Try.underlying26 rfl ti_26 (hA441.get rfl) (hB442.part 0 _ rfl)) fun a444 hA444 _ => ?_)
        refine sq (opk_call hA444 rfl (r_call (args := #[.agg #[.int .i64 r_7_Kind, .string (Bs r_7_Name), .string (Bs r_7_Text), Sl.v r_7_Attrs, Sl.v r_7_Kids]]) Try.func12 (by decide) rfl (map_arr (ml_cons (hA444.get rfl) ml_nil)) rfl) ht443 fun a446 v452 w447 hA446 _ hn449 hz450 hK451 => ?_)
        obtain ⟨r_445, rfl, ht448⟩ := hK451
        have hB453 := hB442.kept hn449 (.head _)
        refine sq (opk_val hA446 rfl (r_not (hA446.get rfl)) fun a454 hA454 _ => ?_)
        refine sq (opk_val hA454 rfl (r_move (hA454.get rfl)) fun a455 hA455 _ => ?_)
        obtain ⟨r_456, hc460, ht459⟩ := ht448
        refine sq (opk_gcall hA455 rfl rfl (g := true) (e := (!r_445)) rfl (fun hg => r_call (args := #[]) Try.func15 (by decide) rfl (map_arr ml_nil) rfl) (fun hg => hc460 (b_not_t (g_t hg))) fun a457 w458 hA457 _ hE461 => ?_)
        have hB462 := hB453.ext hE461
        have hC463 : Chg [] w447 w458 := hE461
        have ht464 := ht459 w458 hE461
        refine sq (opk_val hA457 rfl (r_pick_and (g := (true && ((!r_445) == true))) (hA457.get rfl) (hA457.get rfl) (fun he => g_mkt rfl he)) fun a465 hA465 _ => ?_)
        refine sq (opk_val hA465 rfl (r_assign (hA465.get rfl)) fun a466 hA466 _ => ?_)
        refine sq_end ?_
        have hA467 := hA466.keep [(6, .bool ((!r_445) && r_456))] ⟨rfl, trivial⟩
        refine then_normal ?_
        refine wp_ret ?_
        exact res_all (vs := [.bool ((!r_445) && r_456)]) rfl hA467 ⟨res_of_tmp hA467 rfl, trivial⟩ ht464

end Go.Proofs.Ytpacegmmbabhjaa
