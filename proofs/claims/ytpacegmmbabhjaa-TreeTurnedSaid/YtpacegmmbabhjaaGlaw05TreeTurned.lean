/-
  PRINTED BY PROGRAM: for each function its condition (vc), and that this suffices (ok).
-/
import Derived.Test.YtpacegmmbabhjaaGT
namespace Go.Proofs.Ytpacegmmbabhjaa
open Go.RowKit
set_option linter.unusedVariables false

/-- The condition of topiary/topiarylaw05.TreeTurned. -/
def law05_TreeTurned.vc (l_1 : Sl) (at_2 : Int) (R : Value → World → Prop) (w : World) : Prop :=
CallK Try.prog 11 #[Sl.v l_1] w [] (fun v w8 => ∃ (r_6_Kind : Int) (r_6_Name : Str) (r_6_Text : Str) (r_6_Attrs : Sl) (r_6_Kids : Sl), v = .agg #[.int .i64 r_6_Kind, .string (Bs r_6_Name), .string (Bs r_6_Text), Sl.v r_6_Attrs, Sl.v r_6_Kids] ∧
∀ (w22 : World) (B_14 : Nat), New w8 B_14 w22 → Chg [] w8 w22 →
CallK Try.prog 13 #[.agg #[.int .i64 r_6_Kind, .string (Bs r_6_Name), .string (Bs r_6_Text), Sl.v r_6_Attrs, Sl.v r_6_Kids]] w22 [B_14] (fun v w34 => ∃ (r_32_Kind : Int) (r_32_Name : Str) (r_32_Text : Str) (r_32_Attrs : Sl) (r_32_Kids : Sl), v = .agg #[.int .i64 r_32_Kind, .string (Bs r_32_Name), .string (Bs r_32_Text), Sl.v r_32_Attrs, Sl.v r_32_Kids] ∧
(I64 ((r_32_Kids.n : Int) + 1)) ∧
∀ (w51 : World) (B_41 : Nat), New w34 B_41 w51 → Chg [] w34 w51 →
CallK Try.prog 14 #[.int .i64 at_2, .int .i64 ((r_32_Kids.n : Int) + 1)] w51 [B_14, B_41] (fun v w70 => ∃ (r_68 : Int), v = .int .i64 r_68 ∧
CallK Try.prog 13 #[.agg #[.int .i64 r_6_Kind, .string (Bs r_6_Name), .string (Bs r_6_Text), Sl.v r_6_Attrs, Sl.v r_6_Kids]] w70 [B_14, B_41] (fun v w83 => ∃ (r_81_Kind : Int) (r_81_Name : Str) (r_81_Text : Str) (r_81_Attrs : Sl) (r_81_Kids : Sl), v = .agg #[.int .i64 r_81_Kind, .string (Bs r_81_Name), .string (Bs r_81_Text), Sl.v r_81_Attrs, Sl.v r_81_Kids] ∧
∀ (w113 : World) (B_91 : Nat), New w83 B_91 w113 → Chg [] w83 w113 →
((0 : Int) ≤ r_68 ∧ r_68 ≤ (r_6_Kids.c : Int)) ∧
((0 : Int) ≤ r_68 ∧ r_68 ≤ (r_6_Kids.n : Int)) ∧
∃ V_127 : Sl → World → Prop, (∀ r_126 : Sl, ∀ w' w'' : World, Ext w' w'' → V_127 r_126 w' → V_127 r_126 w'') ∧
(∀ w' : World, Ext w113 w' → ∃ v w'', (Builtin.append_ #[24, 24] 24 #[Sl.v Sl.nil, Sl.v (Sl.cut r_6_Kids 5 0 r_68.toNat r_6_Kids.c)]).run Try.prog w' = .ok v w'' ∧ Ext w' w'' ∧ ∃ r_126 : Sl, v = Sl.v r_126 ∧ V_127 r_126 w'') ∧
∀ (w144 : World) (r_126 : Sl) (B_132 : Nat), Ext w113 w144 → V_127 r_126 w144 → w113.heap.size ≤ B_132 → Box w144 B_132 26 [.int .i64 3, .string (Bs ([] : Str)), .string (Bs ([104, 111, 112] : Str)), Sl.v Sl.nil, Sl.v Sl.nil] → 
∀ (_ : Box w144 B_132 26 [.int .i64 3, .string (Bs ([] : Str)), .string (Bs ([104, 111, 112] : Str)), Sl.v Sl.nil, Sl.v Sl.nil]),
RunK Try.prog (Builtin.append_ #[24, 24] 24 #[Sl.v r_126, Sl.v (Sl.mk (some ⟨B_132, 0, none⟩) 1 1)]) w144 [B_14, B_41, B_91] (fun v w173 => ∃ (r_179 : Sl), v = Sl.v r_179 ∧
∀ (w190 : World), Chg [] w173 w190 →
RunK Try.prog (Builtin.append_ #[24, 24] 24 #[Sl.v r_179, Sl.v (Sl.cut r_6_Kids 5 r_68.toNat r_6_Kids.n r_6_Kids.c)]) w190 [B_14, B_41, B_91] (fun v w202 => ∃ (r_208 : Sl), v = Sl.v r_208 ∧
∀ (w233 : World), Chg [B_91] w202 w233 →
∃ (r_242 : Int), (∀ w' : World, Ext w233 w' → Calls Try.prog 24 #[.agg #[.int .i64 r_6_Kind, .string (Bs r_6_Name), .string (Bs r_6_Text), Sl.v r_6_Attrs, Sl.v r_6_Kids], .agg #[.int .i64 r_81_Kind, .string (Bs r_81_Name), .string (Bs r_81_Text), Sl.v r_81_Attrs, Sl.v r_208]] w' (Ret fun v w'' => Ext w' w'' ∧ v = .int .i64 r_242)) ∧
∃ (r_247 : Int), (∀ w' : World, Ext w233 w' → Calls Try.prog 24 #[.agg #[.int .i64 r_81_Kind, .string (Bs r_81_Name), .string (Bs r_81_Text), Sl.v r_81_Attrs, Sl.v r_208], .agg #[.int .i64 r_6_Kind, .string (Bs r_6_Name), .string (Bs r_6_Text), Sl.v r_6_Attrs, Sl.v r_6_Kids]] w' (Ret fun v w'' => Ext w' w'' ∧ v = .int .i64 r_247)) ∧
∀ (w267 : World), Chg [] w233 w267 →
∃ (r_276 : Bool), (∀ w' : World, Ext w267 w' → Calls Try.prog 25 #[.agg #[.int .i64 r_6_Kind, .string (Bs r_6_Name), .string (Bs r_6_Text), Sl.v r_6_Attrs, Sl.v r_6_Kids], .agg #[.int .i64 r_32_Kind, .string (Bs r_32_Name), .string (Bs r_32_Text), Sl.v r_32_Attrs, Sl.v r_32_Kids]] w' (Ret fun v w'' => Ext w' w'' ∧ v = .bool r_276)) ∧
∃ (r_285 : Int), (((r_276 = true)) → ∀ w' : World, Ext w267 w' → Calls Try.prog 24 #[.agg #[.int .i64 r_6_Kind, .string (Bs r_6_Name), .string (Bs r_6_Text), Sl.v r_6_Attrs, Sl.v r_6_Kids], .agg #[.int .i64 r_32_Kind, .string (Bs r_32_Name), .string (Bs r_32_Text), Sl.v r_32_Attrs, Sl.v r_32_Kids]] w' (Ret fun v w'' => Ext w' w'' ∧ v = .int .i64 r_285)) ∧
∃ (r_298 : Bool), ((((r_276 = true) ∧ (r_285 = 0))) → ∀ w' : World, Ext w267 w' → Calls Try.prog 25 #[.agg #[.int .i64 r_6_Kind, .string (Bs r_6_Name), .string (Bs r_6_Text), Sl.v r_6_Attrs, Sl.v r_6_Kids], .agg #[.int .i64 r_81_Kind, .string (Bs r_81_Name), .string (Bs r_81_Text), Sl.v r_81_Attrs, Sl.v r_208]] w' (Ret fun v w'' => Ext w' w'' ∧ v = .bool r_298)) ∧
(((((r_276 = true) ∧ (r_285 = 0)) ∧ (r_298 = false))) → I64 (0 - r_247)) ∧
∃ (r_327 : Int), (((((((r_276 = true) ∧ (r_285 = 0)) ∧ (r_298 = false)) ∧ (r_242 = (0 - r_247))) ∧ (r_242 ≠ 0))) → ∀ w' : World, Ext w267 w' → Calls Try.prog 21 #[.agg #[.int .i64 r_81_Kind, .string (Bs r_81_Name), .string (Bs r_81_Text), Sl.v r_81_Attrs, Sl.v r_208]] w' (Ret fun v w'' => Ext w' w'' ∧ v = .int .i64 r_327)) ∧
∃ (r_333 : Int), (((((((r_276 = true) ∧ (r_285 = 0)) ∧ (r_298 = false)) ∧ (r_242 = (0 - r_247))) ∧ (r_242 ≠ 0))) → ∀ w' : World, Ext w267 w' → Calls Try.prog 21 #[.agg #[.int .i64 r_6_Kind, .string (Bs r_6_Name), .string (Bs r_6_Text), Sl.v r_6_Attrs, Sl.v r_6_Kids]] w' (Ret fun v w'' => Ext w' w'' ∧ v = .int .i64 r_333)) ∧
(((((((r_276 = true) ∧ (r_285 = 0)) ∧ (r_298 = false)) ∧ (r_242 = (0 - r_247))) ∧ (r_242 ≠ 0))) → I64 (r_333 + 1)) ∧
∃ (r_347 : Bool), ((((((((r_276 = true) ∧ (r_285 = 0)) ∧ (r_298 = false)) ∧ (r_242 = (0 - r_247))) ∧ (r_242 ≠ 0)) ∧ (r_327 = (r_333 + 1)))) → ∀ w' : World, Ext w267 w' → Calls Try.prog 15 #[] w' (Ret fun v w'' => Ext w' w'' ∧ v = .bool r_347)) ∧
∀ (w354 : World), Chg [] w267 w354 →
R (.bool ((((((r_276 && (decide (r_285 = 0))) && (!r_298)) && (decide (r_242 = (0 - r_247)))) && (decide (r_242 ≠ 0))) && (decide (r_327 = (r_333 + 1)))) && r_347)) w354))))))
set_option maxHeartbeats 1000000 in
set_option maxRecDepth 10000 in
theorem law05_TreeTurned.ok (l_1 : Sl) (at_2 : Int) {R : Value → World → Prop} {w : World} (ht0 : law05_TreeTurned.vc l_1 at_2 R w) : Calls Try.prog 9 #[Sl.v l_1, .int .i64 at_2] w (Ret R) := by
  refine enter [Sl.v l_1, .int .i64 at_2] Try.func9 rfl Try.ntmps9 rfl ?_
  intro a0 hA0
  unfold law05_TreeTurned.vc at ht0
  refine wp_seq ?_
  refine wp_region_lit ?_
  refine sq (opk_val hA0 rfl (r_assign rfl) fun a3 hA3 _ => ?_)
  refine sq_end ?_
  have hA4 := hA3.keep [(0, Sl.v l_1), (1, .int .i64 at_2)] ⟨rfl, rfl, trivial⟩
  refine then_normal ?_
  refine wp_seq ?_
  refine wp_region_lit ?_
  refine sq (opk_val hA4 rfl (r_move (hA4.get rfl)) fun a5 hA5 _ => ?_)
  refine sq (opk_call hA5 rfl (r_call (args := #[Sl.v l_1]) Try.func11 (by decide) rfl (map_arr (ml_cons (hA5.get rfl) ml_nil)) rfl) ht0 fun a7 v13 w8 hA7 _ hn10 hz11 hK12 => ?_)
  obtain ⟨r_6_Kind, r_6_Name, r_6_Text, r_6_Attrs, r_6_Kids, rfl, ht9⟩ := hK12
  refine sq (opk_new (fun B => .pointer (some ⟨B, 0, none⟩)) hA7 rfl (r_alloc (cs := [.int .i64 0, .string (Bs ([] : Str)), .string (Bs ([] : Str)), Sl.v Sl.nil, Sl.v Sl.nil]) ti_26 rfl) fun a16 w15 B_14 hE17 hN18 hB19 hA16 _ => ?_)
  have hN20 : New w8 B_14 w15 := hN18
  have hC21 : Chg [] w8 w15 := hE17
  refine sq (opk_store hA16 hB19 (r_store (vs := [.int .i64 r_6_Kind, .string (Bs r_6_Name), .string (Bs r_6_Text), Sl.v r_6_Attrs, Sl.v r_6_Kids]) (hA16.get rfl) (hA16.get rfl) rfl ti_26 hB19 rfl (ones_all [.int .i64 r_6_Kind, .string (Bs r_6_Name), .string (Bs r_6_Text), Sl.v r_6_Attrs, Sl.v r_6_Kids] rfl)) fun a23 w22 hS24 hB25 hA23 => ?_)
  have hB26 : Box w22 B_14 26 [.int .i64 r_6_Kind, .string (Bs r_6_Name), .string (Bs r_6_Text), Sl.v r_6_Attrs, Sl.v r_6_Kids] := hB25
  have hC27 := hC21.storeNew hN20 hS24
  have hN28 := hN20.up hS24.size
  refine sq_end ?_
  have hA29 := hA23.keep [(1, .int .i64 at_2), (5, .pointer (some ⟨B_14, 0, none⟩))] ⟨rfl, rfl, trivial⟩
  refine then_normal ?_
  refine wp_seq ?_
  refine wp_region_lit ?_
  refine sq (opk_val hA29 rfl (r_loadN (cs := [.int .i64 r_6_Kind, .string (Bs r_6_Name), .string (Bs r_6_Text), Sl.v r_6_Attrs, Sl.v r_6_Kids]) Try.underlying26 rfl ti_26 (hA29.get rfl) (hB26.part 0 _ rfl)) fun a30 hA30 _ => ?_)
  have ht31 := ht9 w22 B_14 hN28  hC27
  refine sq (opk_call hA30 rfl (r_call (args := #[.agg #[.int .i64 r_6_Kind, .string (Bs r_6_Name), .string (Bs r_6_Text), Sl.v r_6_Attrs, Sl.v r_6_Kids]]) Try.func13 (by decide) rfl (map_arr (ml_cons (hA30.get rfl) ml_nil)) rfl) ht31 fun a33 v39 w34 hA33 _ hn36 hz37 hK38 => ?_)
  obtain ⟨r_32_Kind, r_32_Name, r_32_Text, r_32_Attrs, r_32_Kids, rfl, ht35⟩ := hK38
  have hB40 := hB26.kept hn36 (.head _)
  refine sq (opk_new (fun B => .pointer (some ⟨B, 0, none⟩)) hA33 rfl (r_alloc (cs := [.int .i64 0, .string (Bs ([] : Str)), .string (Bs ([] : Str)), Sl.v Sl.nil, Sl.v Sl.nil]) ti_26 rfl) fun a43 w42 B_41 hE44 hN45 hB46 hA43 _ => ?_)
  have hne47 : B_14 ≠ B_41 := Nat.ne_of_lt (Nat.lt_of_lt_of_le hB40.lt hN45.ge)
  have hN48 : New w34 B_41 w42 := hN45
  have hB49 := hB40.ext hE44
  have hC50 : Chg [] w34 w42 := hE44
  refine sq (opk_store hA43 hB46 (r_store (vs := [.int .i64 r_32_Kind, .string (Bs r_32_Name), .string (Bs r_32_Text), Sl.v r_32_Attrs, Sl.v r_32_Kids]) (hA43.get rfl) (hA43.get rfl) rfl ti_26 hB46 rfl (ones_all [.int .i64 r_32_Kind, .string (Bs r_32_Name), .string (Bs r_32_Text), Sl.v r_32_Attrs, Sl.v r_32_Kids] rfl)) fun a52 w51 hS53 hB54 hA52 => ?_)
  have hB55 : Box w51 B_41 26 [.int .i64 r_32_Kind, .string (Bs r_32_Name), .string (Bs r_32_Text), Sl.v r_32_Attrs, Sl.v r_32_Kids] := hB54
  have hB56 := hB49.keep hS53 (by simpa using hne47)
  have hC57 := hC50.storeNew hN48 hS53
  have hN58 := hN48.up hS53.size
  refine sq_end ?_
  have hA59 := hA52.keep [(1, .int .i64 at_2), (5, .pointer (some ⟨B_14, 0, none⟩)), (6, .pointer (some ⟨B_41, 0, none⟩))] ⟨rfl, rfl, rfl, trivial⟩
  refine then_normal ?_
  refine wp_seq ?_
  refine wp_region_lit ?_
  refine sq (opk_val hA59 rfl (r_move (hA59.get rfl)) fun a60 hA60 _ => ?_)
  refine sq (opk_val hA60 rfl (r_fieldAddr (hA60.get rfl) Try.underlying26 rfl ti_24 (by decide)) fun a61 hA61 _ => ?_)
  refine sq (opk_val hA61 rfl (r_load1 Try.underlying24 rfl (hA61.get rfl) (hB55.cell 4 _ rfl)) fun a62 hA62 _ => ?_)
  refine sq (opk_val hA62 rfl (r_len (hA62.get rfl) Try.underlying24) fun a63 hA63 _ => ?_)
  obtain ⟨hS65, ht66⟩ := ht35
  refine sq (opk_val hA63 rfl (r_addI (hA63.get rfl) rfl hS65) fun a64 hA64 _ => ?_)
  have ht67 := ht66 w51 B_41 hN58  hC57
  refine sq (opk_call hA64 rfl (r_call (args := #[.int .i64 at_2, .int .i64 ((r_32_Kids.n : Int) + 1)]) Try.func14 (by decide) rfl (map_arr (ml_cons (hA64.get rfl) (ml_cons (hA64.get rfl) ml_nil))) rfl) ht67 fun a69 v75 w70 hA69 _ hn72 hz73 hK74 => ?_)
  obtain ⟨r_68, rfl, ht71⟩ := hK74
  have hB76 := hB56.kept hn72 (.head _)
  have hB77 := hB55.kept hn72 (.tail _ (.head _))
  refine sq (opk_val hA69 rfl (r_assign (hA69.get rfl)) fun a78 hA78 _ => ?_)
  refine sq_end ?_
  have hA79 := hA78.keep [(5, .pointer (some ⟨B_14, 0, none⟩)), (6, .pointer (some ⟨B_41, 0, none⟩)), (7, .int .i64 r_68)] ⟨rfl, rfl, rfl, trivial⟩
  refine then_normal ?_
  refine wp_seq ?_
  refine wp_region_lit ?_
  refine sq (opk_val hA79 rfl (r_loadN (cs := [.int .i64 r_6_Kind, .string (Bs r_6_Name), .string (Bs r_6_Text), Sl.v r_6_Attrs, Sl.v r_6_Kids]) Try.underlying26 rfl ti_26 (hA79.get rfl) (hB76.part 0 _ rfl)) fun a80 hA80 _ => ?_)
  refine sq (opk_call hA80 rfl (r_call (args := #[.agg #[.int .i64 r_6_Kind, .string (Bs r_6_Name), .string (Bs r_6_Text), Sl.v r_6_Attrs, Sl.v r_6_Kids]]) Try.func13 (by decide) rfl (map_arr (ml_cons (hA80.get rfl) ml_nil)) rfl) ht71 fun a82 v88 w83 hA82 _ hn85 hz86 hK87 => ?_)
  obtain ⟨r_81_Kind, r_81_Name, r_81_Text, r_81_Attrs, r_81_Kids, rfl, ht84⟩ := hK87
  have hB89 := hB76.kept hn85 (.head _)
  have hB90 := hB77.kept hn85 (.tail _ (.head _))
  refine sq (opk_new (fun B => .pointer (some ⟨B, 0, none⟩)) hA82 rfl (r_alloc (cs := [.int .i64 0, .string (Bs ([] : Str)), .string (Bs ([] : Str)), Sl.v Sl.nil, Sl.v Sl.nil]) ti_26 rfl) fun a93 w92 B_91 hE94 hN95 hB96 hA93 _ => ?_)
  have hne97 : B_14 ≠ B_91 := Nat.ne_of_lt (Nat.lt_of_lt_of_le hB89.lt hN95.ge)
  have hne98 : B_41 ≠ B_91 := Nat.ne_of_lt (Nat.lt_of_lt_of_le hB90.lt hN95.ge)
  have hN99 : New w83 B_91 w92 := hN95
  have hB100 := hB89.ext hE94
  have hB101 := hB90.ext hE94
  have hC102 : Chg [] w83 w92 := hE94
  refine sq (opk_store hA93 hB96 (r_store (vs := [.int .i64 r_81_Kind, .string (Bs r_81_Name), .string (Bs r_81_Text), Sl.v r_81_Attrs, Sl.v r_81_Kids]) (hA93.get rfl) (hA93.get rfl) rfl ti_26 hB96 rfl (ones_all [.int .i64 r_81_Kind, .string (Bs r_81_Name), .string (Bs r_81_Text), Sl.v r_81_Attrs, Sl.v r_81_Kids] rfl)) fun a104 w103 hS105 hB106 hA104 => ?_)
  have hB107 : Box w103 B_91 26 [.int .i64 r_81_Kind, .string (Bs r_81_Name), .string (Bs r_81_Text), Sl.v r_81_Attrs, Sl.v r_81_Kids] := hB106
  have hB108 := hB100.keep hS105 (by simpa using hne97)
  have hB109 := hB101.keep hS105 (by simpa using hne98)
  have hC110 := hC102.storeNew hN99 hS105
  have hN111 := hN99.up hS105.size
  refine sq_end ?_
  have hA112 := hA104.keep [(5, .pointer (some ⟨B_14, 0, none⟩)), (6, .pointer (some ⟨B_41, 0, none⟩)), (7, .int .i64 r_68), (8, .pointer (some ⟨B_91, 0, none⟩))] ⟨rfl, rfl, rfl, rfl, trivial⟩
  refine then_normal ?_
  refine wp_seq ?_
  refine draw' (by kernel_rfl) fun w113 hE114 => ?_
  have hB115 := hB108.ext hE114
  have hB116 := hB109.ext hE114
  have hB117 := hB107.ext hE114
  have hC118 := hC110.more hE114
  have hN119 := hN111.up hE114.size
  have ht120 := ht84 w113 B_91 hN119  hC118
  obtain ⟨hS121, ht122⟩ := ht120
  obtain ⟨hS123, ht124⟩ := ht122
  refine startF (D := [[], [0], [], [0, 1, 2], [0, 1, 2, 3], [], [5], [0, 1, 2, 3, 4, 5, 6], [], [8], [], [8, 9, 10], [0, 1, 2, 3, 4, 5, 6, 7, 8, 9, 10, 11], [0, 1, 2, 3, 4, 5, 6, 7, 8, 9, 10, 11, 12], [0, 1, 2, 3, 4, 5, 6, 7, 8, 9, 10, 11, 12, 13]]) (Fs := [0, 1, 2, 3, 5, 8, 9, 10, 11]) (Ef := [(0, fun v _ => v = .pointer (some ⟨B_14, 4, none⟩)), (1, fun v _ => v = Sl.v r_6_Kids), (2, fun v _ => v = .int .i64 r_68), (3, fun v _ => v = Sl.v (Sl.cut r_6_Kids 5 0 r_68.toNat r_6_Kids.c)), (5, fun v _ => v = .agg #[.int .i64 3, .string (Bs ([] : Str)), .string (Bs ([104, 111, 112] : Str)), Sl.v Sl.nil, Sl.v Sl.nil]), (8, fun v _ => v = .pointer (some ⟨B_14, 4, none⟩)), (9, fun v _ => v = Sl.v r_6_Kids), (10, fun v _ => v = .int .i64 r_68), (11, fun v _ => v = Sl.v (Sl.cut r_6_Kids 5 r_68.toNat r_6_Kids.n r_6_Kids.c))]) (by kernel_rfl) ?_
  obtain ⟨V_127, hst128, hc129, ht130⟩ := ht124
  refine parF (D := [[], [0], [], [0, 1, 2], [0, 1, 2, 3], [], [5], [0, 1, 2, 3, 4, 5, 6], [], [8], [], [8, 9, 10], [0, 1, 2, 3, 4, 5, 6, 7, 8, 9, 10, 11], [0, 1, 2, 3, 4, 5, 6, 7, 8, 9, 10, 11, 12], [0, 1, 2, 3, 4, 5, 6, 7, 8, 9, 10, 11, 12, 13]]) (S := [4, 6]) (F := []) (KE := [4, 6]) (E := [(4, fun v w' => ∃ r_126 : Sl, V_127 r_126 w' ∧ v = Sl.v r_126), (6, fun v w' => ∃ B_132 : Nat, w113.heap.size ≤ B_132 ∧ Box w' B_132 26 [.int .i64 3, .string (Bs ([] : Str)), .string (Bs ([104, 111, 112] : Str)), Sl.v Sl.nil, Sl.v Sl.nil] ∧ v = Sl.v (Sl.mk (some ⟨B_132, 0, none⟩) 1 1))]) hA112 rfl (by kernel_rfl) ⟨fun _ _ _ hE ⟨r_126, h0_, e⟩ => ⟨r_126, (hst128 r_126 _ _ hE h0_), e⟩, fun _ _ _ hE ⟨B_132, h0_, h1_, e⟩ => ⟨B_132, h0_, (h1_.ext hE), e⟩, fun _ _ _ _ h => by first | exact h | (change _ = _ at h; change _ = _; exact h), fun _ _ _ _ h => by first | exact h | (change _ = _ at h; change _ = _; exact h), fun _ _ _ _ h => by first | exact h | (change _ = _ at h; change _ = _; exact h), fun _ _ _ _ h => by first | exact h | (change _ = _ at h; change _ = _; exact h), fun _ _ _ _ h => by first | exact h | (change _ = _ at h; change _ = _; exact h), fun _ _ _ _ h => by first | exact h | (change _ = _ at h; change _ = _; exact h), fun _ _ _ _ h => by first | exact h | (change _ = _ at h; change _ = _; exact h), fun _ _ _ _ h => by first | exact h | (change _ = _ at h; change _ = _; exact h), fun _ _ _ _ h => by first | exact h | (change _ = _ at h; change _ = _; exact h), trivial⟩ ⟨?_, ?_, ?_, ?_, ?_, ?_, ?_, ?_, ?_, ?_, ?_, trivial⟩ ?_
  · intro a w hT
    have hAp := hT.ag hA112 [] trivial (by kernel_rfl)
    have e125 : a.tmps.getD 26 undef = Sl.v (Sl.cut r_6_Kids 5 0 r_68.toNat r_6_Kids.c) := hT.vals 3 rfl 26 rfl
    have hAp := hAp.add e125
    exact opk_runX hAp rfl (fun _ _ hr => r_append rfl (hAp.get rfl) hr) (hc129 w hT.chg) fun _ _ _ _ e ⟨hE, r_126, he, hV⟩ => ⟨_, e, hE, fun _ => ⟨r_126, hV, he⟩⟩
  · intro a w hT
    have hAp := hT.ag hA112 [] trivial (by kernel_rfl)
    have e131 : a.tmps.getD 28 undef = .agg #[.int .i64 3, .string (Bs ([] : Str)), .string (Bs ([104, 111, 112] : Str)), Sl.v Sl.nil, Sl.v Sl.nil] := hT.vals 5 rfl 28 rfl
    have hAp := hAp.add e131
    exact opk_new (fun B => .slice (some ⟨B, 0, none⟩) 1 1) hAp rfl (r_buildSlice (vs := #[(0, .agg #[.int .i64 3, .string (Bs ([] : Str)), .string (Bs ([104, 111, 112] : Str)), Sl.v Sl.nil, Sl.v Sl.nil])]) (cs := [.int .i64 3, .string (Bs ([] : Str)), .string (Bs ([104, 111, 112] : Str)), Sl.v Sl.nil, Sl.v Sl.nil]) (map_arr2 (ml2_cons (hAp.get rfl) (ml2_nil))) Try.underlying24 ti_26 rfl rfl (by kernel_rfl)) fun _ w133 B_132 hE134 hN135 hB136 _ e => ⟨_, e, hE134, fun _ => ⟨B_132, Nat.le_trans hT.chg.size hN135.ge, hB136, rfl⟩⟩
  · intro a w hT
    have hAp := hT.ag hA112 [(5, .pointer (some ⟨B_14, 0, none⟩))] ⟨rfl, trivial⟩ (by kernel_rfl)
    exact opk_val hAp rfl (r_fieldAddr (hAp.get rfl) Try.underlying26 rfl ti_24 (by decide)) fun _ _ e => ⟨_, e, Chg.refl _ _, fun _ => Eq.refl _⟩
  · intro a w hT
    have hAp := hT.ag hA112 [] trivial (by kernel_rfl)
    have e137 : a.tmps.getD 23 undef = .pointer (some ⟨B_14, 4, none⟩) := hT.vals 0 rfl 23 rfl
    have hAp := hAp.add e137
    exact opk_val hAp rfl (r_load1 Try.underlying24 rfl (hAp.get rfl) ((hB115.ext hT.chg).cell 4 _ rfl)) fun _ _ e => ⟨_, e, Chg.refl _ _, fun _ => Eq.refl _⟩
  · intro a w hT
    have hAp := hT.ag hA112 [(7, .int .i64 r_68)] ⟨rfl, trivial⟩ (by kernel_rfl)
    exact opk_val hAp rfl (r_move (hAp.get rfl)) fun _ _ e => ⟨_, e, Chg.refl _ _, fun _ => Eq.refl _⟩
  · intro a w hT
    have hAp := hT.ag hA112 [] trivial (by kernel_rfl)
    have e138 : a.tmps.getD 24 undef = Sl.v r_6_Kids := hT.vals 1 rfl 24 rfl
    have hAp := hAp.add e138
    have e139 : a.tmps.getD 25 undef = .int .i64 r_68 := hT.vals 2 rfl 25 rfl
    have hAp := hAp.add e139
    exact opk_val hAp rfl (r_sliceH (hAp.get rfl) (hAp.get rfl) Try.underlying24 ti_26 hS121) fun _ _ e => ⟨_, e, Chg.refl _ _, fun _ => Eq.refl _⟩
  · intro a w hT
    have hAp := hT.ag hA112 [] trivial (by kernel_rfl)
    exact opk_val hAp rfl (r_build (vs := #[(0, .int .i64 3), (2, .string (Bs ([104, 111, 112] : Str)))]) (cells := #[.int .i64 3, .string (Bs ([] : Str)), .string (Bs ([104, 111, 112] : Str)), Sl.v Sl.nil, Sl.v Sl.nil]) (map_arr2 (ml2_cons rfl (ml2_cons rfl (ml2_nil)))) ti_26 Try.underlying26 pl_26 (by kernel_rfl)) fun _ _ e => ⟨_, e, Chg.refl _ _, fun _ => Eq.refl _⟩
  · intro a w hT
    have hAp := hT.ag hA112 [(5, .pointer (some ⟨B_14, 0, none⟩))] ⟨rfl, trivial⟩ (by kernel_rfl)
    exact opk_val hAp rfl (r_fieldAddr (hAp.get rfl) Try.underlying26 rfl ti_24 (by decide)) fun _ _ e => ⟨_, e, Chg.refl _ _, fun _ => Eq.refl _⟩
  · intro a w hT
    have hAp := hT.ag hA112 [] trivial (by kernel_rfl)
    have e140 : a.tmps.getD 31 undef = .pointer (some ⟨B_14, 4, none⟩) := hT.vals 8 rfl 31 rfl
    have hAp := hAp.add e140
    exact opk_val hAp rfl (r_load1 Try.underlying24 rfl (hAp.get rfl) ((hB115.ext hT.chg).cell 4 _ rfl)) fun _ _ e => ⟨_, e, Chg.refl _ _, fun _ => Eq.refl _⟩
  · intro a w hT
    have hAp := hT.ag hA112 [(7, .int .i64 r_68)] ⟨rfl, trivial⟩ (by kernel_rfl)
    exact opk_val hAp rfl (r_move (hAp.get rfl)) fun _ _ e => ⟨_, e, Chg.refl _ _, fun _ => Eq.refl _⟩
  · intro a w hT
    have hAp := hT.ag hA112 [] trivial (by kernel_rfl)
    have e141 : a.tmps.getD 32 undef = Sl.v r_6_Kids := hT.vals 9 rfl 32 rfl
    have hAp := hAp.add e141
    have e142 : a.tmps.getD 33 undef = .int .i64 r_68 := hT.vals 10 rfl 33 rfl
    have hAp := hAp.add e142
    exact opk_val hAp rfl (r_sliceL (hAp.get rfl) (hAp.get rfl) Try.underlying24 ti_26 hS123) fun _ _ e => ⟨_, e, Chg.refl _ _, fun _ => Eq.refl _⟩
  · intro a143 w144 hE145 hag146 hv147
    have hA143 := hag146 [(5, .pointer (some ⟨B_14, 0, none⟩)), (6, .pointer (some ⟨B_41, 0, none⟩)), (7, .int .i64 r_68), (8, .pointer (some ⟨B_91, 0, none⟩))] ⟨rfl, rfl, rfl, rfl, trivial⟩ (by kernel_rfl)
    obtain ⟨r_126, hf151, e149⟩ := hv147 4 rfl 27 rfl
    have hA150 := hA143.add e149
    obtain ⟨B_132, hf154, hf155, e152⟩ := hv147 6 rfl 29 rfl
    have hA153 := hA150.add e152
    have hB156 := hB115.ext hE145
    have hB157 := hB116.ext hE145
    have hB158 := hB117.ext hE145
    have hC159 : Chg [] w113 w144 := hE145
    have ht160 := ht130 w144 r_126 B_132 hE145 hf151 hf154 hf155
    have hne161 : B_14 ≠ B_132 := Nat.ne_of_lt (Nat.lt_of_lt_of_le hB115.lt hf154)
    have hne162 : B_41 ≠ B_132 := Nat.ne_of_lt (Nat.lt_of_lt_of_le hB116.lt hf154)
    have hne163 : B_91 ≠ B_132 := Nat.ne_of_lt (Nat.lt_of_lt_of_le hB117.lt hf154)
    refine oneF (c := 7) hA153 rfl (by kernel_rfl) (constF ⟨fun _ _ _ h => by first | exact h | (change _ = _ at h; change _ = _; exact h), fun _ _ _ h => by first | exact h | (change _ = _ at h; change _ = _; exact h), fun _ _ _ h => by first | exact h | (change _ = _ at h; change _ = _; exact h), fun _ _ _ h => by first | exact h | (change _ = _ at h; change _ = _; exact h), fun _ _ _ h => by first | exact h | (change _ = _ at h; change _ = _; exact h), fun _ _ _ h => by first | exact h | (change _ = _ at h; change _ = _; exact h), fun _ _ _ h => by first | exact h | (change _ = _ at h; change _ = _; exact h), fun _ _ _ h => by first | exact h | (change _ = _ at h; change _ = _; exact h), fun _ _ _ h => by first | exact h | (change _ = _ at h; change _ = _; exact h), trivial⟩) ⟨?_, ?_, ?_, ?_, ?_, ?_, ?_, ?_, ?_, trivial⟩ ?_
    · intro a hT
      have hAp := hT.ag hA153 [(5, .pointer (some ⟨B_14, 0, none⟩))] ⟨rfl, trivial⟩ (by kernel_rfl)
      exact opk_val hAp rfl (r_fieldAddr (hAp.get rfl) Try.underlying26 rfl ti_24 (by decide)) fun _ _ e => ⟨_, e, rfl, fun _ => Eq.refl _⟩
    · intro a hT
      have hAp := hT.ag hA153 [] trivial (by kernel_rfl)
      have e164 : a.tmps.getD 23 undef = .pointer (some ⟨B_14, 4, none⟩) := hT.vals 0 rfl 23 rfl
      have hAp := hAp.add e164
      exact opk_val hAp rfl (r_load1 Try.underlying24 rfl (hAp.get rfl) ((hB156.ext hT.chg).cell 4 _ rfl)) fun _ _ e => ⟨_, e, rfl, fun _ => Eq.refl _⟩
    · intro a hT
      have hAp := hT.ag hA153 [(7, .int .i64 r_68)] ⟨rfl, trivial⟩ (by kernel_rfl)
      exact opk_val hAp rfl (r_move (hAp.get rfl)) fun _ _ e => ⟨_, e, rfl, fun _ => Eq.refl _⟩
    · intro a hT
      have hAp := hT.ag hA153 [] trivial (by kernel_rfl)
      have e165 : a.tmps.getD 24 undef = Sl.v r_6_Kids := hT.vals 1 rfl 24 rfl
      have hAp := hAp.add e165
      have e166 : a.tmps.getD 25 undef = .int .i64 r_68 := hT.vals 2 rfl 25 rfl
      have hAp := hAp.add e166
      exact opk_val hAp rfl (r_sliceH (hAp.get rfl) (hAp.get rfl) Try.underlying24 ti_26 hS121) fun _ _ e => ⟨_, e, rfl, fun _ => Eq.refl _⟩
    · intro a hT
      have hAp := hT.ag hA153 [] trivial (by kernel_rfl)
      exact opk_val hAp rfl (r_build (vs := #[(0, .int .i64 3), (2, .string (Bs ([104, 111, 112] : Str)))]) (cells := #[.int .i64 3, .string (Bs ([] : Str)), .string (Bs ([104, 111, 112] : Str)), Sl.v Sl.nil, Sl.v Sl.nil]) (map_arr2 (ml2_cons rfl (ml2_cons rfl (ml2_nil)))) ti_26 Try.underlying26 pl_26 (by kernel_rfl)) fun _ _ e => ⟨_, e, rfl, fun _ => Eq.refl _⟩
    · intro a hT
      have hAp := hT.ag hA153 [(5, .pointer (some ⟨B_14, 0, none⟩))] ⟨rfl, trivial⟩ (by kernel_rfl)
      exact opk_val hAp rfl (r_fieldAddr (hAp.get rfl) Try.underlying26 rfl ti_24 (by decide)) fun _ _ e => ⟨_, e, rfl, fun _ => Eq.refl _⟩
    · intro a hT
      have hAp := hT.ag hA153 [] trivial (by kernel_rfl)
      have e167 : a.tmps.getD 31 undef = .pointer (some ⟨B_14, 4, none⟩) := hT.vals 8 rfl 31 rfl
      have hAp := hAp.add e167
      exact opk_val hAp rfl (r_load1 Try.underlying24 rfl (hAp.get rfl) ((hB156.ext hT.chg).cell 4 _ rfl)) fun _ _ e => ⟨_, e, rfl, fun _ => Eq.refl _⟩
    · intro a hT
      have hAp := hT.ag hA153 [(7, .int .i64 r_68)] ⟨rfl, trivial⟩ (by kernel_rfl)
      exact opk_val hAp rfl (r_move (hAp.get rfl)) fun _ _ e => ⟨_, e, rfl, fun _ => Eq.refl _⟩
    · intro a hT
      have hAp := hT.ag hA153 [] trivial (by kernel_rfl)
      have e168 : a.tmps.getD 32 undef = Sl.v r_6_Kids := hT.vals 9 rfl 32 rfl
      have hAp := hAp.add e168
      have e169 : a.tmps.getD 33 undef = .int .i64 r_68 := hT.vals 10 rfl 33 rfl
      have hAp := hAp.add e169
      exact opk_val hAp rfl (r_sliceL (hAp.get rfl) (hAp.get rfl) Try.underlying24 ti_26 hS123) fun _ _ e => ⟨_, e, rfl, fun _ => Eq.refl _⟩
    · intro a170 hT
      have hA170 := hT.ag hA153 [(5, .pointer (some ⟨B_14, 0, none⟩)), (6, .pointer (some ⟨B_41, 0, none⟩)), (7, .int .i64 r_68), (8, .pointer (some ⟨B_91, 0, none⟩)), (27, Sl.v r_126), (29, Sl.v (Sl.mk (some ⟨B_132, 0, none⟩) 1 1))] ⟨rfl, rfl, rfl, rfl, rfl, rfl, trivial⟩ (by kernel_rfl)
      have ht171 := ht160 hf155
      refine (opk_run hA170 rfl (fun _ _ hr => r_append (hA170.get rfl) (hA170.get rfl) hr) ht171 fun a172 v178 w173 hA172 heq367 hn175 hz176 hK177 => ?_)
      refine ⟨_, heq367, ?_⟩
      obtain ⟨r_179, rfl, ht174⟩ := hK177
      have hB180 := hB156.kept hn175 (.head _)
      have hB181 := hB157.kept hn175 (.tail _ (.head _))
      have hB182 := hB158.kept hn175 (.tail _ (.tail _ (.head _)))
      refine joinF hA172 (by kernel_rfl) ⟨fun _ _ _ _ h => by first | exact h | (change _ = _ at h; change _ = _; exact h), fun _ _ _ _ h => by first | exact h | (change _ = _ at h; change _ = _; exact h), fun _ _ _ _ h => by first | exact h | (change _ = _ at h; change _ = _; exact h), fun _ _ _ _ h => by first | exact h | (change _ = _ at h; change _ = _; exact h), fun _ _ _ _ h => by first | exact h | (change _ = _ at h; change _ = _; exact h), fun _ _ _ _ h => by first | exact h | (change _ = _ at h; change _ = _; exact h), fun _ _ _ _ h => by first | exact h | (change _ = _ at h; change _ = _; exact h), fun _ _ _ _ h => by first | exact h | (change _ = _ at h; change _ = _; exact h), fun _ _ _ _ h => by first | exact h | (change _ = _ at h; change _ = _; exact h), trivial⟩ ⟨?_, ?_, ?_, ?_, ?_, ?_, ?_, ?_, ?_, trivial⟩ ?_
      · intro a w hT
        have hAp := hT.ag hA172 [(5, .pointer (some ⟨B_14, 0, none⟩))] ⟨rfl, trivial⟩ (by kernel_rfl)
        exact opk_val hAp rfl (r_fieldAddr (hAp.get rfl) Try.underlying26 rfl ti_24 (by decide)) fun _ _ e => ⟨_, e, Chg.refl _ _, fun _ => Eq.refl _⟩
      · intro a w hT
        have hAp := hT.ag hA172 [] trivial (by kernel_rfl)
        have e183 : a.tmps.getD 23 undef = .pointer (some ⟨B_14, 4, none⟩) := hT.vals 0 rfl 23 rfl
        have hAp := hAp.add e183
        exact opk_val hAp rfl (r_load1 Try.underlying24 rfl (hAp.get rfl) ((hB180.ext hT.chg).cell 4 _ rfl)) fun _ _ e => ⟨_, e, Chg.refl _ _, fun _ => Eq.refl _⟩
      · intro a w hT
        have hAp := hT.ag hA172 [(7, .int .i64 r_68)] ⟨rfl, trivial⟩ (by kernel_rfl)
        exact opk_val hAp rfl (r_move (hAp.get rfl)) fun _ _ e => ⟨_, e, Chg.refl _ _, fun _ => Eq.refl _⟩
      · intro a w hT
        have hAp := hT.ag hA172 [] trivial (by kernel_rfl)
        have e184 : a.tmps.getD 24 undef = Sl.v r_6_Kids := hT.vals 1 rfl 24 rfl
        have hAp := hAp.add e184
        have e185 : a.tmps.getD 25 undef = .int .i64 r_68 := hT.vals 2 rfl 25 rfl
        have hAp := hAp.add e185
        exact opk_val hAp rfl (r_sliceH (hAp.get rfl) (hAp.get rfl) Try.underlying24 ti_26 hS121) fun _ _ e => ⟨_, e, Chg.refl _ _, fun _ => Eq.refl _⟩
      · intro a w hT
        have hAp := hT.ag hA172 [] trivial (by kernel_rfl)
        exact opk_val hAp rfl (r_build (vs := #[(0, .int .i64 3), (2, .string (Bs ([104, 111, 112] : Str)))]) (cells := #[.int .i64 3, .string (Bs ([] : Str)), .string (Bs ([104, 111, 112] : Str)), Sl.v Sl.nil, Sl.v Sl.nil]) (map_arr2 (ml2_cons rfl (ml2_cons rfl (ml2_nil)))) ti_26 Try.underlying26 pl_26 (by kernel_rfl)) fun _ _ e => ⟨_, e, Chg.refl _ _, fun _ => Eq.refl _⟩
      · intro a w hT
        have hAp := hT.ag hA172 [(5, .pointer (some ⟨B_14, 0, none⟩))] ⟨rfl, trivial⟩ (by kernel_rfl)
        exact opk_val hAp rfl (r_fieldAddr (hAp.get rfl) Try.underlying26 rfl ti_24 (by decide)) fun _ _ e => ⟨_, e, Chg.refl _ _, fun _ => Eq.refl _⟩
      · intro a w hT
        have hAp := hT.ag hA172 [] trivial (by kernel_rfl)
        have e186 : a.tmps.getD 31 undef = .pointer (some ⟨B_14, 4, none⟩) := hT.vals 8 rfl 31 rfl
        have hAp := hAp.add e186
        exact opk_val hAp rfl (r_load1 Try.underlying24 rfl (hAp.get rfl) ((hB180.ext hT.chg).cell 4 _ rfl)) fun _ _ e => ⟨_, e, Chg.refl _ _, fun _ => Eq.refl _⟩
      · intro a w hT
        have hAp := hT.ag hA172 [(7, .int .i64 r_68)] ⟨rfl, trivial⟩ (by kernel_rfl)
        exact opk_val hAp rfl (r_move (hAp.get rfl)) fun _ _ e => ⟨_, e, Chg.refl _ _, fun _ => Eq.refl _⟩
      · intro a w hT
        have hAp := hT.ag hA172 [] trivial (by kernel_rfl)
        have e187 : a.tmps.getD 32 undef = Sl.v r_6_Kids := hT.vals 9 rfl 32 rfl
        have hAp := hAp.add e187
        have e188 : a.tmps.getD 33 undef = .int .i64 r_68 := hT.vals 10 rfl 33 rfl
        have hAp := hAp.add e188
        exact opk_val hAp rfl (r_sliceL (hAp.get rfl) (hAp.get rfl) Try.underlying24 ti_26 hS123) fun _ _ e => ⟨_, e, Chg.refl _ _, fun _ => Eq.refl _⟩
      · intro a189 w190 hE191 hag192 hv193
        have hA189 := hag192 [(5, .pointer (some ⟨B_14, 0, none⟩)), (6, .pointer (some ⟨B_41, 0, none⟩)), (8, .pointer (some ⟨B_91, 0, none⟩)), (30, Sl.v r_179)] ⟨rfl, rfl, rfl, rfl, trivial⟩ (by kernel_rfl)
        have e194 : a189.tmps.getD 34 undef = Sl.v (Sl.cut r_6_Kids 5 r_68.toNat r_6_Kids.n r_6_Kids.c) := hv193 11 rfl 34 rfl
        have hA195 := hA189.add e194
        have hB196 := hB180.ext hE191
        have hB197 := hB181.ext hE191
        have hB198 := hB182.ext hE191
        have hC199 : Chg [] w173 w190 := hE191
        have ht200 := ht174 w190    hC199
        refine one (D := [[], [0], [], [0, 1, 2], [0, 1, 2, 3], [], [5], [0, 1, 2, 3, 4, 5, 6], [], [8], [], [8, 9, 10], [0, 1, 2, 3, 4, 5, 6, 7, 8, 9, 10, 11], [0, 1, 2, 3, 4, 5, 6, 7, 8, 9, 10, 11, 12], [0, 1, 2, 3, 4, 5, 6, 7, 8, 9, 10, 11, 12, 13]]) (i := 12) rfl (by kernel_rfl) (opk_run hA195 rfl (fun _ _ hr => r_append (hA195.get rfl) (hA195.get rfl) hr) ht200 fun a201 v207 w202 hA201 _ hn204 hz205 hK206 => ?_)
        obtain ⟨r_208, rfl, ht203⟩ := hK206
        have hB209 := hB196.kept hn204 (.head _)
        have hB210 := hB197.kept hn204 (.tail _ (.head _))
        have hB211 := hB198.kept hn204 (.tail _ (.tail _ (.head _)))
        refine par (D := [[], [0], [], [0, 1, 2], [0, 1, 2, 3], [], [5], [0, 1, 2, 3, 4, 5, 6], [], [8], [], [8, 9, 10], [0, 1, 2, 3, 4, 5, 6, 7, 8, 9, 10, 11], [0, 1, 2, 3, 4, 5, 6, 7, 8, 9, 10, 11, 12], [0, 1, 2, 3, 4, 5, 6, 7, 8, 9, 10, 11, 12, 13]]) (S := [13]) (F := []) (V := VL [(13, fun v _ => v = .pointer (some ⟨B_91, 4, none⟩))]) hA201 (by kernel_rfl) ⟨fun _ _ _ _ h => by first | exact h | (change _ = _ at h; change _ = _; exact h), trivial⟩ ⟨?_, trivial⟩ ?_
        · intro a w hT
          have hAp := hT.ag hA201 [(8, .pointer (some ⟨B_91, 0, none⟩))] ⟨rfl, trivial⟩ (by kernel_rfl)
          exact opk_val hAp rfl (r_fieldAddr (hAp.get rfl) Try.underlying26 rfl ti_24 (by decide)) fun _ _ e => ⟨_, e, Chg.refl _ _, fun _ => Eq.refl _⟩
        · intro a212 w213 hE214 hag215 hv216
          have hA212 := hag215 [(5, .pointer (some ⟨B_14, 0, none⟩)), (6, .pointer (some ⟨B_41, 0, none⟩)), (8, .pointer (some ⟨B_91, 0, none⟩)), (35, Sl.v r_208)] ⟨rfl, rfl, rfl, rfl, trivial⟩ (by kernel_rfl)
          have e218 : a212.tmps.getD 36 undef = .pointer (some ⟨B_91, 4, none⟩) := hv216 13 rfl 36 rfl
          have hA219 := hA212.add e218
          have hB220 := hB209.ext hE214
          have hB221 := hB210.ext hE214
          have hB222 := hB211.ext hE214
          have hC223 : Chg [] w202 w213 := hE214
          refine one (D := [[], [0], [], [0, 1, 2], [0, 1, 2, 3], [], [5], [0, 1, 2, 3, 4, 5, 6], [], [8], [], [8, 9, 10], [0, 1, 2, 3, 4, 5, 6, 7, 8, 9, 10, 11], [0, 1, 2, 3, 4, 5, 6, 7, 8, 9, 10, 11, 12], [0, 1, 2, 3, 4, 5, 6, 7, 8, 9, 10, 11, 12, 13]]) (i := 14) rfl (by kernel_rfl) (opk_store hA219 hB222 (r_store (vs := [Sl.v r_208]) (hA219.get rfl) (hA219.get rfl) rfl ti_24 hB222 rfl (ones_all [Sl.v r_208] rfl)) fun a225 w224 hS226 hB227 hA225 => ?_)
          have hB228 : Box w224 B_91 26 [.int .i64 r_81_Kind, .string (Bs r_81_Name), .string (Bs r_81_Text), Sl.v r_81_Attrs, Sl.v r_208] := hB227
          have hB229 := hB220.keep hS226 (by simpa using hne97)
          have hB230 := hB221.keep hS226 (by simpa using hne98)
          have hC231 := hC223.storeOld hS226
          refine PR_end (by kernel_rfl) ?_
          have hA232 := hA225.keep [(5, .pointer (some ⟨B_14, 0, none⟩)), (6, .pointer (some ⟨B_41, 0, none⟩)), (8, .pointer (some ⟨B_91, 0, none⟩))] ⟨rfl, rfl, rfl, trivial⟩
          refine then_normal ?_
          refine wp_seq ?_
          refine draw' (by kernel_rfl) fun w233 hE234 => ?_
          have hB235 := hB229.ext hE234
          have hB236 := hB230.ext hE234
          have hB237 := hB228.ext hE234
          have hC238 := hC231.more hE234
          have ht239 := ht203 w233    hC238
          obtain ⟨r_242, hc243, ht244⟩ := ht239
          obtain ⟨r_247, hc248, ht249⟩ := ht244
          refine par (D := [[], [], [0, 1], [], [], [0, 1, 2, 3, 4], [0, 1, 2, 3, 4, 5], [0, 1, 2, 3, 4, 5, 6]]) (S := [0, 1, 2, 3, 4, 5, 6, 7]) (F := []) (V := VL [(0, fun v _ => v = .agg #[.int .i64 r_6_Kind, .string (Bs r_6_Name), .string (Bs r_6_Text), Sl.v r_6_Attrs, Sl.v r_6_Kids]), (1, fun v _ => v = .agg #[.int .i64 r_81_Kind, .string (Bs r_81_Name), .string (Bs r_81_Text), Sl.v r_81_Attrs, Sl.v r_208]), (2, fun v _ => v = .int .i64 r_242), (3, fun v _ => v = .agg #[.int .i64 r_81_Kind, .string (Bs r_81_Name), .string (Bs r_81_Text), Sl.v r_81_Attrs, Sl.v r_208]), (4, fun v _ => v = .agg #[.int .i64 r_6_Kind, .string (Bs r_6_Name), .string (Bs r_6_Text), Sl.v r_6_Attrs, Sl.v r_6_Kids]), (5, fun v _ => v = .int .i64 r_247), (6, fun v _ => v = .int .i64 r_242), (7, fun v _ => v = .int .i64 r_247)]) hA232 (by kernel_rfl) ⟨fun _ _ _ _ h => by first | exact h | (change _ = _ at h; change _ = _; exact h), fun _ _ _ _ h => by first | exact h | (change _ = _ at h; change _ = _; exact h), fun _ _ _ _ h => by first | exact h | (change _ = _ at h; change _ = _; exact h), fun _ _ _ _ h => by first | exact h | (change _ = _ at h; change _ = _; exact h), fun _ _ _ _ h => by first | exact h | (change _ = _ at h; change _ = _; exact h), fun _ _ _ _ h => by first | exact h | (change _ = _ at h; change _ = _; exact h), fun _ _ _ _ h => by first | exact h | (change _ = _ at h; change _ = _; exact h), fun _ _ _ _ h => by first | exact h | (change _ = _ at h; change _ = _; exact h), trivial⟩ ⟨?_, ?_, ?_, ?_, ?_, ?_, ?_, ?_, trivial⟩ ?_
          · intro a w hT
            have hAp := hT.ag hA232 [(5, .pointer (some ⟨B_14, 0, none⟩))] ⟨rfl, trivial⟩ (by kernel_rfl)
            exact opk_val hAp rfl (r_loadN (cs := [.int .i64 r_6_Kind, .string (Bs r_6_Name), .string (Bs r_6_Text), Sl.v r_6_Attrs, Sl.v r_6_Kids]) Try.underlying26 rfl ti_26 (hAp.get rfl) ((hB235.ext hT.chg).part 0 _ rfl)) fun _ _ e => ⟨_, e, Chg.refl _ _, fun _ => Eq.refl _⟩
          · intro a w hT
            have hAp := hT.ag hA232 [(8, .pointer (some ⟨B_91, 0, none⟩))] ⟨rfl, trivial⟩ (by kernel_rfl)
            exact opk_val hAp rfl (r_loadN (cs := [.int .i64 r_81_Kind, .string (Bs r_81_Name), .string (Bs r_81_Text), Sl.v r_81_Attrs, Sl.v r_208]) Try.underlying26 rfl ti_26 (hAp.get rfl) ((hB237.ext hT.chg).part 0 _ rfl)) fun _ _ e => ⟨_, e, Chg.refl _ _, fun _ => Eq.refl _⟩
          · intro a w hT
            have hAp := hT.ag hA232 [] trivial (by kernel_rfl)
            have e240 : a.tmps.getD 37 undef = .agg #[.int .i64 r_6_Kind, .string (Bs r_6_Name), .string (Bs r_6_Text), Sl.v r_6_Attrs, Sl.v r_6_Kids] := hT.vals 0 rfl 37 rfl
            have hAp := hAp.add e240
            have e241 : a.tmps.getD 38 undef = .agg #[.int .i64 r_81_Kind, .string (Bs r_81_Name), .string (Bs r_81_Text), Sl.v r_81_Attrs, Sl.v r_208] := hT.vals 1 rfl 38 rfl
            have hAp := hAp.add e241
            exact opk_callX hAp rfl (r_call (args := #[.agg #[.int .i64 r_6_Kind, .string (Bs r_6_Name), .string (Bs r_6_Text), Sl.v r_6_Attrs, Sl.v r_6_Kids], .agg #[.int .i64 r_81_Kind, .string (Bs r_81_Name), .string (Bs r_81_Text), Sl.v r_81_Attrs, Sl.v r_208]]) Try.func24 (by decide) rfl (map_arr (ml_cons (hAp.get rfl) (ml_cons (hAp.get rfl) ml_nil))) rfl) (hc243 w hT.chg) fun _ _ _ _ e hR => ⟨_, e, hR.1, fun _ => hR.2⟩
          · intro a w hT
            have hAp := hT.ag hA232 [(8, .pointer (some ⟨B_91, 0, none⟩))] ⟨rfl, trivial⟩ (by kernel_rfl)
            exact opk_val hAp rfl (r_loadN (cs := [.int .i64 r_81_Kind, .string (Bs r_81_Name), .string (Bs r_81_Text), Sl.v r_81_Attrs, Sl.v r_208]) Try.underlying26 rfl ti_26 (hAp.get rfl) ((hB237.ext hT.chg).part 0 _ rfl)) fun _ _ e => ⟨_, e, Chg.refl _ _, fun _ => Eq.refl _⟩
          · intro a w hT
            have hAp := hT.ag hA232 [(5, .pointer (some ⟨B_14, 0, none⟩))] ⟨rfl, trivial⟩ (by kernel_rfl)
            exact opk_val hAp rfl (r_loadN (cs := [.int .i64 r_6_Kind, .string (Bs r_6_Name), .string (Bs r_6_Text), Sl.v r_6_Attrs, Sl.v r_6_Kids]) Try.underlying26 rfl ti_26 (hAp.get rfl) ((hB235.ext hT.chg).part 0 _ rfl)) fun _ _ e => ⟨_, e, Chg.refl _ _, fun _ => Eq.refl _⟩
          · intro a w hT
            have hAp := hT.ag hA232 [] trivial (by kernel_rfl)
            have e245 : a.tmps.getD 40 undef = .agg #[.int .i64 r_81_Kind, .string (Bs r_81_Name), .string (Bs r_81_Text), Sl.v r_81_Attrs, Sl.v r_208] := hT.vals 3 rfl 40 rfl
            have hAp := hAp.add e245
            have e246 : a.tmps.getD 41 undef = .agg #[.int .i64 r_6_Kind, .string (Bs r_6_Name), .string (Bs r_6_Text), Sl.v r_6_Attrs, Sl.v r_6_Kids] := hT.vals 4 rfl 41 rfl
            have hAp := hAp.add e246
            exact opk_callX hAp rfl (r_call (args := #[.agg #[.int .i64 r_81_Kind, .string (Bs r_81_Name), .string (Bs r_81_Text), Sl.v r_81_Attrs, Sl.v r_208], .agg #[.int .i64 r_6_Kind, .string (Bs r_6_Name), .string (Bs r_6_Text), Sl.v r_6_Attrs, Sl.v r_6_Kids]]) Try.func24 (by decide) rfl (map_arr (ml_cons (hAp.get rfl) (ml_cons (hAp.get rfl) ml_nil))) rfl) (hc248 w hT.chg) fun _ _ _ _ e hR => ⟨_, e, hR.1, fun _ => hR.2⟩
          · intro a w hT
            have hAp := hT.ag hA232 [] trivial (by kernel_rfl)
            have e250 : a.tmps.getD 39 undef = .int .i64 r_242 := hT.vals 2 rfl 39 rfl
            have hAp := hAp.add e250
            exact opk_val hAp rfl (r_assign (hAp.get rfl)) fun _ _ e => ⟨_, e, Chg.refl _ _, fun _ => Eq.refl _⟩
          · intro a w hT
            have hAp := hT.ag hA232 [] trivial (by kernel_rfl)
            have e251 : a.tmps.getD 42 undef = .int .i64 r_247 := hT.vals 5 rfl 42 rfl
            have hAp := hAp.add e251
            exact opk_val hAp rfl (r_assign (hAp.get rfl)) fun _ _ e => ⟨_, e, Chg.refl _ _, fun _ => Eq.refl _⟩
          · intro a252 w253 hE254 hag255 hv256
            have hA252 := hag255 [(5, .pointer (some ⟨B_14, 0, none⟩)), (6, .pointer (some ⟨B_41, 0, none⟩)), (8, .pointer (some ⟨B_91, 0, none⟩))] ⟨rfl, rfl, rfl, trivial⟩ (by kernel_rfl)
            have e258 : a252.tmps.getD 9 undef = .int .i64 r_242 := hv256 6 rfl 9 rfl
            have hA259 := hA252.add e258
            have e260 : a252.tmps.getD 10 undef = .int .i64 r_247 := hv256 7 rfl 10 rfl
            have hA261 := hA259.add e260
            have hB262 := hB235.ext hE254
            have hB263 := hB236.ext hE254
            have hB264 := hB237.ext hE254
            have hC265 : Chg [] w233 w253 := hE254
            refine PR_end (by kernel_rfl) ?_
            have hA266 := hA261.keep [(5, .pointer (some ⟨B_14, 0, none⟩)), (6, .pointer (some ⟨B_41, 0, none⟩)), (8, .pointer (some ⟨B_91, 0, none⟩)), (9, .int .i64 r_242), (10, .int .i64 r_247)] ⟨rfl, rfl, rfl, rfl, rfl, trivial⟩
            refine then_normal ?_
            refine wp_seq ?_
            refine draw' (by kernel_rfl) fun w267 hE268 => ?_
            have hB269 := hB262.ext hE268
            have hB270 := hB263.ext hE268
            have hB271 := hB264.ext hE268
            have hC272 := hC265.more hE268
            have ht273 := ht249 w267    hC272
            obtain ⟨r_276, hc277, ht278⟩ := ht273
            obtain ⟨r_285, hc286, ht287⟩ := ht278
            obtain ⟨r_298, hc299, ht300⟩ := ht287
            obtain ⟨hS310, ht311⟩ := ht300
            obtain ⟨r_327, hc328, ht329⟩ := ht311
            obtain ⟨r_333, hc334, ht335⟩ := ht329
            obtain ⟨hS338, ht339⟩ := ht335
            obtain ⟨r_347, hc348, ht349⟩ := ht339
            refine par (D := [[], [], [0, 1], [0, 1, 2], [0, 1, 2, 3], [0, 1, 2, 3], [0, 1, 2, 3, 4, 5], [0, 1, 2, 3, 4, 5, 6], [0, 1, 2, 3, 4, 5, 6, 7], [0, 1, 2, 3, 4, 5, 6, 7, 8], [0, 1, 2, 3, 4, 5, 6, 7, 8, 9], [0, 1, 2, 3, 4, 5, 6, 7, 8, 9], [0, 1, 2, 3, 4, 5, 6, 7, 8, 9, 10, 11], [0, 1, 2, 3, 4, 5, 6, 7, 8, 9, 10, 11, 12], [0, 1, 2, 3, 4, 5, 6, 7, 8, 9, 10, 11, 12, 13], [0, 1, 2, 3, 4, 5, 6, 7, 8, 9, 10, 11, 12, 13, 14], [0, 1, 2, 3, 4, 5, 6, 7, 8, 9, 10, 11, 12, 13, 14, 15], [0, 1, 2, 3, 4, 5, 6, 7, 8, 9, 10, 11, 12, 13, 14, 15], [0, 1, 2, 3, 4, 5, 6, 7, 8, 9, 10, 11, 12, 13, 14, 15, 17], [0, 1, 2, 3, 4, 5, 6, 7, 8, 9, 10, 11, 12, 13, 14, 15, 16, 17, 18], [0, 1, 2, 3, 4, 5, 6, 7, 8, 9, 10, 11, 12, 13, 14, 15, 16, 17, 18, 19], [0, 1, 2, 3, 4, 5, 6, 7, 8, 9, 10, 11, 12, 13, 14, 15, 16, 17, 18, 19, 20], [0, 1, 2, 3, 4, 5, 6, 7, 8, 9, 10, 11, 12, 13, 14, 15, 16, 17, 18, 19, 20, 21], [0, 1, 2, 3, 4, 5, 6, 7, 8, 9, 10, 11, 12, 13, 14, 15, 16, 17, 18, 19, 20, 21, 22], [0, 1, 2, 3, 4, 5, 6, 7, 8, 9, 10, 11, 12, 13, 14, 15, 16, 17, 18, 19, 20, 21, 22, 23], [0, 1, 2, 3, 4, 5, 6, 7, 8, 9, 10, 11, 12, 13, 14, 15, 16, 17, 18, 19, 20, 21, 22, 23, 24], [0, 1, 2, 3, 4, 5, 6, 7, 8, 9, 10, 11, 12, 13, 14, 15, 16, 17, 18, 19, 20, 21, 22, 23, 24, 25], [0, 1, 2, 3, 4, 5, 6, 7, 8, 9, 10, 11, 12, 13, 14, 15, 16, 17, 18, 19, 20, 21, 22, 23, 24, 25, 26], [0, 1, 2, 3, 4, 5, 6, 7, 8, 9, 10, 11, 12, 13, 14, 15, 16, 17, 18, 19, 20, 21, 22, 23, 24, 25], [0, 1, 2, 3, 4, 5, 6, 7, 8, 9, 10, 11, 12, 13, 14, 15, 16, 17, 18, 19, 20, 21, 22, 23, 24, 25, 26, 27, 28], [0, 1, 2, 3, 4, 5, 6, 7, 8, 9, 10, 11, 12, 13, 14, 15, 16, 17, 18, 19, 20, 21, 22, 23, 24, 25, 26, 27, 28, 29], [0, 1, 2, 3, 4, 5, 6, 7, 8, 9, 10, 11, 12, 13, 14, 15, 16, 17, 18, 19, 20, 21, 22, 23, 24, 25, 26, 27, 28, 29, 30], [0, 1, 2, 3, 4, 5, 6, 7, 8, 9, 10, 11, 12, 13, 14, 15, 16, 17, 18, 19, 20, 21, 22, 23, 24, 25, 26, 27, 28, 29, 30, 31], [0, 1, 2, 3, 4, 5, 6, 7, 8, 9, 10, 11, 12, 13, 14, 15, 16, 17, 18, 19, 20, 21, 22, 23, 24, 25, 26, 27, 28, 29, 30, 31, 32], [0, 1, 2, 3, 4, 5, 6, 7, 8, 9, 10, 11, 12, 13, 14, 15, 16, 17, 18, 19, 20, 21, 22, 23, 24, 25, 26, 27, 28, 29, 30, 31, 32, 33], [0, 1, 2, 3, 4, 5, 6, 7, 8, 9, 10, 11, 12, 13, 14, 15, 16, 17, 18, 19, 20, 21, 22, 23, 24, 25, 26, 27, 28, 29, 30, 31, 32, 33, 34], [0, 1, 2, 3, 4, 5, 6, 7, 8, 9, 10, 11, 12, 13, 14, 15, 16, 17, 18, 19, 20, 21, 22, 23, 24, 25, 26, 27, 28, 29, 30, 31, 32, 33, 34, 35]]) (S := [0, 1, 2, 3, 4, 5, 6, 7, 8, 9, 10, 11, 12, 13, 14, 15, 16, 17, 18, 19, 20, 21, 22, 23, 24, 25, 26, 27, 28, 29, 30, 31, 32, 33, 34, 35, 36]) (F := []) (V := VL [(0, fun v _ => v = .agg #[.int .i64 r_6_Kind, .string (Bs r_6_Name), .string (Bs r_6_Text), Sl.v r_6_Attrs, Sl.v r_6_Kids]), (1, fun v _ => v = .agg #[.int .i64 r_32_Kind, .string (Bs r_32_Name), .string (Bs r_32_Text), Sl.v r_32_Attrs, Sl.v r_32_Kids]), (2, fun v _ => v = .bool r_276), (3, fun v _ => v = .bool r_276), (4, fun v _ => v = cV (true && (r_276 == true)) (.agg #[.int .i64 r_6_Kind, .string (Bs r_6_Name), .string (Bs r_6_Text), Sl.v r_6_Attrs, Sl.v r_6_Kids])), (5, fun v _ => v = cV (true && (r_276 == true)) (.agg #[.int .i64 r_32_Kind, .string (Bs r_32_Name), .string (Bs r_32_Text), Sl.v r_32_Attrs, Sl.v r_32_Kids])), (6, fun v _ => v = cV (true && (r_276 == true)) (.int .i64 r_285)), (7, fun v _ => v = cV (true && (r_276 == true)) (.bool (decide (r_285 = 0)))), (8, fun v _ => v = .bool (r_276 && (decide (r_285 = 0)))), (9, fun v _ => v = .bool (r_276 && (decide (r_285 = 0)))), (10, fun v _ => v = cV (true && ((r_276 && (decide (r_285 = 0))) == true)) (.agg #[.int .i64 r_6_Kind, .string (Bs r_6_Name), .string (Bs r_6_Text), Sl.v r_6_Attrs, Sl.v r_6_Kids])), (11, fun v _ => v = cV (true && ((r_276 && (decide (r_285 = 0))) == true)) (.agg #[.int .i64 r_81_Kind, .string (Bs r_81_Name), .string (Bs r_81_Text), Sl.v r_81_Attrs, Sl.v r_208])), (12, fun v _ => v = cV (true && ((r_276 && (decide (r_285 = 0))) == true)) (.bool r_298)), (13, fun v _ => v = cV (true && ((r_276 && (decide (r_285 = 0))) == true)) (.bool (!r_298))), (14, fun v _ => v = .bool ((r_276 && (decide (r_285 = 0))) && (!r_298))), (15, fun v _ => v = .bool ((r_276 && (decide (r_285 = 0))) && (!r_298))), (16, fun v _ => v = cV (true && (((r_276 && (decide (r_285 = 0))) && (!r_298)) == true)) (.int .i64 r_242)), (17, fun v _ => v = cV (true && (((r_276 && (decide (r_285 = 0))) && (!r_298)) == true)) (.int .i64 r_247)), (18, fun v _ => v = cV (true && (((r_276 && (decide (r_285 = 0))) && (!r_298)) == true)) (.int .i64 (0 - r_247))), (19, fun v _ => v = cV (true && (((r_276 && (decide (r_285 = 0))) && (!r_298)) == true)) (.bool (decide (r_242 = (0 - r_247))))), (20, fun v _ => v = .bool (((r_276 && (decide (r_285 = 0))) && (!r_298)) && (decide (r_242 = (0 - r_247))))), (21, fun v _ => v = .bool (((r_276 && (decide (r_285 = 0))) && (!r_298)) && (decide (r_242 = (0 - r_247))))), (22, fun v _ => v = cV (true && ((((r_276 && (decide (r_285 = 0))) && (!r_298)) && (decide (r_242 = (0 - r_247)))) == true)) (.int .i64 r_242)), (23, fun v _ => v = cV (true && ((((r_276 && (decide (r_285 = 0))) && (!r_298)) && (decide (r_242 = (0 - r_247)))) == true)) (.bool (decide (r_242 ≠ 0)))), (24, fun v _ => v = .bool ((((r_276 && (decide (r_285 = 0))) && (!r_298)) && (decide (r_242 = (0 - r_247)))) && (decide (r_242 ≠ 0)))), (25, fun v _ => v = .bool ((((r_276 && (decide (r_285 = 0))) && (!r_298)) && (decide (r_242 = (0 - r_247)))) && (decide (r_242 ≠ 0)))), (26, fun v _ => v = cV (true && (((((r_276 && (decide (r_285 = 0))) && (!r_298)) && (decide (r_242 = (0 - r_247)))) && (decide (r_242 ≠ 0))) == true)) (.agg #[.int .i64 r_81_Kind, .string (Bs r_81_Name), .string (Bs r_81_Text), Sl.v r_81_Attrs, Sl.v r_208])), (27, fun v _ => v = cV (true && (((((r_276 && (decide (r_285 = 0))) && (!r_298)) && (decide (r_242 = (0 - r_247)))) && (decide (r_242 ≠ 0))) == true)) (.int .i64 r_327)), (28, fun v _ => v = cV (true && (((((r_276 && (decide (r_285 = 0))) && (!r_298)) && (decide (r_242 = (0 - r_247)))) && (decide (r_242 ≠ 0))) == true)) (.agg #[.int .i64 r_6_Kind, .string (Bs r_6_Name), .string (Bs r_6_Text), Sl.v r_6_Attrs, Sl.v r_6_Kids])), (29, fun v _ => v = cV (true && (((((r_276 && (decide (r_285 = 0))) && (!r_298)) && (decide (r_242 = (0 - r_247)))) && (decide (r_242 ≠ 0))) == true)) (.int .i64 r_333)), (30, fun v _ => v = cV (true && (((((r_276 && (decide (r_285 = 0))) && (!r_298)) && (decide (r_242 = (0 - r_247)))) && (decide (r_242 ≠ 0))) == true)) (.int .i64 (r_333 + 1))), (31, fun v _ => v = cV (true && (((((r_276 && (decide (r_285 = 0))) && (!r_298)) && (decide (r_242 = (0 - r_247)))) && (decide (r_242 ≠ 0))) == true)) (.bool (decide (r_327 = (r_333 + 1))))), (32, fun v _ => v = .bool (((((r_276 && (decide (r_285 = 0))) && (!r_298)) && (decide (r_242 = (0 - r_247)))) && (decide (r_242 ≠ 0))) && (decide (r_327 = (r_333 + 1))))), (33, fun v _ => v = .bool (((((r_276 && (decide (r_285 = 0))) && (!r_298)) && (decide (r_242 = (0 - r_247)))) && (decide (r_242 ≠ 0))) && (decide (r_327 = (r_333 + 1))))), (34, fun v _ => v = cV (true && ((((((r_276 && (decide (r_285 = 0))) && (!r_298)) && (decide (r_242 = (0 - r_247)))) && (decide (r_242 ≠ 0))) && (decide (r_327 = (r_333 + 1)))) == true)) (.bool r_347)), (35, fun v _ => v = .bool ((((((r_276 && (decide (r_285 = 0))) && (!r_298)) && (decide (r_242 = (0 - r_247)))) && (decide (r_242 ≠ 0))) && (decide (r_327 = (r_333 + 1)))) && r_347)), (36, fun v _ => v = .bool ((((((r_276 && (decide (r_285 = 0))) && (!r_298)) && (decide (r_242 = (0 - r_247)))) && (decide (r_242 ≠ 0))) && (decide (r_327 = (r_333 + 1)))) && r_347))]) hA266 (by kernel_rfl) ⟨fun _ _ _ _ h => by first | exact h | (change _ = _ at h; change _ = _; exact h), fun _ _ _ _ h => by first | exact h | (change _ = _ at h; change _ = _; exact h), fun _ _ _ _ h => by first | exact h | (change _ = _ at h; change _ = _; exact h), fun _ _ _ _ h => by first | exact h | (change _ = _ at h; change _ = _; exact h), fun _ _ _ _ h => by first | exact h | (change _ = _ at h; change _ = _; exact h), fun _ _ _ _ h => by first | exact h | (change _ = _ at h; change _ = _; exact h), fun _ _ _ _ h => by first | exact h | (change _ = _ at h; change _ = _; exact h), fun _ _ _ _ h => by first | exact h | (change _ = _ at h; change _ = _; exact h), fun _ _ _ _ h => by first | exact h | (change _ = _ at h; change _ = _; exact h), fun _ _ _ _ h => by first | exact h | (change _ = _ at h; change _ = _; exact h), fun _ _ _ _ h => by first | exact h | (change _ = _ at h; change _ = _; exact h), fun _ _ _ _ h => by first | exact h | (change _ = _ at h; change _ = _; exact h), fun _ _ _ _ h => by first | exact h | (change _ = _ at h; change _ = _; exact h), fun _ _ _ _ h => by first | exact h | (change _ = _ at h; change _ = _; exact h), fun _ _ _ _ h => by first | exact h | (change _ = _ at h; change _ = _; exact h), fun _ _ _ _ h => by first | exact h | (change _ = _ at h; change _ = _; exact h), fun _ _ _ _ h => by first | exact h | (change _ = _ at h; change _ = _; exact h), fun _ _ _ _ h => by first | exact h | (change _ = _ at h; change _ = _; exact h), fun _ _ _ _ h => by first | exact h | (change _ = _ at h; change _ = _; exact h), fun _ _ _ _ h => by first | exact h | (change _ = _ at h; change _ = _; exact h), fun _ _ _ _ h => by first | exact h | (change _ = _ at h; change _ = _; exact h), fun _ _ _ _ h => by first | exact h | (change _ = _ at h; change _ = _; exact h), fun _ _ _ _ h => by first | exact h | (change _ = _ at h; change _ = _; exact h), fun _ _ _ _ h => by first | exact h | (change _ = _ at h; change _ = _; exact h), fun _ _ _ _ h => by first | exact h | (change _ = _ at h; change _ = _; exact h), fun _ _ _ _ h => by first | exact h | (change _ = _ at h; change _ = _; exact h), fun _ _ _ _ h => by first | exact h | (change _ = _ at h; change _ = _; exact h), fun _ _ _ _ h => by first | exact h | (change _ = _ at h; change _ = _; exact h), fun _ _ _ _ h => by first | exact h | (change _ = _ at h; change _ = _; exact h), fun _ _ _ _ h => by first | exact h | (change _ = _ at h; change _ = _; exact h), fun _ _ _ _ h => by first | exact h | (change _ = _ at h; change _ = _; exact h), fun _ _ _ _ h => by first | exact h | (change _ = _ at h; change _ = _; exact h), fun _ _ _ _ h => by first | exact h | (change _ = _ at h; change _ = _; exact h), fun _ _ _ _ h => by first | exact h | (change _ = _ at h; change _ = _; exact h), fun _ _ _ _ h => by first | exact h | (change _ = _ at h; change _ = _; exact h), fun _ _ _ _ h => by first | exact h | (change _ = _ at h; change _ = _; exact h), fun _ _ _ _ h => by first | exact h | (change _ = _ at h; change _ = _; exact h), trivial⟩ ⟨?_, ?_, ?_, ?_, ?_, ?_, ?_, ?_, ?_, ?_, ?_, ?_, ?_, ?_, ?_, ?_, ?_, ?_, ?_, ?_, ?_, ?_, ?_, ?_, ?_, ?_, ?_, ?_, ?_, ?_, ?_, ?_, ?_, ?_, ?_, ?_, ?_, trivial⟩ ?_
            · intro a w hT
              have hAp := hT.ag hA266 [(5, .pointer (some ⟨B_14, 0, none⟩))] ⟨rfl, trivial⟩ (by kernel_rfl)
              exact opk_val hAp rfl (r_loadN (cs := [.int .i64 r_6_Kind, .string (Bs r_6_Name), .string (Bs r_6_Text), Sl.v r_6_Attrs, Sl.v r_6_Kids]) Try.underlying26 rfl ti_26 (hAp.get rfl) ((hB269.ext hT.chg).part 0 _ rfl)) fun _ _ e => ⟨_, e, Chg.refl _ _, fun _ => Eq.refl _⟩
            · intro a w hT
              have hAp := hT.ag hA266 [(6, .pointer (some ⟨B_41, 0, none⟩))] ⟨rfl, trivial⟩ (by kernel_rfl)
              exact opk_val hAp rfl (r_loadN (cs := [.int .i64 r_32_Kind, .string (Bs r_32_Name), .string (Bs r_32_Text), Sl.v r_32_Attrs, Sl.v r_32_Kids]) Try.underlying26 rfl ti_26 (hAp.get rfl) ((hB270.ext hT.chg).part 0 _ rfl)) fun _ _ e => ⟨_, e, Chg.refl _ _, fun _ => Eq.refl _⟩
            · intro a w hT
              have hAp := hT.ag hA266 [] trivial (by kernel_rfl)
              have e274 : a.tmps.getD 43 undef = .agg #[.int .i64 r_6_Kind, .string (Bs r_6_Name), .string (Bs r_6_Text), Sl.v r_6_Attrs, Sl.v r_6_Kids] := hT.vals 0 rfl 43 rfl
              have hAp := hAp.add e274
              have e275 : a.tmps.getD 44 undef = .agg #[.int .i64 r_32_Kind, .string (Bs r_32_Name), .string (Bs r_32_Text), Sl.v r_32_Attrs, Sl.v r_32_Kids] := hT.vals 1 rfl 44 rfl
              have hAp := hAp.add e275
              exact opk_callX hAp rfl (r_call (args := #[.agg #[.int .i64 r_6_Kind, .string (Bs r_6_Name), .string (Bs r_6_Text), Sl.v r_6_Attrs, Sl.v r_6_Kids], .agg #[.int .i64 r_32_Kind, .string (Bs r_32_Name), .string (Bs r_32_Text), Sl.v r_32_Attrs, Sl.v r_32_Kids]]) Try.func25 (by decide) rfl (map_arr (ml_cons (hAp.get rfl) (ml_cons (hAp.get rfl) ml_nil))) rfl) (hc277 w hT.chg) fun _ _ _ _ e hR => ⟨_, e, hR.1, fun _ => hR.2⟩
            · intro a w hT
              have hAp := hT.ag hA266 [] trivial (by kernel_rfl)
              have e279 : a.tmps.getD 45 undef = .bool r_276 := hT.vals 2 rfl 45 rfl
              have hAp := hAp.add e279
              exact opk_val hAp rfl (r_move (hAp.get rfl)) fun _ _ e => ⟨_, e, Chg.refl _ _, fun _ => Eq.refl _⟩
            · intro a w hT
              have hAp := hT.ag hA266 [(5, .pointer (some ⟨B_14, 0, none⟩))] ⟨rfl, trivial⟩ (by kernel_rfl)
              have e280 : a.tmps.getD 46 undef = .bool r_276 := hT.vals 3 rfl 46 rfl
              have hAp := hAp.add e280
              exact opk_gval hAp rfl rfl (g := true) (e := r_276) rfl (fun hg => r_loadN (cs := [.int .i64 r_6_Kind, .string (Bs r_6_Name), .string (Bs r_6_Text), Sl.v r_6_Attrs, Sl.v r_6_Kids]) Try.underlying26 rfl ti_26 (hAp.get rfl) ((hB269.ext hT.chg).part 0 _ rfl)) fun _ _ e => ⟨_, e, Chg.refl _ _, fun _ => Eq.refl _⟩
            · intro a w hT
              have hAp := hT.ag hA266 [(6, .pointer (some ⟨B_41, 0, none⟩))] ⟨rfl, trivial⟩ (by kernel_rfl)
              have e281 : a.tmps.getD 46 undef = .bool r_276 := hT.vals 3 rfl 46 rfl
              have hAp := hAp.add e281
              exact opk_gval hAp rfl rfl (g := true) (e := r_276) rfl (fun hg => r_loadN (cs := [.int .i64 r_32_Kind, .string (Bs r_32_Name), .string (Bs r_32_Text), Sl.v r_32_Attrs, Sl.v r_32_Kids]) Try.underlying26 rfl ti_26 (hAp.get rfl) ((hB270.ext hT.chg).part 0 _ rfl)) fun _ _ e => ⟨_, e, Chg.refl _ _, fun _ => Eq.refl _⟩
            · intro a w hT
              have hAp := hT.ag hA266 [] trivial (by kernel_rfl)
              have e282 : a.tmps.getD 46 undef = .bool r_276 := hT.vals 3 rfl 46 rfl
              have hAp := hAp.add e282
              have e283 : a.tmps.getD 47 undef = cV (true && (r_276 == true)) (.agg #[.int .i64 r_6_Kind, .string (Bs r_6_Name), .string (Bs r_6_Text), Sl.v r_6_Attrs, Sl.v r_6_Kids]) := hT.vals 4 rfl 47 rfl
              have hAp := hAp.add e283
              have e284 : a.tmps.getD 48 undef = cV (true && (r_276 == true)) (.agg #[.int .i64 r_32_Kind, .string (Bs r_32_Name), .string (Bs r_32_Text), Sl.v r_32_Attrs, Sl.v r_32_Kids]) := hT.vals 5 rfl 48 rfl
              have hAp := hAp.add e284
              exact opk_gcall hAp rfl rfl (g := true) (e := r_276) rfl (fun hg => r_call (args := #[.agg #[.int .i64 r_6_Kind, .string (Bs r_6_Name), .string (Bs r_6_Text), Sl.v r_6_Attrs, Sl.v r_6_Kids], .agg #[.int .i64 r_32_Kind, .string (Bs r_32_Name), .string (Bs r_32_Text), Sl.v r_32_Attrs, Sl.v r_32_Kids]]) Try.func24 (by decide) rfl (map_arr (ml_cons (cv_get (hAp.get rfl) hg) (ml_cons (cv_get (hAp.get rfl) hg) ml_nil))) rfl) (fun hg => hc286 (g_t hg) w hT.chg) fun _ _ _ e hE => ⟨_, e, hE, fun _ => Eq.refl _⟩
            · intro a w hT
              have hAp := hT.ag hA266 [] trivial (by kernel_rfl)
              have e288 : a.tmps.getD 46 undef = .bool r_276 := hT.vals 3 rfl 46 rfl
              have hAp := hAp.add e288
              have e289 : a.tmps.getD 49 undef = cV (true && (r_276 == true)) (.int .i64 r_285) := hT.vals 6 rfl 49 rfl
              have hAp := hAp.add e289
              exact opk_gval hAp rfl rfl (g := true) (e := r_276) rfl (fun hg => r_eql (cv_get (hAp.get rfl) hg) rfl) fun _ _ e => ⟨_, e, Chg.refl _ _, fun _ => Eq.refl _⟩
            · intro a w hT
              have hAp := hT.ag hA266 [] trivial (by kernel_rfl)
              have e290 : a.tmps.getD 46 undef = .bool r_276 := hT.vals 3 rfl 46 rfl
              have hAp := hAp.add e290
              have e291 : a.tmps.getD 50 undef = cV (true && (r_276 == true)) (.bool (decide (r_285 = 0))) := hT.vals 7 rfl 50 rfl
              have hAp := hAp.add e291
              exact opk_val hAp rfl (r_pick_and (g := (true && (r_276 == true))) (hAp.get rfl) (hAp.get rfl) (fun he => g_mkt rfl he)) fun _ _ e => ⟨_, e, Chg.refl _ _, fun _ => Eq.refl _⟩
            · intro a w hT
              have hAp := hT.ag hA266 [] trivial (by kernel_rfl)
              have e292 : a.tmps.getD 51 undef = .bool (r_276 && (decide (r_285 = 0))) := hT.vals 8 rfl 51 rfl
              have hAp := hAp.add e292
              exact opk_val hAp rfl (r_move (hAp.get rfl)) fun _ _ e => ⟨_, e, Chg.refl _ _, fun _ => Eq.refl _⟩
            · intro a w hT
              have hAp := hT.ag hA266 [(5, .pointer (some ⟨B_14, 0, none⟩))] ⟨rfl, trivial⟩ (by kernel_rfl)
              have e293 : a.tmps.getD 52 undef = .bool (r_276 && (decide (r_285 = 0))) := hT.vals 9 rfl 52 rfl
              have hAp := hAp.add e293
              exact opk_gval hAp rfl rfl (g := true) (e := (r_276 && (decide (r_285 = 0)))) rfl (fun hg => r_loadN (cs := [.int .i64 r_6_Kind, .string (Bs r_6_Name), .string (Bs r_6_Text), Sl.v r_6_Attrs, Sl.v r_6_Kids]) Try.underlying26 rfl ti_26 (hAp.get rfl) ((hB269.ext hT.chg).part 0 _ rfl)) fun _ _ e => ⟨_, e, Chg.refl _ _, fun _ => Eq.refl _⟩
            · intro a w hT
              have hAp := hT.ag hA266 [(8, .pointer (some ⟨B_91, 0, none⟩))] ⟨rfl, trivial⟩ (by kernel_rfl)
              have e294 : a.tmps.getD 52 undef = .bool (r_276 && (decide (r_285 = 0))) := hT.vals 9 rfl 52 rfl
              have hAp := hAp.add e294
              exact opk_gval hAp rfl rfl (g := true) (e := (r_276 && (decide (r_285 = 0)))) rfl (fun hg => r_loadN (cs := [.int .i64 r_81_Kind, .string (Bs r_81_Name), .string (Bs r_81_Text), Sl.v r_81_Attrs, Sl.v r_208]) Try.underlying26 rfl ti_26 (hAp.get rfl) ((hB271.ext hT.chg).part 0 _ rfl)) fun _ _ e => ⟨_, e, Chg.refl _ _, fun _ => Eq.refl _⟩
            · intro a w hT
              have hAp := hT.ag hA266 [] trivial (by kernel_rfl)
              have e295 : a.tmps.getD 52 undef = .bool (r_276 && (decide (r_285 = 0))) := hT.vals 9 rfl 52 rfl
              have hAp := hAp.add e295
              have e296 : a.tmps.getD 53 undef = cV (true && ((r_276 && (decide (r_285 = 0))) == true)) (.agg #[.int .i64 r_6_Kind, .string (Bs r_6_Name), .string (Bs r_6_Text), Sl.v r_6_Attrs, Sl.v r_6_Kids]) := hT.vals 10 rfl 53 rfl
              have hAp := hAp.add e296
              have e297 : a.tmps.getD 54 undef = cV (true && ((r_276 && (decide (r_285 = 0))) == true)) (.agg #[.int .i64 r_81_Kind, .string (Bs r_81_Name), .string (Bs r_81_Text), Sl.v r_81_Attrs, Sl.v r_208]) := hT.vals 11 rfl 54 rfl
              have hAp := hAp.add e297
              exact opk_gcall hAp rfl rfl (g := true) (e := (r_276 && (decide (r_285 = 0)))) rfl (fun hg => r_call (args := #[.agg #[.int .i64 r_6_Kind, .string (Bs r_6_Name), .string (Bs r_6_Text), Sl.v r_6_Attrs, Sl.v r_6_Kids], .agg #[.int .i64 r_81_Kind, .string (Bs r_81_Name), .string (Bs r_81_Text), Sl.v r_81_Attrs, Sl.v r_208]]) Try.func25 (by decide) rfl (map_arr (ml_cons (cv_get (hAp.get rfl) hg) (ml_cons (cv_get (hAp.get rfl) hg) ml_nil))) rfl) (fun hg => hc299 ⟨(b_and_t (g_t hg)).1, (of_decide_eq_true (b_and_t (g_t hg)).2)⟩ w hT.chg) fun _ _ _ e hE => ⟨_, e, hE, fun _ => Eq.refl _⟩
            · intro a w hT
              have hAp := hT.ag hA266 [] trivial (by kernel_rfl)
              have e301 : a.tmps.getD 52 undef = .bool (r_276 && (decide (r_285 = 0))) := hT.vals 9 rfl 52 rfl
              have hAp := hAp.add e301
              have e302 : a.tmps.getD 55 undef = cV (true && ((r_276 && (decide (r_285 = 0))) == true)) (.bool r_298) := hT.vals 12 rfl 55 rfl
              have hAp := hAp.add e302
              exact opk_gval hAp rfl rfl (g := true) (e := (r_276 && (decide (r_285 = 0)))) rfl (fun hg => r_not (cv_get (hAp.get rfl) hg)) fun _ _ e => ⟨_, e, Chg.refl _ _, fun _ => Eq.refl _⟩
            · intro a w hT
              have hAp := hT.ag hA266 [] trivial (by kernel_rfl)
              have e303 : a.tmps.getD 52 undef = .bool (r_276 && (decide (r_285 = 0))) := hT.vals 9 rfl 52 rfl
              have hAp := hAp.add e303
              have e304 : a.tmps.getD 56 undef = cV (true && ((r_276 && (decide (r_285 = 0))) == true)) (.bool (!r_298)) := hT.vals 13 rfl 56 rfl
              have hAp := hAp.add e304
              exact opk_val hAp rfl (r_pick_and (g := (true && ((r_276 && (decide (r_285 = 0))) == true))) (hAp.get rfl) (hAp.get rfl) (fun he => g_mkt rfl he)) fun _ _ e => ⟨_, e, Chg.refl _ _, fun _ => Eq.refl _⟩
            · intro a w hT
              have hAp := hT.ag hA266 [] trivial (by kernel_rfl)
              have e305 : a.tmps.getD 57 undef = .bool ((r_276 && (decide (r_285 = 0))) && (!r_298)) := hT.vals 14 rfl 57 rfl
              have hAp := hAp.add e305
              exact opk_val hAp rfl (r_move (hAp.get rfl)) fun _ _ e => ⟨_, e, Chg.refl _ _, fun _ => Eq.refl _⟩
            · intro a w hT
              have hAp := hT.ag hA266 [(9, .int .i64 r_242)] ⟨rfl, trivial⟩ (by kernel_rfl)
              have e306 : a.tmps.getD 58 undef = .bool ((r_276 && (decide (r_285 = 0))) && (!r_298)) := hT.vals 15 rfl 58 rfl
              have hAp := hAp.add e306
              exact opk_gval hAp rfl rfl (g := true) (e := ((r_276 && (decide (r_285 = 0))) && (!r_298))) rfl (fun hg => r_move (hAp.get rfl)) fun _ _ e => ⟨_, e, Chg.refl _ _, fun _ => Eq.refl _⟩
            · intro a w hT
              have hAp := hT.ag hA266 [(10, .int .i64 r_247)] ⟨rfl, trivial⟩ (by kernel_rfl)
              have e307 : a.tmps.getD 58 undef = .bool ((r_276 && (decide (r_285 = 0))) && (!r_298)) := hT.vals 15 rfl 58 rfl
              have hAp := hAp.add e307
              exact opk_gval hAp rfl rfl (g := true) (e := ((r_276 && (decide (r_285 = 0))) && (!r_298))) rfl (fun hg => r_move (hAp.get rfl)) fun _ _ e => ⟨_, e, Chg.refl _ _, fun _ => Eq.refl _⟩
            · intro a w hT
              have hAp := hT.ag hA266 [] trivial (by kernel_rfl)
              have e308 : a.tmps.getD 58 undef = .bool ((r_276 && (decide (r_285 = 0))) && (!r_298)) := hT.vals 15 rfl 58 rfl
              have hAp := hAp.add e308
              have e309 : a.tmps.getD 60 undef = cV (true && (((r_276 && (decide (r_285 = 0))) && (!r_298)) == true)) (.int .i64 r_247) := hT.vals 17 rfl 60 rfl
              have hAp := hAp.add e309
              exact opk_gval hAp rfl rfl (g := true) (e := ((r_276 && (decide (r_285 = 0))) && (!r_298))) rfl (fun hg => r_negI (cv_get (hAp.get rfl) hg) (hS310 ⟨⟨(b_and_t (b_and_t (g_t hg)).1).1, (of_decide_eq_true (b_and_t (b_and_t (g_t hg)).1).2)⟩, (b_not_t (b_and_t (g_t hg)).2)⟩)) fun _ _ e => ⟨_, e, Chg.refl _ _, fun _ => Eq.refl _⟩
            · intro a w hT
              have hAp := hT.ag hA266 [] trivial (by kernel_rfl)
              have e312 : a.tmps.getD 58 undef = .bool ((r_276 && (decide (r_285 = 0))) && (!r_298)) := hT.vals 15 rfl 58 rfl
              have hAp := hAp.add e312
              have e313 : a.tmps.getD 59 undef = cV (true && (((r_276 && (decide (r_285 = 0))) && (!r_298)) == true)) (.int .i64 r_242) := hT.vals 16 rfl 59 rfl
              have hAp := hAp.add e313
              have e314 : a.tmps.getD 61 undef = cV (true && (((r_276 && (decide (r_285 = 0))) && (!r_298)) == true)) (.int .i64 (0 - r_247)) := hT.vals 18 rfl 61 rfl
              have hAp := hAp.add e314
              exact opk_gval hAp rfl rfl (g := true) (e := ((r_276 && (decide (r_285 = 0))) && (!r_298))) rfl (fun hg => r_eql (cv_get (hAp.get rfl) hg) (cv_get (hAp.get rfl) hg)) fun _ _ e => ⟨_, e, Chg.refl _ _, fun _ => Eq.refl _⟩
            · intro a w hT
              have hAp := hT.ag hA266 [] trivial (by kernel_rfl)
              have e315 : a.tmps.getD 58 undef = .bool ((r_276 && (decide (r_285 = 0))) && (!r_298)) := hT.vals 15 rfl 58 rfl
              have hAp := hAp.add e315
              have e316 : a.tmps.getD 62 undef = cV (true && (((r_276 && (decide (r_285 = 0))) && (!r_298)) == true)) (.bool (decide (r_242 = (0 - r_247)))) := hT.vals 19 rfl 62 rfl
              have hAp := hAp.add e316
              exact opk_val hAp rfl (r_pick_and (g := (true && (((r_276 && (decide (r_285 = 0))) && (!r_298)) == true))) (hAp.get rfl) (hAp.get rfl) (fun he => g_mkt rfl he)) fun _ _ e => ⟨_, e, Chg.refl _ _, fun _ => Eq.refl _⟩
            · intro a w hT
              have hAp := hT.ag hA266 [] trivial (by kernel_rfl)
              have e317 : a.tmps.getD 63 undef = .bool (((r_276 && (decide (r_285 = 0))) && (!r_298)) && (decide (r_242 = (0 - r_247)))) := hT.vals 20 rfl 63 rfl
              have hAp := hAp.add e317
              exact opk_val hAp rfl (r_move (hAp.get rfl)) fun _ _ e => ⟨_, e, Chg.refl _ _, fun _ => Eq.refl _⟩
            · intro a w hT
              have hAp := hT.ag hA266 [(9, .int .i64 r_242)] ⟨rfl, trivial⟩ (by kernel_rfl)
              have e318 : a.tmps.getD 64 undef = .bool (((r_276 && (decide (r_285 = 0))) && (!r_298)) && (decide (r_242 = (0 - r_247)))) := hT.vals 21 rfl 64 rfl
              have hAp := hAp.add e318
              exact opk_gval hAp rfl rfl (g := true) (e := (((r_276 && (decide (r_285 = 0))) && (!r_298)) && (decide (r_242 = (0 - r_247))))) rfl (fun hg => r_move (hAp.get rfl)) fun _ _ e => ⟨_, e, Chg.refl _ _, fun _ => Eq.refl _⟩
            · intro a w hT
              have hAp := hT.ag hA266 [] trivial (by kernel_rfl)
              have e319 : a.tmps.getD 64 undef = .bool (((r_276 && (decide (r_285 = 0))) && (!r_298)) && (decide (r_242 = (0 - r_247)))) := hT.vals 21 rfl 64 rfl
              have hAp := hAp.add e319
              have e320 : a.tmps.getD 65 undef = cV (true && ((((r_276 && (decide (r_285 = 0))) && (!r_298)) && (decide (r_242 = (0 - r_247)))) == true)) (.int .i64 r_242) := hT.vals 22 rfl 65 rfl
              have hAp := hAp.add e320
              exact opk_gval hAp rfl rfl (g := true) (e := (((r_276 && (decide (r_285 = 0))) && (!r_298)) && (decide (r_242 = (0 - r_247))))) rfl (fun hg => r_neq (cv_get (hAp.get rfl) hg) rfl) fun _ _ e => ⟨_, e, Chg.refl _ _, fun _ => Eq.refl _⟩
            · intro a w hT
              have hAp := hT.ag hA266 [] trivial (by kernel_rfl)
              have e321 : a.tmps.getD 64 undef = .bool (((r_276 && (decide (r_285 = 0))) && (!r_298)) && (decide (r_242 = (0 - r_247)))) := hT.vals 21 rfl 64 rfl
              have hAp := hAp.add e321
              have e322 : a.tmps.getD 66 undef = cV (true && ((((r_276 && (decide (r_285 = 0))) && (!r_298)) && (decide (r_242 = (0 - r_247)))) == true)) (.bool (decide (r_242 ≠ 0))) := hT.vals 23 rfl 66 rfl
              have hAp := hAp.add e322
              exact opk_val hAp rfl (r_pick_and (g := (true && ((((r_276 && (decide (r_285 = 0))) && (!r_298)) && (decide (r_242 = (0 - r_247)))) == true))) (hAp.get rfl) (hAp.get rfl) (fun he => g_mkt rfl he)) fun _ _ e => ⟨_, e, Chg.refl _ _, fun _ => Eq.refl _⟩
            · intro a w hT
              have hAp := hT.ag hA266 [] trivial (by kernel_rfl)
              have e323 : a.tmps.getD 67 undef = .bool ((((r_276 && (decide (r_285 = 0))) && (!r_298)) && (decide (r_242 = (0 - r_247)))) && (decide (r_242 ≠ 0))) := hT.vals 24 rfl 67 rfl
              have hAp := hAp.add e323
              exact opk_val hAp rfl (r_move (hAp.get rfl)) fun _ _ e => ⟨_, e, Chg.refl _ _, fun _ => Eq.refl _⟩
            · intro a w hT
              have hAp := hT.ag hA266 [(8, .pointer (some ⟨B_91, 0, none⟩))] ⟨rfl, trivial⟩ (by kernel_rfl)
              have e324 : a.tmps.getD 68 undef = .bool ((((r_276 && (decide (r_285 = 0))) && (!r_298)) && (decide (r_242 = (0 - r_247)))) && (decide (r_242 ≠ 0))) := hT.vals 25 rfl 68 rfl
              have hAp := hAp.add e324
              exact opk_gval hAp rfl rfl (g := true) (e := ((((r_276 && (decide (r_285 = 0))) && (!r_298)) && (decide (r_242 = (0 - r_247)))) && (decide (r_242 ≠ 0)))) rfl (fun hg => r_loadN (cs := [.int .i64 r_81_Kind, .string (Bs r_81_Name), .string (Bs r_81_Text), Sl.v r_81_Attrs, Sl.v r_208]) Try.underlying26 rfl ti_26 (hAp.get rfl) ((hB271.ext hT.chg).part 0 _ rfl)) fun _ _ e => ⟨_, e, Chg.refl _ _, fun _ => Eq.refl _⟩
            · intro a w hT
              have hAp := hT.ag hA266 [] trivial (by kernel_rfl)
              have e325 : a.tmps.getD 68 undef = .bool ((((r_276 && (decide (r_285 = 0))) && (!r_298)) && (decide (r_242 = (0 - r_247)))) && (decide (r_242 ≠ 0))) := hT.vals 25 rfl 68 rfl
              have hAp := hAp.add e325
              have e326 : a.tmps.getD 69 undef = cV (true && (((((r_276 && (decide (r_285 = 0))) && (!r_298)) && (decide (r_242 = (0 - r_247)))) && (decide (r_242 ≠ 0))) == true)) (.agg #[.int .i64 r_81_Kind, .string (Bs r_81_Name), .string (Bs r_81_Text), Sl.v r_81_Attrs, Sl.v r_208]) := hT.vals 26 rfl 69 rfl
              have hAp := hAp.add e326
              exact opk_gcall hAp rfl rfl (g := true) (e := ((((r_276 && (decide (r_285 = 0))) && (!r_298)) && (decide (r_242 = (0 - r_247)))) && (decide (r_242 ≠ 0)))) rfl (fun hg => r_call (args := #[.agg #[.int .i64 r_81_Kind, .string (Bs r_81_Name), .string (Bs r_81_Text), Sl.v r_81_Attrs, Sl.v r_208]]) Try.func21 (by decide) rfl (map_arr (ml_cons (cv_get (hAp.get rfl) hg) ml_nil)) rfl) (fun hg => hc328 ⟨⟨⟨⟨(b_and_t (b_and_t (b_and_t (b_and_t (g_t hg)).1).1).1).1, (of_decide_eq_true (b_and_t (b_and_t (b_and_t (b_and_t (g_t hg)).1).1).1).2)⟩, (b_not_t (b_and_t (b_and_t (b_and_t (g_t hg)).1).1).2)⟩, (of_decide_eq_true (b_and_t (b_and_t (g_t hg)).1).2)⟩, (of_decide_eq_true (b_and_t (g_t hg)).2)⟩ w hT.chg) fun _ _ _ e hE => ⟨_, e, hE, fun _ => Eq.refl _⟩
            · intro a w hT
              have hAp := hT.ag hA266 [(5, .pointer (some ⟨B_14, 0, none⟩))] ⟨rfl, trivial⟩ (by kernel_rfl)
              have e330 : a.tmps.getD 68 undef = .bool ((((r_276 && (decide (r_285 = 0))) && (!r_298)) && (decide (r_242 = (0 - r_247)))) && (decide (r_242 ≠ 0))) := hT.vals 25 rfl 68 rfl
              have hAp := hAp.add e330
              exact opk_gval hAp rfl rfl (g := true) (e := ((((r_276 && (decide (r_285 = 0))) && (!r_298)) && (decide (r_242 = (0 - r_247)))) && (decide (r_242 ≠ 0)))) rfl (fun hg => r_loadN (cs := [.int .i64 r_6_Kind, .string (Bs r_6_Name), .string (Bs r_6_Text), Sl.v r_6_Attrs, Sl.v r_6_Kids]) Try.underlying26 rfl ti_26 (hAp.get rfl) ((hB269.ext hT.chg).part 0 _ rfl)) fun _ _ e => ⟨_, e, Chg.refl _ _, fun _ => Eq.refl _⟩
            · intro a w hT
              have hAp := hT.ag hA266 [] trivial (by kernel_rfl)
              have e331 : a.tmps.getD 68 undef = .bool ((((r_276 && (decide (r_285 = 0))) && (!r_298)) && (decide (r_242 = (0 - r_247)))) && (decide (r_242 ≠ 0))) := hT.vals 25 rfl 68 rfl
              have hAp := hAp.add e331
              have e332 : a.tmps.getD 71 undef = cV (true && (((((r_276 && (decide (r_285 = 0))) && (!r_298)) && (decide (r_242 = (0 - r_247)))) && (decide (r_242 ≠ 0))) == true)) (.agg #[.int .i64 r_6_Kind, .string (Bs r_6_Name), .string (Bs r_6_Text), Sl.v r_6_Attrs, Sl.v r_6_Kids]) := hT.vals 28 rfl 71 rfl
              have hAp := hAp.add e332
              exact opk_gcall hAp rfl rfl (g := true) (e := ((((r_276 && (decide (r_285 = 0))) && (!r_298)) && (decide (r_242 = (0 - r_247)))) && (decide (r_242 ≠ 0)))) rfl (fun hg => r_call (args := #[.agg #[.int .i64 r_6_Kind, .string (Bs r_6_Name), .string (Bs r_6_Text), Sl.v r_6_Attrs, Sl.v r_6_Kids]]) Try.func21 (by decide) rfl (map_arr (ml_cons (cv_get (hAp.get rfl) hg) ml_nil)) rfl) (fun hg => hc334 ⟨⟨⟨⟨(b_and_t (b_and_t (b_and_t (b_and_t (g_t hg)).1).1).1).1, (of_decide_eq_true (b_and_t (b_and_t (b_and_t (b_and_t (g_t hg)).1).1).1).2)⟩, (b_not_t (b_and_t (b_and_t (b_and_t (g_t hg)).1).1).2)⟩, (of_decide_eq_true (b_and_t (b_and_t (g_t hg)).1).2)⟩, (of_decide_eq_true (b_and_t (g_t hg)).2)⟩ w hT.chg) fun _ _ _ e hE => ⟨_, e, hE, fun _ => Eq.refl _⟩
            · intro a w hT
              have hAp := hT.ag hA266 [] trivial (by kernel_rfl)
              have e336 : a.tmps.getD 68 undef = .bool ((((r_276 && (decide (r_285 = 0))) && (!r_298)) && (decide (r_242 = (0 - r_247)))) && (decide (r_242 ≠ 0))) := hT.vals 25 rfl 68 rfl
              have hAp := hAp.add e336
              have e337 : a.tmps.getD 72 undef = cV (true && (((((r_276 && (decide (r_285 = 0))) && (!r_298)) && (decide (r_242 = (0 - r_247)))) && (decide (r_242 ≠ 0))) == true)) (.int .i64 r_333) := hT.vals 29 rfl 72 rfl
              have hAp := hAp.add e337
              exact opk_gval hAp rfl rfl (g := true) (e := ((((r_276 && (decide (r_285 = 0))) && (!r_298)) && (decide (r_242 = (0 - r_247)))) && (decide (r_242 ≠ 0)))) rfl (fun hg => r_addI (cv_get (hAp.get rfl) hg) rfl (hS338 ⟨⟨⟨⟨(b_and_t (b_and_t (b_and_t (b_and_t (g_t hg)).1).1).1).1, (of_decide_eq_true (b_and_t (b_and_t (b_and_t (b_and_t (g_t hg)).1).1).1).2)⟩, (b_not_t (b_and_t (b_and_t (b_and_t (g_t hg)).1).1).2)⟩, (of_decide_eq_true (b_and_t (b_and_t (g_t hg)).1).2)⟩, (of_decide_eq_true (b_and_t (g_t hg)).2)⟩)) fun _ _ e => ⟨_, e, Chg.refl _ _, fun _ => Eq.refl _⟩
            · intro a w hT
              have hAp := hT.ag hA266 [] trivial (by kernel_rfl)
              have e340 : a.tmps.getD 68 undef = .bool ((((r_276 && (decide (r_285 = 0))) && (!r_298)) && (decide (r_242 = (0 - r_247)))) && (decide (r_242 ≠ 0))) := hT.vals 25 rfl 68 rfl
              have hAp := hAp.add e340
              have e341 : a.tmps.getD 70 undef = cV (true && (((((r_276 && (decide (r_285 = 0))) && (!r_298)) && (decide (r_242 = (0 - r_247)))) && (decide (r_242 ≠ 0))) == true)) (.int .i64 r_327) := hT.vals 27 rfl 70 rfl
              have hAp := hAp.add e341
              have e342 : a.tmps.getD 73 undef = cV (true && (((((r_276 && (decide (r_285 = 0))) && (!r_298)) && (decide (r_242 = (0 - r_247)))) && (decide (r_242 ≠ 0))) == true)) (.int .i64 (r_333 + 1)) := hT.vals 30 rfl 73 rfl
              have hAp := hAp.add e342
              exact opk_gval hAp rfl rfl (g := true) (e := ((((r_276 && (decide (r_285 = 0))) && (!r_298)) && (decide (r_242 = (0 - r_247)))) && (decide (r_242 ≠ 0)))) rfl (fun hg => r_eql (cv_get (hAp.get rfl) hg) (cv_get (hAp.get rfl) hg)) fun _ _ e => ⟨_, e, Chg.refl _ _, fun _ => Eq.refl _⟩
            · intro a w hT
              have hAp := hT.ag hA266 [] trivial (by kernel_rfl)
              have e343 : a.tmps.getD 68 undef = .bool ((((r_276 && (decide (r_285 = 0))) && (!r_298)) && (decide (r_242 = (0 - r_247)))) && (decide (r_242 ≠ 0))) := hT.vals 25 rfl 68 rfl
              have hAp := hAp.add e343
              have e344 : a.tmps.getD 74 undef = cV (true && (((((r_276 && (decide (r_285 = 0))) && (!r_298)) && (decide (r_242 = (0 - r_247)))) && (decide (r_242 ≠ 0))) == true)) (.bool (decide (r_327 = (r_333 + 1)))) := hT.vals 31 rfl 74 rfl
              have hAp := hAp.add e344
              exact opk_val hAp rfl (r_pick_and (g := (true && (((((r_276 && (decide (r_285 = 0))) && (!r_298)) && (decide (r_242 = (0 - r_247)))) && (decide (r_242 ≠ 0))) == true))) (hAp.get rfl) (hAp.get rfl) (fun he => g_mkt rfl he)) fun _ _ e => ⟨_, e, Chg.refl _ _, fun _ => Eq.refl _⟩
            · intro a w hT
              have hAp := hT.ag hA266 [] trivial (by kernel_rfl)
              have e345 : a.tmps.getD 75 undef = .bool (((((r_276 && (decide (r_285 = 0))) && (!r_298)) && (decide (r_242 = (0 - r_247)))) && (decide (r_242 ≠ 0))) && (decide (r_327 = (r_333 + 1)))) := hT.vals 32 rfl 75 rfl
              have hAp := hAp.add e345
              exact opk_val hAp rfl (r_move (hAp.get rfl)) fun _ _ e => ⟨_, e, Chg.refl _ _, fun _ => Eq.refl _⟩
            · intro a w hT
              have hAp := hT.ag hA266 [] trivial (by kernel_rfl)
              have e346 : a.tmps.getD 76 undef = .bool (((((r_276 && (decide (r_285 = 0))) && (!r_298)) && (decide (r_242 = (0 - r_247)))) && (decide (r_242 ≠ 0))) && (decide (r_327 = (r_333 + 1)))) := hT.vals 33 rfl 76 rfl
              have hAp := hAp.add e346
              exact opk_gcall hAp rfl rfl (g := true) (e := (((((r_276 && (decide (r_285 = 0))) && (!r_298)) && (decide (r_242 = (0 - r_247)))) && (decide (r_242 ≠ 0))) && (decide (r_327 = (r_333 + 1))))) rfl (fun hg => r_call (args := #[]) Try.func15 (by decide) rfl (map_arr ml_nil) rfl) (fun hg => hc348 ⟨⟨⟨⟨⟨(b_and_t (b_and_t (b_and_t (b_and_t (b_and_t (g_t hg)).1).1).1).1).1, (of_decide_eq_true (b_and_t (b_and_t (b_and_t (b_and_t (b_and_t (g_t hg)).1).1).1).1).2)⟩, (b_not_t (b_and_t (b_and_t (b_and_t (b_and_t (g_t hg)).1).1).1).2)⟩, (of_decide_eq_true (b_and_t (b_and_t (b_and_t (g_t hg)).1).1).2)⟩, (of_decide_eq_true (b_and_t (b_and_t (g_t hg)).1).2)⟩, (of_decide_eq_true (b_and_t (g_t hg)).2)⟩ w hT.chg) fun _ _ _ e hE => ⟨_, e, hE, fun _ => Eq.refl _⟩
            · intro a w hT
              have hAp := hT.ag hA266 [] trivial (by kernel_rfl)
              have e350 : a.tmps.getD 76 undef = .bool (((((r_276 && (decide (r_285 = 0))) && (!r_298)) && (decide (r_242 = (0 - r_247)))) && (decide (r_242 ≠ 0))) && (decide (r_327 = (r_333 + 1)))) := hT.vals 33 rfl 76 rfl
              have hAp := hAp.add e350
              have e351 : a.tmps.getD 77 undef = cV (true && ((((((r_276 && (decide (r_285 = 0))) && (!r_298)) && (decide (r_242 = (0 - r_247)))) && (decide (r_242 ≠ 0))) && (decide (r_327 = (r_333 + 1)))) == true)) (.bool r_347) := hT.vals 34 rfl 77 rfl
              have hAp := hAp.add e351
              exact opk_val hAp rfl (r_pick_and (g := (true && ((((((r_276 && (decide (r_285 = 0))) && (!r_298)) && (decide (r_242 = (0 - r_247)))) && (decide (r_242 ≠ 0))) && (decide (r_327 = (r_333 + 1)))) == true))) (hAp.get rfl) (hAp.get rfl) (fun he => g_mkt rfl he)) fun _ _ e => ⟨_, e, Chg.refl _ _, fun _ => Eq.refl _⟩
            · intro a w hT
              have hAp := hT.ag hA266 [] trivial (by kernel_rfl)
              have e352 : a.tmps.getD 78 undef = .bool ((((((r_276 && (decide (r_285 = 0))) && (!r_298)) && (decide (r_242 = (0 - r_247)))) && (decide (r_242 ≠ 0))) && (decide (r_327 = (r_333 + 1)))) && r_347) := hT.vals 35 rfl 78 rfl
              have hAp := hAp.add e352
              exact opk_val hAp rfl (r_assign (hAp.get rfl)) fun _ _ e => ⟨_, e, Chg.refl _ _, fun _ => Eq.refl _⟩
            · intro a353 w354 hE355 hag356 hv357
              have hA353 := hag356 [] trivial (by kernel_rfl)
              have e359 : a353.tmps.getD 4 undef = .bool ((((((r_276 && (decide (r_285 = 0))) && (!r_298)) && (decide (r_242 = (0 - r_247)))) && (decide (r_242 ≠ 0))) && (decide (r_327 = (r_333 + 1)))) && r_347) := hv357 36 rfl 4 rfl
              have hA360 := hA353.add e359
              have hB361 := hB269.ext hE355
              have hB362 := hB270.ext hE355
              have hB363 := hB271.ext hE355
              have hC364 : Chg [] w267 w354 := hE355
              refine PR_end (by kernel_rfl) ?_
              have hA365 := hA360.keep [(4, .bool ((((((r_276 && (decide (r_285 = 0))) && (!r_298)) && (decide (r_242 = (0 - r_247)))) && (decide (r_242 ≠ 0))) && (decide (r_327 = (r_333 + 1)))) && r_347))] ⟨rfl, trivial⟩
              refine then_normal ?_
              refine wp_ret ?_
              have ht366 := ht349 w354    hC364
              exact res_all (vs := [.bool ((((((r_276 && (decide (r_285 = 0))) && (!r_298)) && (decide (r_242 = (0 - r_247)))) && (decide (r_242 ≠ 0))) && (decide (r_327 = (r_333 + 1)))) && r_347)]) rfl hA365 ⟨res_of_tmp hA365 rfl, trivial⟩ ht366

end Go.Proofs.Ytpacegmmbabhjaa
