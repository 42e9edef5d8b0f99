/-
  PRINTED BY PROGRAM: for each function its condition (vc), and that this suffices (ok).
-/
import Derived.Test.YtpacegmmbabhjaaGT
namespace Go.Proofs.Ytpacegmmbabhjaa
open Go.RowKit
set_option linter.unusedVariables false

/-- The condition of topiary/topiarylaw05.TreeLimits. -/
def law05_TreeLimits.vc  (R : Value → World → Prop) (w : World) : Prop :=
CallK Try.prog 16 #[.int .i64 300] w [] (fun v w10 => ∃ (r_8_Kind : Int) (r_8_Name : Str) (r_8_Text : Str) (r_8_Attrs : Sl) (r_8_Kids : Sl), v = .agg #[.int .i64 r_8_Kind, .string (Bs r_8_Name), .string (Bs r_8_Text), Sl.v r_8_Attrs, Sl.v r_8_Kids] ∧
CallK Try.prog 12 #[.agg #[.int .i64 r_8_Kind, .string (Bs r_8_Name), .string (Bs r_8_Text), Sl.v r_8_Attrs, Sl.v r_8_Kids]] w10 [] (fun v w18 => ∃ (r_16 : Bool), v = .bool r_16 ∧
∃ V_30 : Int → Str → Str → Sl → Sl → World → Prop, (((r_16 = true)) → Calls Try.prog 16 #[.int .i64 301] w18 (Ret fun v w' => Ext w18 w' ∧ ∃ r_26_Kind : Int, ∃ r_26_Name : Str, ∃ r_26_Text : Str, ∃ r_26_Attrs : Sl, ∃ r_26_Kids : Sl, v = .agg #[.int .i64 r_26_Kind, .string (Bs r_26_Name), .string (Bs r_26_Text), Sl.v r_26_Attrs, Sl.v r_26_Kids] ∧ V_30 r_26_Kind r_26_Name r_26_Text r_26_Attrs r_26_Kids w')) ∧
(∀ (r_26_Kind : Int) (r_26_Name : Str) (r_26_Text : Str) (r_26_Attrs : Sl) (r_26_Kids : Sl) (w28 : World), Ext w18 w28 → (((r_16 = true)) → V_30 r_26_Kind r_26_Name r_26_Text r_26_Attrs r_26_Kids w28) →
∃ (r_39 : Bool), (((r_16 = true)) → Calls Try.prog 12 #[.agg #[.int .i64 r_26_Kind, .string (Bs r_26_Name), .string (Bs r_26_Text), Sl.v r_26_Attrs, Sl.v r_26_Kids]] w28 (Ret fun v w' => Ext w28 w' ∧ v = .bool r_39)) ∧
(∀ w41 : World, Ext w28 w41 →
∃ V_55 : Int → Str → Str → Sl → Sl → World → Prop, ((((r_16 = true) ∧ (r_39 = false))) → Calls Try.prog 17 #[.int .i64 60] w41 (Ret fun v w' => Ext w41 w' ∧ ∃ r_51_Kind : Int, ∃ r_51_Name : Str, ∃ r_51_Text : Str, ∃ r_51_Attrs : Sl, ∃ r_51_Kids : Sl, v = .agg #[.int .i64 r_51_Kind, .string (Bs r_51_Name), .string (Bs r_51_Text), Sl.v r_51_Attrs, Sl.v r_51_Kids] ∧ V_55 r_51_Kind r_51_Name r_51_Text r_51_Attrs r_51_Kids w')) ∧
(∀ (r_51_Kind : Int) (r_51_Name : Str) (r_51_Text : Str) (r_51_Attrs : Sl) (r_51_Kids : Sl) (w53 : World), Ext w41 w53 → ((((r_16 = true) ∧ (r_39 = false))) → V_55 r_51_Kind r_51_Name r_51_Text r_51_Attrs r_51_Kids w53) →
∃ (r_64 : Bool), ((((r_16 = true) ∧ (r_39 = false))) → Calls Try.prog 12 #[.agg #[.int .i64 r_51_Kind, .string (Bs r_51_Name), .string (Bs r_51_Text), Sl.v r_51_Attrs, Sl.v r_51_Kids]] w53 (Ret fun v w' => Ext w53 w' ∧ v = .bool r_64)) ∧
(∀ w66 : World, Ext w53 w66 →
∃ V_79 : Int → Str → Str → Sl → Sl → World → Prop, (((((r_16 = true) ∧ (r_39 = false)) ∧ (r_64 = true))) → Calls Try.prog 17 #[.int .i64 61] w66 (Ret fun v w' => Ext w66 w' ∧ ∃ r_75_Kind : Int, ∃ r_75_Name : Str, ∃ r_75_Text : Str, ∃ r_75_Attrs : Sl, ∃ r_75_Kids : Sl, v = .agg #[.int .i64 r_75_Kind, .string (Bs r_75_Name), .string (Bs r_75_Text), Sl.v r_75_Attrs, Sl.v r_75_Kids] ∧ V_79 r_75_Kind r_75_Name r_75_Text r_75_Attrs r_75_Kids w')) ∧
(∀ (r_75_Kind : Int) (r_75_Name : Str) (r_75_Text : Str) (r_75_Attrs : Sl) (r_75_Kids : Sl) (w77 : World), Ext w66 w77 → (((((r_16 = true) ∧ (r_39 = false)) ∧ (r_64 = true))) → V_79 r_75_Kind r_75_Name r_75_Text r_75_Attrs r_75_Kids w77) →
∃ (r_88 : Bool), (((((r_16 = true) ∧ (r_39 = false)) ∧ (r_64 = true))) → Calls Try.prog 12 #[.agg #[.int .i64 r_75_Kind, .string (Bs r_75_Name), .string (Bs r_75_Text), Sl.v r_75_Attrs, Sl.v r_75_Kids]] w77 (Ret fun v w' => Ext w77 w' ∧ v = .bool r_88)) ∧
(∀ w90 : World, Ext w77 w90 →
∃ V_104 : Int → Str → Str → Sl → Sl → World → Prop, ((((((r_16 = true) ∧ (r_39 = false)) ∧ (r_64 = true)) ∧ (r_88 = false))) → Calls Try.prog 17 #[.int .i64 20] w90 (Ret fun v w' => Ext w90 w' ∧ ∃ r_100_Kind : Int, ∃ r_100_Name : Str, ∃ r_100_Text : Str, ∃ r_100_Attrs : Sl, ∃ r_100_Kids : Sl, v = .agg #[.int .i64 r_100_Kind, .string (Bs r_100_Name), .string (Bs r_100_Text), Sl.v r_100_Attrs, Sl.v r_100_Kids] ∧ V_104 r_100_Kind r_100_Name r_100_Text r_100_Attrs r_100_Kids w')) ∧
(∀ (r_100_Kind : Int) (r_100_Name : Str) (r_100_Text : Str) (r_100_Attrs : Sl) (r_100_Kids : Sl) (w102 : World), Ext w90 w102 → ((((((r_16 = true) ∧ (r_39 = false)) ∧ (r_64 = true)) ∧ (r_88 = false))) → V_104 r_100_Kind r_100_Name r_100_Text r_100_Attrs r_100_Kids w102) →
∃ (r_113 : Int), ((((((r_16 = true) ∧ (r_39 = false)) ∧ (r_64 = true)) ∧ (r_88 = false))) → Calls Try.prog 18 #[.agg #[.int .i64 r_100_Kind, .string (Bs r_100_Name), .string (Bs r_100_Text), Sl.v r_100_Attrs, Sl.v r_100_Kids]] w102 (Ret fun v w' => Ext w102 w' ∧ v = .int .i64 r_113)) ∧
(∀ w115 : World, Ext w102 w115 →
∃ (r_124 : Bool), (((((((r_16 = true) ∧ (r_39 = false)) ∧ (r_64 = true)) ∧ (r_88 = false)) ∧ (r_113 = 20))) → Calls Try.prog 15 #[] w115 (Ret fun v w' => Ext w115 w' ∧ v = .bool r_124)) ∧
(∀ w126 : World, Ext w115 w126 →
R (.bool (((((r_16 && (!r_39)) && r_64) && (!r_88)) && (decide (r_113 = 20))) && r_124)) w126)))))))))))
set_option maxHeartbeats 1000000 in
set_option maxRecDepth 10000 in
theorem law05_TreeLimits.ok  {R : Value → World → Prop} {w : World} (ht0 : law05_TreeLimits.vc  R w) : Calls Try.prog 4 #[] w (Ret R) := by
  refine enter [] Try.func4 rfl Try.ntmps4 rfl ?_
  intro a0 hA0
  unfold law05_TreeLimits.vc at ht0
  refine wp_seq ?_
  refine wp_region_lit ?_
  refine sq (opk_val hA0 rfl (r_assign rfl) fun a1 hA1 _ => ?_)
  refine sq_end ?_
  have hA2 := hA1.keep [] trivial
  refine then_normal ?_
  refine wp_seq ?_
  refine wp_region_lit ?_
  refine sq (opk_val hA2 rfl (r_assign rfl) fun a3 hA3 _ => ?_)
  refine sq_end ?_
  have hA4 := hA3.keep [(1, .func (.func 16) #[] #[])] ⟨rfl, trivial⟩
  refine then_normal ?_
  refine wp_seq ?_
  refine wp_region_lit ?_
  refine sq (opk_val hA4 rfl (r_assign rfl) fun a5 hA5 _ => ?_)
  refine sq_end ?_
  have hA6 := hA5.keep [(1, .func (.func 16) #[] #[]), (2, .func (.func 17) #[] #[])] ⟨rfl, rfl, trivial⟩
  refine then_normal ?_
  refine wp_seq ?_
  refine wp_region_lit ?_
  refine sq (opk_val hA6 rfl (r_move (hA6.get rfl)) fun a7 hA7 _ => ?_)
  refine sq (opk_call hA7 rfl (r_callV (args := #[.int .i64 300]) Try.func16 (by decide) rfl (map_arr (ml_cons rfl ml_nil)) (hA7.get rfl)) ht0 fun a9 v15 w10 hA9 _ hn12 hz13 hK14 => ?_)
  obtain ⟨r_8_Kind, r_8_Name, r_8_Text, r_8_Attrs, r_8_Kids, rfl, ht11⟩ := hK14
  refine sq (opk_call hA9 rfl (r_call (args := #[.agg #[.int .i64 r_8_Kind, .string (Bs r_8_Name), .string (Bs r_8_Text), Sl.v r_8_Attrs, Sl.v r_8_Kids]]) Try.func12 (by decide) rfl (map_arr (ml_cons (hA9.get rfl) ml_nil)) rfl) ht11 fun a17 v23 w18 hA17 _ hn20 hz21 hK22 => ?_)
  obtain ⟨r_16, rfl, ht19⟩ := hK22
  refine sq (opk_val hA17 rfl (r_move (hA17.get rfl)) fun a24 hA24 _ => ?_)
  refine sq (opk_gval hA24 rfl rfl (g := true) (e := r_16) rfl (fun hg => r_move (hA24.get rfl)) fun a25 hA25 _ => ?_)
  obtain ⟨V_30, hc31, ht29⟩ := ht19
  refine sq (opk_gcallM hA25 rfl rfl (g := true) (e := r_16) rfl (fun hg => r_callV (args := #[.int .i64 301]) Try.func16 (by decide) rfl (map_arr (ml_cons rfl ml_nil)) (cv_get (hA25.get rfl) hg)) (fun hg => hc31 (g_t hg)) fun a27 v34 w28 hA27 _ hE32 hR33 => ?_)
  obtain ⟨⟨r_26_Kind, r_26_Name, r_26_Text, r_26_Attrs, r_26_Kids⟩, hx35, hV36⟩ := cvty (α := Int × Str × Str × Sl × Sl) (fun s => .agg #[.int .i64 s.1, .string (Bs s.2.1), .string (Bs s.2.2.1), Sl.v s.2.2.2.1, Sl.v s.2.2.2.2]) (fun s w => V_30 s.1 s.2.1 s.2.2.1 s.2.2.2.1 s.2.2.2.2 w) (fun hg => by obtain ⟨r_26_Kind, r_26_Name, r_26_Text, r_26_Attrs, r_26_Kids, h1, h2⟩ := hR33 hg; exact ⟨(r_26_Kind, r_26_Name, r_26_Text, r_26_Attrs, r_26_Kids), h1, h2⟩)
  rw [hx35] at hA27
  have hC37 : Chg [] w18 w28 := hE32
  have ht38 := ht29 r_26_Kind r_26_Name r_26_Text r_26_Attrs r_26_Kids w28 hE32 (fun hp => hV36 (g_mkt rfl hp))
  obtain ⟨r_39, hc43, ht42⟩ := ht38
  refine sq (opk_gcall hA27 rfl rfl (g := true) (e := r_16) rfl (fun hg => r_call (args := #[.agg #[.int .i64 r_26_Kind, .string (Bs r_26_Name), .string (Bs r_26_Text), Sl.v r_26_Attrs, Sl.v r_26_Kids]]) Try.func12 (by decide) rfl (map_arr (ml_cons (cv_get (hA27.get rfl) hg) ml_nil)) rfl) (fun hg => hc43 (g_t hg)) fun a40 w41 hA40 _ hE44 => ?_)
  have hC45 : Chg [] w28 w41 := hE44
  have ht46 := ht42 w41 hE44
  refine sq (opk_gval hA40 rfl rfl (g := true) (e := r_16) rfl (fun hg => r_not (cv_get (hA40.get rfl) hg)) fun a47 hA47 _ => ?_)
  refine sq (opk_val hA47 rfl (r_pick_and (g := (true && (r_16 == true))) (hA47.get rfl) (hA47.get rfl) (fun he => g_mkt rfl he)) fun a48 hA48 _ => ?_)
  refine sq (opk_val hA48 rfl (r_move (hA48.get rfl)) fun a49 hA49 _ => ?_)
  refine sq (opk_gval hA49 rfl rfl (g := true) (e := (r_16 && (!r_39))) rfl (fun hg => r_move (hA49.get rfl)) fun a50 hA50 _ => ?_)
  obtain ⟨V_55, hc56, ht54⟩ := ht46
  refine sq (opk_gcallM hA50 rfl rfl (g := true) (e := (r_16 && (!r_39))) rfl (fun hg => r_callV (args := #[.int .i64 60]) Try.func17 (by decide) rfl (map_arr (ml_cons rfl ml_nil)) (cv_get (hA50.get rfl) hg)) (fun hg => hc56 ⟨(b_and_t (g_t hg)).1, (b_not_t (b_and_t (g_t hg)).2)⟩) fun a52 v59 w53 hA52 _ hE57 hR58 => ?_)
  obtain ⟨⟨r_51_Kind, r_51_Name, r_51_Text, r_51_Attrs, r_51_Kids⟩, hx60, hV61⟩ := cvty (α := Int × Str × Str × Sl × Sl) (fun s => .agg #[.int .i64 s.1, .string (Bs s.2.1), .string (Bs s.2.2.1), Sl.v s.2.2.2.1, Sl.v s.2.2.2.2]) (fun s w => V_55 s.1 s.2.1 s.2.2.1 s.2.2.2.1 s.2.2.2.2 w) (fun hg => by obtain ⟨r_51_Kind, r_51_Name, r_51_Text, r_51_Attrs, r_51_Kids, h1, h2⟩ := hR58 hg; exact ⟨(r_51_Kind, r_51_Name, r_51_Text, r_51_Attrs, r_51_Kids), h1, h2⟩)
  rw [hx60] at hA52
  have hC62 : Chg [] w41 w53 := hE57
  have ht63 := ht54 r_51_Kind r_51_Name r_51_Text r_51_Attrs r_51_Kids w53 hE57 (fun hp => hV61 (g_mkt rfl (b_and_mk ⟨hp.1, (b_not_mk hp.2)⟩)))
  obtain ⟨r_64, hc68, ht67⟩ := ht63
  refine sq (opk_gcall hA52 rfl rfl (g := true) (e := (r_16 && (!r_39))) rfl (fun hg => r_call (args := #[.agg #[.int .i64 r_51_Kind, .string (Bs r_51_Name), .string (Bs r_51_Text), Sl.v r_51_Attrs, Sl.v r_51_Kids]]) Try.func12 (by decide) rfl (map_arr (ml_cons (cv_get (hA52.get rfl) hg) ml_nil)) rfl) (fun hg => hc68 ⟨(b_and_t (g_t hg)).1, (b_not_t (b_and_t (g_t hg)).2)⟩) fun a65 w66 hA65 _ hE69 => ?_)
  have hC70 : Chg [] w53 w66 := hE69
  have ht71 := ht67 w66 hE69
  refine sq (opk_val hA65 rfl (r_pick_and (g := (true && ((r_16 && (!r_39)) == true))) (hA65.get rfl) (hA65.get rfl) (fun he => g_mkt rfl he)) fun a72 hA72 _ => ?_)
  refine sq (opk_val hA72 rfl (r_move (hA72.get rfl)) fun a73 hA73 _ => ?_)
  refine sq (opk_gval hA73 rfl rfl (g := true) (e := ((r_16 && (!r_39)) && r_64)) rfl (fun hg => r_move (hA73.get rfl)) fun a74 hA74 _ => ?_)
  obtain ⟨V_79, hc80, ht78⟩ := ht71
  refine sq (opk_gcallM hA74 rfl rfl (g := true) (e := ((r_16 && (!r_39)) && r_64)) rfl (fun hg => r_callV (args := #[.int .i64 61]) Try.func17 (by decide) rfl (map_arr (ml_cons rfl ml_nil)) (cv_get (hA74.get rfl) hg)) (fun hg => hc80 ⟨⟨(b_and_t (b_and_t (g_t hg)).1).1, (b_not_t (b_and_t (b_and_t (g_t hg)).1).2)⟩, (b_and_t (g_t hg)).2⟩) fun a76 v83 w77 hA76 _ hE81 hR82 => ?_)
  obtain ⟨⟨r_75_Kind, r_75_Name, r_75_Text, r_75_Attrs, r_75_Kids⟩, hx84, hV85⟩ := cvty (α := Int × Str × Str × Sl × Sl) (fun s => .agg #[.int .i64 s.1, .string (Bs s.2.1), .string (Bs s.2.2.1), Sl.v s.2.2.2.1, Sl.v s.2.2.2.2]) (fun s w => V_79 s.1 s.2.1 s.2.2.1 s.2.2.2.1 s.2.2.2.2 w) (fun hg => by obtain ⟨r_75_Kind, r_75_Name, r_75_Text, r_75_Attrs, r_75_Kids, h1, h2⟩ := hR82 hg; exact ⟨(r_75_Kind, r_75_Name, r_75_Text, r_75_Attrs, r_75_Kids), h1, h2⟩)
  rw [hx84] at hA76
  have hC86 : Chg [] w66 w77 := hE81
  have ht87 := ht78 r_75_Kind r_75_Name r_75_Text r_75_Attrs r_75_Kids w77 hE81 (fun hp => hV85 (g_mkt rfl (b_and_mk ⟨(b_and_mk ⟨hp.1.1, (b_not_mk hp.1.2)⟩), hp.2⟩)))
  obtain ⟨r_88, hc92, ht91⟩ := ht87
  refine sq (opk_gcall hA76 rfl rfl (g := true) (e := ((r_16 && (!r_39)) && r_64)) rfl (fun hg => r_call (args := #[.agg #[.int .i64 r_75_Kind, .string (Bs r_75_Name), .string (Bs r_75_Text), Sl.v r_75_Attrs, Sl.v r_75_Kids]]) Try.func12 (by decide) rfl (map_arr (ml_cons (cv_get (hA76.get rfl) hg) ml_nil)) rfl) (fun hg => hc92 ⟨⟨(b_and_t (b_and_t (g_t hg)).1).1, (b_not_t (b_and_t (b_and_t (g_t hg)).1).2)⟩, (b_and_t (g_t hg)).2⟩) fun a89 w90 hA89 _ hE93 => ?_)
  have hC94 : Chg [] w77 w90 := hE93
  have ht95 := ht91 w90 hE93
  refine sq (opk_gval hA89 rfl rfl (g := true) (e := ((r_16 && (!r_39)) && r_64)) rfl (fun hg => r_not (cv_get (hA89.get rfl) hg)) fun a96 hA96 _ => ?_)
  refine sq (opk_val hA96 rfl (r_pick_and (g := (true && (((r_16 && (!r_39)) && r_64) == true))) (hA96.get rfl) (hA96.get rfl) (fun he => g_mkt rfl he)) fun a97 hA97 _ => ?_)
  refine sq (opk_val hA97 rfl (r_move (hA97.get rfl)) fun a98 hA98 _ => ?_)
  refine sq (opk_gval hA98 rfl rfl (g := true) (e := (((r_16 && (!r_39)) && r_64) && (!r_88))) rfl (fun hg => r_move (hA98.get rfl)) fun a99 hA99 _ => ?_)
  obtain ⟨V_104, hc105, ht103⟩ := ht95
  refine sq (opk_gcallM hA99 rfl rfl (g := true) (e := (((r_16 && (!r_39)) && r_64) && (!r_88))) rfl (fun hg => r_callV (args := #[.int .i64 20]) Try.func17 (by decide) rfl (map_arr (ml_cons rfl ml_nil)) (cv_get (hA99.get rfl) hg)) (fun hg => hc105 ⟨⟨⟨(b_and_t (b_and_t (b_and_t (g_t hg)).1).1).1, (b_not_t (b_and_t (b_and_t (b_and_t (g_t hg)).1).1).2)⟩, (b_and_t (b_and_t (g_t hg)).1).2⟩, (b_not_t (b_and_t (g_t hg)).2)⟩) fun a101 v108 w102 hA101 _ hE106 hR107 => ?_)
  obtain ⟨⟨r_100_Kind, r_100_Name, r_100_Text, r_100_Attrs, r_100_Kids⟩, hx109, hV110⟩ := cvty (α := Int × Str × Str × Sl × Sl) (fun s => .agg #[.int .i64 s.1, .string (Bs s.2.1), .string (Bs s.2.2.1), Sl.v s.2.2.2.1, Sl.v s.2.2.2.2]) (fun s w => V_104 s.1 s.2.1 s.2.2.1 s.2.2.2.1 s.2.2.2.2 w) (fun hg => by obtain ⟨r_100_Kind, r_100_Name, r_100_Text, r_100_Attrs, r_100_Kids, h1, h2⟩ := hR107 hg; exact ⟨(r_100_Kind, r_100_Name, r_100_Text, r_100_Attrs, r_100_Kids), h1, h2⟩)
  rw [hx109] at hA101
  have hC111 : Chg [] w90 w102 := hE106
  have ht112 := ht103 r_100_Kind r_100_Name r_100_Text r_100_Attrs r_100_Kids w102 hE106 (fun hp => hV110 (g_mkt rfl (b_and_mk ⟨(b_and_mk ⟨(b_and_mk ⟨hp.1.1.1, (b_not_mk hp.1.1.2)⟩), hp.1.2⟩), (b_not_mk hp.2)⟩)))
  obtain ⟨r_113, hc117, ht116⟩ := ht112
  refine sq (opk_gcall hA101 rfl rfl (g := true) (e := (((r_16 && (!r_39)) && r_64) && (!r_88))) rfl (fun hg => r_call (args := #[.agg #[.int .i64 r_100_Kind, .string (Bs r_100_Name), .string (Bs r_100_Text), Sl.v r_100_Attrs, Sl.v r_100_Kids]]) Try.func18 (by decide) rfl (map_arr (ml_cons (cv_get (hA101.get rfl) hg) ml_nil)) rfl) (fun hg => hc117 ⟨⟨⟨(b_and_t (b_and_t (b_and_t (g_t hg)).1).1).1, (b_not_t (b_and_t (b_and_t (b_and_t (g_t hg)).1).1).2)⟩, (b_and_t (b_and_t (g_t hg)).1).2⟩, (b_not_t (b_and_t (g_t hg)).2)⟩) fun a114 w115 hA114 _ hE118 => ?_)
  have hC119 : Chg [] w102 w115 := hE118
  have ht120 := ht116 w115 hE118
  refine sq (opk_gval hA114 rfl rfl (g := true) (e := (((r_16 && (!r_39)) && r_64) && (!r_88))) rfl (fun hg => r_eql (cv_get (hA114.get rfl) hg) rfl) fun a121 hA121 _ => ?_)
  refine sq (opk_val hA121 rfl (r_pick_and (g := (true && ((((r_16 && (!r_39)) && r_64) && (!r_88)) == true))) (hA121.get rfl) (hA121.get rfl) (fun he => g_mkt rfl he)) fun a122 hA122 _ => ?_)
  refine sq (opk_val hA122 rfl (r_move (hA122.get rfl)) fun a123 hA123 _ => ?_)
  obtain ⟨r_124, hc128, ht127⟩ := ht120
  refine sq (opk_gcall hA123 rfl rfl (g := true) (e := ((((r_16 && (!r_39)) && r_64) && (!r_88)) && (decide (r_113 = 20)))) rfl (fun hg => r_call (args := #[]) Try.func15 (by decide) rfl (map_arr ml_nil) rfl) (fun hg => hc128 ⟨⟨⟨⟨(b_and_t (b_and_t (b_and_t (b_and_t (g_t hg)).1).1).1).1, (b_not_t (b_and_t (b_and_t (b_and_t (b_and_t (g_t hg)).1).1).1).2)⟩, (b_and_t (b_and_t (b_and_t (g_t hg)).1).1).2⟩, (b_not_t (b_and_t (b_and_t (g_t hg)).1).2)⟩, (of_decide_eq_true (b_and_t (g_t hg)).2)⟩) fun a125 w126 hA125 _ hE129 => ?_)
  have hC130 : Chg [] w115 w126 := hE129
  have ht131 := ht127 w126 hE129
  refine sq (opk_val hA125 rfl (r_pick_and (g := (true && (((((r_16 && (!r_39)) && r_64) && (!r_88)) && (decide (r_113 = 20))) == true))) (hA125.get rfl) (hA125.get rfl) (fun he => g_mkt rfl he)) fun a132 hA132 _ => ?_)
  refine sq (opk_val hA132 rfl (r_assign (hA132.get rfl)) fun a133 hA133 _ => ?_)
  refine sq_end ?_
  have hA134 := hA133.keep [(0, .bool (((((r_16 && (!r_39)) && r_64) && (!r_88)) && (decide (r_113 = 20))) && r_124))] ⟨rfl, trivial⟩
  refine then_normal ?_
  refine wp_ret ?_
  exact res_all (vs := [.bool (((((r_16 && (!r_39)) && r_64) && (!r_88)) && (decide (r_113 = 20))) && r_124)]) rfl hA134 ⟨res_of_tmp hA134 rfl, trivial⟩ ht131

/-- The condition of topiary/topiarylaw05.TreeLimits.1. -/
def law05_TreeLimits_1.vc (n_1 : Int) (R : Value → World → Prop) (w : World) : Prop :=
∀ (w23 : World) (B_2 : Nat) (B_12 : Nat), New w B_2 w23 → New w B_12 w23 → B_2 ≠ B_12 → Chg [] w w23 →
∃ (J_93 : Int → Sl → World → Prop) (mu_94 : Int → Sl → World → Nat),
J_93 1 Sl.nil w23 ∧
(∀ (i_90 : Int) (c_91 : Sl) (w92 : World), J_93 i_90 c_91 w92 →
((i_90 < n_1) →
∀ (w164 : World) (B_163 : Nat), New w92 B_163 w164 → Chg [] w92 w164 →
∀ (_ : Box w164 B_163 26 [.int .i64 4, .string (Bs ([] : Str)), .string (Bs ([] : Str)), Sl.v Sl.nil, Sl.v Sl.nil]),
RunK Try.prog (Builtin.append_ #[24, 24] 24 #[Sl.v c_91, Sl.v (Sl.mk (some ⟨B_163, 0, none⟩) 1 1)]) w164 [B_2, B_12] (fun v w178 => ∃ (r_184 : Sl), v = Sl.v r_184 ∧
(I64 (i_90 + 1)) ∧
∀ (w188 : World), Chg [B_12] w178 w188 →
J_93 (i_90 + 1) r_184 w188 ∧ mu_94 (i_90 + 1) r_184 w188 < mu_94 i_90 c_91 w92)) ∧
((¬ (i_90 < n_1)) →
∀ (w206 : World), Chg [B_2] w92 w206 →
R (.agg #[.int .i64 1, .string (Bs ([] : Str)), .string (Bs ([] : Str)), Sl.v Sl.nil, Sl.v c_91]) w206))
set_option maxHeartbeats 1000000 in
set_option maxRecDepth 10000 in
theorem law05_TreeLimits_1.ok (n_1 : Int) {R : Value → World → Prop} {w : World} (ht0 : law05_TreeLimits_1.vc n_1 R w) : Calls Try.prog 16 #[.int .i64 n_1] w (Ret R) := by
  refine enter [.int .i64 n_1] Try.func16 rfl Try.ntmps16 rfl ?_
  intro a0 hA0
  unfold law05_TreeLimits_1.vc at ht0
  refine wp_seq ?_
  refine wp_region_lit ?_
  refine sq (opk_new (fun B => .pointer (some ⟨B, 0, none⟩)) hA0 rfl (r_alloc (cs := [.int .i64 0, .string (Bs ([] : Str)), .string (Bs ([] : Str)), Sl.v Sl.nil, Sl.v Sl.nil]) ti_26 rfl) fun a4 w3 B_2 hE5 hN6 hB7 hA4 _ => ?_)
  have hN8 : New w B_2 w3 := hN6
  have hC9 : Chg [] w w3 := hE5
  refine sq_end ?_
  have hA10 := hA4.keep [(0, .int .i64 n_1), (2, .pointer (some ⟨B_2, 0, none⟩))] ⟨rfl, rfl, trivial⟩
  refine then_normal ?_
  refine wp_seq ?_
  refine wp_region_lit ?_
  refine sq (opk_val hA10 rfl (r_build (vs := #[(0, .int .i64 1)]) (cells := #[.int .i64 1, .string (Bs ([] : Str)), .string (Bs ([] : Str)), Sl.v Sl.nil, Sl.v Sl.nil]) (map_arr2 (ml2_cons rfl (ml2_nil))) ti_26 Try.underlying26 pl_26 (by kernel_rfl)) fun a11 hA11 _ => ?_)
  refine sq (opk_new (fun B => .pointer (some ⟨B, 0, none⟩)) hA11 rfl (r_alloc (cs := [.int .i64 0, .string (Bs ([] : Str)), .string (Bs ([] : Str)), Sl.v Sl.nil, Sl.v Sl.nil]) ti_26 rfl) fun a14 w13 B_12 hE15 hN16 hB17 hA14 _ => ?_)
  have hne18 : B_2 ≠ B_12 := Nat.ne_of_lt (Nat.lt_of_lt_of_le hB7.lt hN16.ge)
  have hN19 := New.of hC9 hN16
  have hB20 := hB7.ext hE15
  have hC21 := hC9.more hE15
  have hN22 := hN8.up hE15.size
  refine sq (opk_store hA14 hB17 (r_store (vs := [.int .i64 1, .string (Bs ([] : Str)), .string (Bs ([] : Str)), Sl.v Sl.nil, Sl.v Sl.nil]) (hA14.get rfl) (hA14.get rfl) rfl ti_26 hB17 rfl (ones_all [.int .i64 1, .string (Bs ([] : Str)), .string (Bs ([] : Str)), Sl.v Sl.nil, Sl.v Sl.nil] rfl)) fun a24 w23 hS25 hB26 hA24 => ?_)
  have hB27 : Box w23 B_12 26 [.int .i64 1, .string (Bs ([] : Str)), .string (Bs ([] : Str)), Sl.v Sl.nil, Sl.v Sl.nil] := hB26
  have hB28 := hB20.keep hS25 (by simpa using hne18)
  have hC29 := hC21.storeNew hN19 hS25
  have hN30 := hN22.up hS25.size
  have hN31 := hN19.up hS25.size
  refine sq_end ?_
  have hA32 := hA24.keep [(0, .int .i64 n_1), (2, .pointer (some ⟨B_2, 0, none⟩)), (3, .pointer (some ⟨B_12, 0, none⟩))] ⟨rfl, rfl, rfl, trivial⟩
  refine then_normal ?_
  refine wp_seq ?_
  refine wp_seq ?_
  refine wp_region_lit ?_
  refine sq (opk_val hA32 rfl (r_assign rfl) fun a33 hA33 _ => ?_)
  refine sq_end ?_
  have hA34 := hA33.keep [(0, .int .i64 n_1), (2, .pointer (some ⟨B_2, 0, none⟩)), (3, .pointer (some ⟨B_12, 0, none⟩)), (4, .int .i64 1)] ⟨rfl, rfl, rfl, rfl, trivial⟩
  refine then_normal ?_
  refine wp_block ?_
  have ht146 := ht0 w23 B_2 B_12 hN30 hN31 hne18 hC29
  obtain ⟨J_93, mu_94, h0151, ht150⟩ := ht146
  refine wp_loop_st (σ := Int × Sl × World) (fun s a w => Ag 18 a [(0, .int .i64 n_1), (2, .pointer (some ⟨B_2, 0, none⟩)), (3, .pointer (some ⟨B_12, 0, none⟩)), (4, .int .i64 s.1)] ∧ Box w B_2 26 [.int .i64 0, .string (Bs ([] : Str)), .string (Bs ([] : Str)), Sl.v Sl.nil, Sl.v Sl.nil] ∧ Box w B_12 26 [.int .i64 1, .string (Bs ([] : Str)), .string (Bs ([] : Str)), Sl.v Sl.nil, Sl.v s.2.1] ∧ w = s.2.2 ∧ J_93 s.1 s.2.1 s.2.2) (fun s => mu_94 s.1 s.2.1 s.2.2) (1, Sl.nil, w23) ⟨hA34.keep [(0, .int .i64 n_1), (2, .pointer (some ⟨B_2, 0, none⟩)), (3, .pointer (some ⟨B_12, 0, none⟩)), (4, .int .i64 1)] ⟨rfl, rfl, rfl, rfl, trivial⟩, hB28, hB27, rfl, h0151⟩ ?_
  rintro ⟨i_90, c_91, w92⟩ a147 w_ ⟨hA147, hB148, hB149, hw_, hJ153⟩
  have hw_ : w92 = w_ := hw_.symm
  subst hw_
  have ht152 := ht150 i_90 c_91 _ hJ153
  refine wp_seq ?_
  refine wp_seq ?_
  refine wp_region_lit ?_
  refine sq (opk_val hA147 rfl (r_move (hA147.get rfl)) fun a154 hA154 _ => ?_)
  refine sq (opk_val hA154 rfl (r_move (hA154.get rfl)) fun a155 hA155 _ => ?_)
  refine sq (opk_val hA155 rfl (r_lss (hA155.get rfl) (hA155.get rfl)) fun a156 hA156 _ => ?_)
  refine sq_end ?_
  have hA157 := hA156.keep [(0, .int .i64 n_1), (2, .pointer (some ⟨B_2, 0, none⟩)), (3, .pointer (some ⟨B_12, 0, none⟩)), (4, .int .i64 i_90), (8, .bool (decide (i_90 < n_1)))] ⟨rfl, rfl, rfl, rfl, rfl, trivial⟩
  refine then_normal ?_
  refine wp_cond_split (hA157.get rfl) (fun hc => ?_) (fun hc => ?_)
  · have ht158 := ht152.1 (of_decide_eq_true hc)
    clear hc
    refine wp_skip ?_
    refine then_normal ?_
    refine wp_seq ?_
    refine wp_block ?_
    refine wp_region_lit ?_
    refine sq (opk_val hA157 rfl (r_fieldAddr (hA157.get rfl) Try.underlying26 rfl ti_24 (by decide)) fun a160 hA160 _ => ?_)
    refine sq (opk_val hA160 rfl (r_load1 Try.underlying24 rfl (hA160.get rfl) (hB149.cell 4 _ rfl)) fun a161 hA161 _ => ?_)
    refine sq (opk_val hA161 rfl (r_build (vs := #[(0, .int .i64 4)]) (cells := #[.int .i64 4, .string (Bs ([] : Str)), .string (Bs ([] : Str)), Sl.v Sl.nil, Sl.v Sl.nil]) (map_arr2 (ml2_cons rfl (ml2_nil))) ti_26 Try.underlying26 pl_26 (by kernel_rfl)) fun a162 hA162 _ => ?_)
    refine sq (opk_new (fun B => .slice (some ⟨B, 0, none⟩) 1 1) hA162 rfl (r_buildSlice (vs := #[(0, .agg #[.int .i64 4, .string (Bs ([] : Str)), .string (Bs ([] : Str)), Sl.v Sl.nil, Sl.v Sl.nil])]) (cs := [.int .i64 4, .string (Bs ([] : Str)), .string (Bs ([] : Str)), Sl.v Sl.nil, Sl.v Sl.nil]) (map_arr2 (ml2_cons (hA162.get rfl) (ml2_nil))) Try.underlying24 ti_26 rfl rfl (by kernel_rfl)) fun a165 w164 B_163 hE166 hN167 hB168 hA165 _ => ?_)
    have hne169 : B_2 ≠ B_163 := Nat.ne_of_lt (Nat.lt_of_lt_of_le hB148.lt hN167.ge)
    have hne170 : B_12 ≠ B_163 := Nat.ne_of_lt (Nat.lt_of_lt_of_le hB149.lt hN167.ge)
    have hN171 : New w92 B_163 w164 := hN167
    have hB172 := hB148.ext hE166
    have hB173 := hB149.ext hE166
    have hC174 : Chg [] w92 w164 := hE166
    have ht175 := ht158 w164 B_163 hN171  hC174
    have ht176 := ht175 hB168
    refine sq (opk_run hA165 rfl (fun _ _ hr => r_append (hA165.get rfl) (hA165.get rfl) hr) ht176 fun a177 v183 w178 hA177 _ hn180 hz181 hK182 => ?_)
    obtain ⟨r_184, rfl, ht179⟩ := hK182
    have hB185 := hB172.kept hn180 (.head _)
    have hB186 := hB173.kept hn180 (.tail _ (.head _))
    refine sq (opk_val hA177 rfl (r_fieldAddr (hA177.get rfl) Try.underlying26 rfl ti_24 (by decide)) fun a187 hA187 _ => ?_)
    refine sq (opk_store hA187 hB186 (r_store (vs := [Sl.v r_184]) (hA187.get rfl) (hA187.get rfl) rfl ti_24 hB186 rfl (ones_all [Sl.v r_184] rfl)) fun a189 w188 hS190 hB191 hA189 => ?_)
    have hB192 : Box w188 B_12 26 [.int .i64 1, .string (Bs ([] : Str)), .string (Bs ([] : Str)), Sl.v Sl.nil, Sl.v r_184] := hB191
    have hB193 := hB185.keep hS190 (by simpa using hne18)
    have hC194 : Chg [B_12] w178 w188 := hS190
    refine sq_end ?_
    have hA195 := hA189.keep [(0, .int .i64 n_1), (2, .pointer (some ⟨B_2, 0, none⟩)), (3, .pointer (some ⟨B_12, 0, none⟩)), (4, .int .i64 i_90)] ⟨rfl, rfl, rfl, rfl, trivial⟩
    refine block_normal ?_
    refine then_normal ?_
    refine wp_region_lit ?_
    refine sq (opk_val hA195 rfl (r_move (hA195.get rfl)) fun a196 hA196 _ => ?_)
    obtain ⟨hS198, ht199⟩ := ht179
    refine sq (opk_val hA196 rfl (r_addI (hA196.get rfl) rfl hS198) fun a197 hA197 _ => ?_)
    refine sq (opk_val hA197 rfl (r_assign (hA197.get rfl)) fun a200 hA200 _ => ?_)
    refine sq_end ?_
    have hA201 := hA200.keep [(0, .int .i64 n_1), (2, .pointer (some ⟨B_2, 0, none⟩)), (3, .pointer (some ⟨B_12, 0, none⟩)), (4, .int .i64 (i_90 + 1))] ⟨rfl, rfl, rfl, rfl, trivial⟩
    have ht202 := ht199 w188    hC194
    have hA203 := hA201.keep [(0, .int .i64 n_1), (2, .pointer (some ⟨B_2, 0, none⟩)), (3, .pointer (some ⟨B_12, 0, none⟩)), (4, .int .i64 (i_90 + 1))] ⟨rfl, rfl, rfl, rfl, trivial⟩
    exact then_normal ⟨(i_90 + 1, r_184, w188), ⟨hA203, hB193, hB192, rfl, ht202.1⟩, ht202.2⟩
  · have ht159 := ht152.2 (of_decide_eq_false hc)
    clear hc
    refine wp_exit ?_
    refine then_exit ?_
    refine then_exit ?_
    refine block_hit ?_
    have hA204 := hA157.keep [(2, .pointer (some ⟨B_2, 0, none⟩)), (3, .pointer (some ⟨B_12, 0, none⟩))] ⟨rfl, rfl, trivial⟩
    refine then_normal ?_
    refine wp_seq ?_
    refine wp_region_lit ?_
    refine sq (opk_val hA204 rfl (r_loadN (cs := [.int .i64 1, .string (Bs ([] : Str)), .string (Bs ([] : Str)), Sl.v Sl.nil, Sl.v c_91]) Try.underlying26 rfl ti_26 (hA204.get rfl) (hB149.part 0 _ rfl)) fun a205 hA205 _ => ?_)
    refine sq (opk_store hA205 hB148 (r_store (vs := [.int .i64 1, .string (Bs ([] : Str)), .string (Bs ([] : Str)), Sl.v Sl.nil, Sl.v c_91]) (hA205.get rfl) (hA205.get rfl) rfl ti_26 hB148 rfl (ones_all [.int .i64 1, .string (Bs ([] : Str)), .string (Bs ([] : Str)), Sl.v Sl.nil, Sl.v c_91] rfl)) fun a207 w206 hS208 hB209 hA207 => ?_)
    have hB210 : Box w206 B_2 26 [.int .i64 1, .string (Bs ([] : Str)), .string (Bs ([] : Str)), Sl.v Sl.nil, Sl.v c_91] := hB209
    have hB211 := hB149.keep hS208 (by simpa using hne18.symm)
    have hC212 : Chg [B_2] w92 w206 := hS208
    refine sq_end ?_
    have hA213 := hA207.keep [(2, .pointer (some ⟨B_2, 0, none⟩))] ⟨rfl, trivial⟩
    refine then_normal ?_
    refine wp_ret ?_
    have ht214 := ht159 w206    hC212
    exact res_all (vs := [.agg #[.int .i64 1, .string (Bs ([] : Str)), .string (Bs ([] : Str)), Sl.v Sl.nil, Sl.v c_91]]) rfl hA213 ⟨res_of_cell hA213 rfl hB210 Try.underlying26 rfl ti_26, trivial⟩ ht214

/-- The condition of topiary/topiarylaw05.TreeLimits.2. -/
def law05_TreeLimits_2.vc (n_1 : Int) (R : Value → World → Prop) (w : World) : Prop :=
∀ (w23 : World) (B_2 : Nat) (B_12 : Nat), New w B_2 w23 → New w B_12 w23 → B_2 ≠ B_12 → Chg [] w w23 →
∃ (J_81 : Int → Sl → World → Prop) (mu_82 : Int → Sl → World → Nat),
J_81 2 Sl.nil w23 ∧
(∀ (i_78 : Int) (c_79 : Sl) (w80 : World), J_81 i_78 c_79 w80 →
((i_78 < n_1) →
(I64 (i_78 + 1)) ∧
∀ (w150 : World) (B_137 : Nat), New w80 B_137 w150 → Chg [B_12] w80 w150 →
∀ (_ : Box w150 B_137 26 [.int .i64 2, .string (Bs ([97] : Str)), .string (Bs ([] : Str)), Sl.v Sl.nil, Sl.v c_79]),
J_81 (i_78 + 1) (Sl.mk (some ⟨B_137, 0, none⟩) 1 1) w150 ∧ mu_82 (i_78 + 1) (Sl.mk (some ⟨B_137, 0, none⟩) 1 1) w150 < mu_82 i_78 c_79 w80) ∧
((¬ (i_78 < n_1)) →
∀ (w184 : World) (B_171 : Nat), New w80 B_171 w184 → Chg [B_2] w80 w184 →
∀ (_ : Box w184 B_171 26 [.int .i64 2, .string (Bs ([97] : Str)), .string (Bs ([] : Str)), Sl.v Sl.nil, Sl.v c_79]),
R (.agg #[.int .i64 1, .string (Bs ([] : Str)), .string (Bs ([] : Str)), Sl.v Sl.nil, Sl.v (Sl.mk (some ⟨B_171, 0, none⟩) 1 1)]) w184))
set_option maxHeartbeats 1000000 in
set_option maxRecDepth 10000 in
theorem law05_TreeLimits_2.ok (n_1 : Int) {R : Value → World → Prop} {w : World} (ht0 : law05_TreeLimits_2.vc n_1 R w) : Calls Try.prog 17 #[.int .i64 n_1] w (Ret R) := by
  refine enter [.int .i64 n_1] Try.func17 rfl Try.ntmps17 rfl ?_
  intro a0 hA0
  unfold law05_TreeLimits_2.vc at ht0
  refine wp_seq ?_
  refine wp_region_lit ?_
  refine sq (opk_new (fun B => .pointer (some ⟨B, 0, none⟩)) hA0 rfl (r_alloc (cs := [.int .i64 0, .string (Bs ([] : Str)), .string (Bs ([] : Str)), Sl.v Sl.nil, Sl.v Sl.nil]) ti_26 rfl) fun a4 w3 B_2 hE5 hN6 hB7 hA4 _ => ?_)
  have hN8 : New w B_2 w3 := hN6
  have hC9 : Chg [] w w3 := hE5
  refine sq_end ?_
  have hA10 := hA4.keep [(0, .int .i64 n_1), (2, .pointer (some ⟨B_2, 0, none⟩))] ⟨rfl, rfl, trivial⟩
  refine then_normal ?_
  refine wp_seq ?_
  refine wp_region_lit ?_
  refine sq (opk_val hA10 rfl (r_build (vs := #[(0, .int .i64 2), (1, .string (Bs ([97] : Str)))]) (cells := #[.int .i64 2, .string (Bs ([97] : Str)), .string (Bs ([] : Str)), Sl.v Sl.nil, Sl.v Sl.nil]) (map_arr2 (ml2_cons rfl (ml2_cons rfl (ml2_nil)))) ti_26 Try.underlying26 pl_26 (by kernel_rfl)) fun a11 hA11 _ => ?_)
  refine sq (opk_new (fun B => .pointer (some ⟨B, 0, none⟩)) hA11 rfl (r_alloc (cs := [.int .i64 0, .string (Bs ([] : Str)), .string (Bs ([] : Str)), Sl.v Sl.nil, Sl.v Sl.nil]) ti_26 rfl) fun a14 w13 B_12 hE15 hN16 hB17 hA14 _ => ?_)
  have hne18 : B_2 ≠ B_12 := Nat.ne_of_lt (Nat.lt_of_lt_of_le hB7.lt hN16.ge)
  have hN19 := New.of hC9 hN16
  have hB20 := hB7.ext hE15
  have hC21 := hC9.more hE15
  have hN22 := hN8.up hE15.size
  refine sq (opk_store hA14 hB17 (r_store (vs := [.int .i64 2, .string (Bs ([97] : Str)), .string (Bs ([] : Str)), Sl.v Sl.nil, Sl.v Sl.nil]) (hA14.get rfl) (hA14.get rfl) rfl ti_26 hB17 rfl (ones_all [.int .i64 2, .string (Bs ([97] : Str)), .string (Bs ([] : Str)), Sl.v Sl.nil, Sl.v Sl.nil] rfl)) fun a24 w23 hS25 hB26 hA24 => ?_)
  have hB27 : Box w23 B_12 26 [.int .i64 2, .string (Bs ([97] : Str)), .string (Bs ([] : Str)), Sl.v Sl.nil, Sl.v Sl.nil] := hB26
  have hB28 := hB20.keep hS25 (by simpa using hne18)
  have hC29 := hC21.storeNew hN19 hS25
  have hN30 := hN22.up hS25.size
  have hN31 := hN19.up hS25.size
  refine sq_end ?_
  have hA32 := hA24.keep [(0, .int .i64 n_1), (2, .pointer (some ⟨B_2, 0, none⟩)), (3, .pointer (some ⟨B_12, 0, none⟩))] ⟨rfl, rfl, rfl, trivial⟩
  refine then_normal ?_
  refine wp_seq ?_
  refine wp_seq ?_
  refine wp_region_lit ?_
  refine sq (opk_val hA32 rfl (r_assign rfl) fun a33 hA33 _ => ?_)
  refine sq_end ?_
  have hA34 := hA33.keep [(0, .int .i64 n_1), (2, .pointer (some ⟨B_2, 0, none⟩)), (3, .pointer (some ⟨B_12, 0, none⟩)), (4, .int .i64 2)] ⟨rfl, rfl, rfl, rfl, trivial⟩
  refine then_normal ?_
  refine wp_block ?_
  have ht122 := ht0 w23 B_2 B_12 hN30 hN31 hne18 hC29
  obtain ⟨J_81, mu_82, h0127, ht126⟩ := ht122
  refine wp_loop_st (σ := Int × Sl × World) (fun s a w => Ag 17 a [(0, .int .i64 n_1), (2, .pointer (some ⟨B_2, 0, none⟩)), (3, .pointer (some ⟨B_12, 0, none⟩)), (4, .int .i64 s.1)] ∧ Box w B_2 26 [.int .i64 0, .string (Bs ([] : Str)), .string (Bs ([] : Str)), Sl.v Sl.nil, Sl.v Sl.nil] ∧ Box w B_12 26 [.int .i64 2, .string (Bs ([97] : Str)), .string (Bs ([] : Str)), Sl.v Sl.nil, Sl.v s.2.1] ∧ w = s.2.2 ∧ J_81 s.1 s.2.1 s.2.2) (fun s => mu_82 s.1 s.2.1 s.2.2) (2, Sl.nil, w23) ⟨hA34.keep [(0, .int .i64 n_1), (2, .pointer (some ⟨B_2, 0, none⟩)), (3, .pointer (some ⟨B_12, 0, none⟩)), (4, .int .i64 2)] ⟨rfl, rfl, rfl, rfl, trivial⟩, hB28, hB27, rfl, h0127⟩ ?_
  rintro ⟨i_78, c_79, w80⟩ a123 w_ ⟨hA123, hB124, hB125, hw_, hJ129⟩
  have hw_ : w80 = w_ := hw_.symm
  subst hw_
  have ht128 := ht126 i_78 c_79 _ hJ129
  refine wp_seq ?_
  refine wp_seq ?_
  refine wp_region_lit ?_
  refine sq (opk_val hA123 rfl (r_move (hA123.get rfl)) fun a130 hA130 _ => ?_)
  refine sq (opk_val hA130 rfl (r_move (hA130.get rfl)) fun a131 hA131 _ => ?_)
  refine sq (opk_val hA131 rfl (r_lss (hA131.get rfl) (hA131.get rfl)) fun a132 hA132 _ => ?_)
  refine sq_end ?_
  have hA133 := hA132.keep [(0, .int .i64 n_1), (2, .pointer (some ⟨B_2, 0, none⟩)), (3, .pointer (some ⟨B_12, 0, none⟩)), (4, .int .i64 i_78), (8, .bool (decide (i_78 < n_1)))] ⟨rfl, rfl, rfl, rfl, rfl, trivial⟩
  refine then_normal ?_
  refine wp_cond_split (hA133.get rfl) (fun hc => ?_) (fun hc => ?_)
  · have ht134 := ht128.1 (of_decide_eq_true hc)
    clear hc
    refine wp_skip ?_
    refine then_normal ?_
    refine wp_seq ?_
    refine wp_block ?_
    refine wp_region_lit ?_
    refine sq (opk_val hA133 rfl (r_loadN (cs := [.int .i64 2, .string (Bs ([97] : Str)), .string (Bs ([] : Str)), Sl.v Sl.nil, Sl.v c_79]) Try.underlying26 rfl ti_26 (hA133.get rfl) (hB125.part 0 _ rfl)) fun a136 hA136 _ => ?_)
    refine sq (opk_new (fun B => .slice (some ⟨B, 0, none⟩) 1 1) hA136 rfl (r_buildSlice (vs := #[(0, .agg #[.int .i64 2, .string (Bs ([97] : Str)), .string (Bs ([] : Str)), Sl.v Sl.nil, Sl.v c_79])]) (cs := [.int .i64 2, .string (Bs ([97] : Str)), .string (Bs ([] : Str)), Sl.v Sl.nil, Sl.v c_79]) (map_arr2 (ml2_cons (hA136.get rfl) (ml2_nil))) Try.underlying24 ti_26 rfl rfl (by kernel_rfl)) fun a139 w138 B_137 hE140 hN141 hB142 hA139 _ => ?_)
    have hne143 : B_2 ≠ B_137 := Nat.ne_of_lt (Nat.lt_of_lt_of_le hB124.lt hN141.ge)
    have hne144 : B_12 ≠ B_137 := Nat.ne_of_lt (Nat.lt_of_lt_of_le hB125.lt hN141.ge)
    have hN145 : New w80 B_137 w138 := hN141
    have hB146 := hB124.ext hE140
    have hB147 := hB125.ext hE140
    have hC148 : Chg [] w80 w138 := hE140
    refine sq (opk_val hA139 rfl (r_build (vs := #[(0, .int .i64 2), (1, .string (Bs ([97] : Str))), (4, Sl.v (Sl.mk (some ⟨B_137, 0, none⟩) 1 1))]) (cells := #[.int .i64 2, .string (Bs ([97] : Str)), .string (Bs ([] : Str)), Sl.v Sl.nil, Sl.v (Sl.mk (some ⟨B_137, 0, none⟩) 1 1)]) (map_arr2 (ml2_cons rfl (ml2_cons rfl (ml2_cons (hA139.get rfl) (ml2_nil))))) ti_26 Try.underlying26 pl_26 (by kernel_rfl)) fun a149 hA149 _ => ?_)
    refine sq (opk_store hA149 hB147 (r_store (vs := [.int .i64 2, .string (Bs ([97] : Str)), .string (Bs ([] : Str)), Sl.v Sl.nil, Sl.v (Sl.mk (some ⟨B_137, 0, none⟩) 1 1)]) (hA149.get rfl) (hA149.get rfl) rfl ti_26 hB147 rfl (ones_all [.int .i64 2, .string (Bs ([97] : Str)), .string (Bs ([] : Str)), Sl.v Sl.nil, Sl.v (Sl.mk (some ⟨B_137, 0, none⟩) 1 1)] rfl)) fun a151 w150 hS152 hB153 hA151 => ?_)
    have hB154 : Box w150 B_12 26 [.int .i64 2, .string (Bs ([97] : Str)), .string (Bs ([] : Str)), Sl.v Sl.nil, Sl.v (Sl.mk (some ⟨B_137, 0, none⟩) 1 1)] := hB153
    have hB155 := hB146.keep hS152 (by simpa using hne18)
    have hB156 := hB142.keep hS152 (by simpa using hne144.symm)
    have hC157 := hC148.storeOld hS152
    have hN158 := hN145.up hS152.size
    refine sq_end ?_
    have hA159 := hA151.keep [(0, .int .i64 n_1), (2, .pointer (some ⟨B_2, 0, none⟩)), (3, .pointer (some ⟨B_12, 0, none⟩)), (4, .int .i64 i_78)] ⟨rfl, rfl, rfl, rfl, trivial⟩
    refine block_normal ?_
    refine then_normal ?_
    refine wp_region_lit ?_
    refine sq (opk_val hA159 rfl (r_move (hA159.get rfl)) fun a160 hA160 _ => ?_)
    obtain ⟨hS162, ht163⟩ := ht134
    refine sq (opk_val hA160 rfl (r_addI (hA160.get rfl) rfl hS162) fun a161 hA161 _ => ?_)
    refine sq (opk_val hA161 rfl (r_assign (hA161.get rfl)) fun a164 hA164 _ => ?_)
    refine sq_end ?_
    have hA165 := hA164.keep [(0, .int .i64 n_1), (2, .pointer (some ⟨B_2, 0, none⟩)), (3, .pointer (some ⟨B_12, 0, none⟩)), (4, .int .i64 (i_78 + 1))] ⟨rfl, rfl, rfl, rfl, trivial⟩
    have ht166 := ht163 w150 B_137 hN158  hC157
    have ht167 := ht166 hB156
    have hA168 := hA165.keep [(0, .int .i64 n_1), (2, .pointer (some ⟨B_2, 0, none⟩)), (3, .pointer (some ⟨B_12, 0, none⟩)), (4, .int .i64 (i_78 + 1))] ⟨rfl, rfl, rfl, rfl, trivial⟩
    exact then_normal ⟨(i_78 + 1, (Sl.mk (some ⟨B_137, 0, none⟩) 1 1), w150), ⟨hA168, hB155, hB154, rfl, ht167.1⟩, ht167.2⟩
  · have ht135 := ht128.2 (of_decide_eq_false hc)
    clear hc
    refine wp_exit ?_
    refine then_exit ?_
    refine then_exit ?_
    refine block_hit ?_
    have hA169 := hA133.keep [(2, .pointer (some ⟨B_2, 0, none⟩)), (3, .pointer (some ⟨B_12, 0, none⟩))] ⟨rfl, rfl, trivial⟩
    refine then_normal ?_
    refine wp_seq ?_
    refine wp_region_lit ?_
    refine sq (opk_val hA169 rfl (r_loadN (cs := [.int .i64 2, .string (Bs ([97] : Str)), .string (Bs ([] : Str)), Sl.v Sl.nil, Sl.v c_79]) Try.underlying26 rfl ti_26 (hA169.get rfl) (hB125.part 0 _ rfl)) fun a170 hA170 _ => ?_)
    refine sq (opk_new (fun B => .slice (some ⟨B, 0, none⟩) 1 1) hA170 rfl (r_buildSlice (vs := #[(0, .agg #[.int .i64 2, .string (Bs ([97] : Str)), .string (Bs ([] : Str)), Sl.v Sl.nil, Sl.v c_79])]) (cs := [.int .i64 2, .string (Bs ([97] : Str)), .string (Bs ([] : Str)), Sl.v Sl.nil, Sl.v c_79]) (map_arr2 (ml2_cons (hA170.get rfl) (ml2_nil))) Try.underlying24 ti_26 rfl rfl (by kernel_rfl)) fun a173 w172 B_171 hE174 hN175 hB176 hA173 _ => ?_)
    have hne177 : B_2 ≠ B_171 := Nat.ne_of_lt (Nat.lt_of_lt_of_le hB124.lt hN175.ge)
    have hne178 : B_12 ≠ B_171 := Nat.ne_of_lt (Nat.lt_of_lt_of_le hB125.lt hN175.ge)
    have hN179 : New w80 B_171 w172 := hN175
    have hB180 := hB124.ext hE174
    have hB181 := hB125.ext hE174
    have hC182 : Chg [] w80 w172 := hE174
    refine sq (opk_val hA173 rfl (r_build (vs := #[(0, .int .i64 1), (4, Sl.v (Sl.mk (some ⟨B_171, 0, none⟩) 1 1))]) (cells := #[.int .i64 1, .string (Bs ([] : Str)), .string (Bs ([] : Str)), Sl.v Sl.nil, Sl.v (Sl.mk (some ⟨B_171, 0, none⟩) 1 1)]) (map_arr2 (ml2_cons rfl (ml2_cons (hA173.get rfl) (ml2_nil)))) ti_26 Try.underlying26 pl_26 (by kernel_rfl)) fun a183 hA183 _ => ?_)
    refine sq (opk_store hA183 hB180 (r_store (vs := [.int .i64 1, .string (Bs ([] : Str)), .string (Bs ([] : Str)), Sl.v Sl.nil, Sl.v (Sl.mk (some ⟨B_171, 0, none⟩) 1 1)]) (hA183.get rfl) (hA183.get rfl) rfl ti_26 hB180 rfl (ones_all [.int .i64 1, .string (Bs ([] : Str)), .string (Bs ([] : Str)), Sl.v Sl.nil, Sl.v (Sl.mk (some ⟨B_171, 0, none⟩) 1 1)] rfl)) fun a185 w184 hS186 hB187 hA185 => ?_)
    have hB188 : Box w184 B_2 26 [.int .i64 1, .string (Bs ([] : Str)), .string (Bs ([] : Str)), Sl.v Sl.nil, Sl.v (Sl.mk (some ⟨B_171, 0, none⟩) 1 1)] := hB187
    have hB189 := hB181.keep hS186 (by simpa using hne18.symm)
    have hB190 := hB176.keep hS186 (by simpa using hne177.symm)
    have hC191 := hC182.storeOld hS186
    have hN192 := hN179.up hS186.size
    refine sq_end ?_
    have hA193 := hA185.keep [(2, .pointer (some ⟨B_2, 0, none⟩))] ⟨rfl, trivial⟩
    refine then_normal ?_
    refine wp_ret ?_
    have ht194 := ht135 w184 B_171 hN192  hC191
    have ht195 := ht194 hB190
    exact res_all (vs := [.agg #[.int .i64 1, .string (Bs ([] : Str)), .string (Bs ([] : Str)), Sl.v Sl.nil, Sl.v (Sl.mk (some ⟨B_171, 0, none⟩) 1 1)]]) rfl hA193 ⟨res_of_cell hA193 rfl hB188 Try.underlying26 rfl ti_26, trivial⟩ ht195

end Go.Proofs.Ytpacegmmbabhjaa
