/-
  The laws of chapter 5: TreeLimits.
-/
import Derived.Test.YtpacegmmbabhjaaTreeA
import Derived.Test.YtpacegmmbabhjaaTreeC
import Derived.Test.YtpacegmmbabhjaaGlaw05TreeLimits
namespace Go.Proofs.Ytpacegmmbabhjaa
open Go.RowKit

/-- So many comments under a Root. -/
def wideT (n : Nat) : T := .node 1 [] [] [] (List.replicate (n - 1) (.node 4 [] [] [] []))
/-- Elements in one another. -/
def deepE : Nat → List T
  | 0 => []
  | n + 1 => [.node 2 [97] [] [] (deepE n)]
def deepT (n : Nat) : T := .node 1 [] [] [] (deepE (n - 1))

theorem wide_rd (n : Nat) (hn : 1 ≤ n ∧ n ≤ 1000) {w : World} : Calls Try.prog 16 #[.int .i64 (n : Int)] w (Ret fun v w' => Ext w w' ∧ ∃ sk : Sl, v = tv (wideT n) Sl.nil sk ∧ RdT [] w' (wideT n) Sl.nil sk) := by
  refine law05_TreeLimits_1.ok _ ?_
  unfold law05_TreeLimits_1.vc
  intro w1 B2 B12 hN2 hN12 _ hE1
  have g2 := hN2.ge
  have g12 := hN12.ge
  have l2 := hN2.lt
  have l12 := hN12.lt
  refine ⟨fun i c w' => ∃ k : Nat, i = (k : Int) + 1 ∧ k + 1 ≤ n ∧ Nur (List.range w1.heap.size) w' c (List.replicate k (.node 4 [] [] [] [])) ∧ w1.heap.size ≤ w'.heap.size ∧ Ext w w', fun i _ _ => n - i.toNat, ⟨0, by omega, by omega, Nur.nil _ _, Nat.le_refl _, hE1⟩, ?_⟩
  rintro _ c w2 ⟨k, rfl, hk, hN, hs, hE⟩
  refine ⟨fun hi w3 B3 hN3 hE3 hb3 => ?_, fun hi w3 hC3 => ?_⟩
  · have hs3 := hE3.size
    refine (hN.ext hE3).push (u := .node 4 [] [] [] []) (su := Sl.nil) (sk := Sl.nil) (fun b hb => by have := List.mem_range.1 hb; omega) hb3 (RdT.nil _ _ _ _ _) (by simp; omega) (fun b hb => List.mem_range.2 (by simp at hb; rcases hb with rfl | rfl <;> omega)) fun s' w4 hN4 hC4 _ => ⟨s', rfl, ⟨by omega, by omega⟩, fun w5 hC5 => ⟨⟨k + 1, by omega, by omega, ?_, ?_, ?_⟩, by dsimp only; omega⟩⟩
    · rw [List.replicate_succ', ]; exact hN4.chg hC5 (by simpa using l12)
    · have := hC4.size; have := hC5.size; omega
    · refine Chg.fresh (Chg.fresh (hE.trans hE3) hC4 fun b hb => ?_) hC5 (by simpa using g12)
      have := (hN.own.2.2.2 b (Sl.own_blk hb)).1
      simp at this; have := hE1.size; omega
  · have hkn : n - 1 = k := by omega
    have := ((hN.chg hC3 (by simpa using l2)).rd (k := 1) (n := []) (x := []) (ats := []) (Row.nil _ _ _)).less (A' := []) (by simp)
    refine ⟨Chg.fresh hE hC3 (by simpa using g2), c, rfl, ?_⟩
    unfold wideT; rw [hkn]; exact this

theorem deep_rd (n : Nat) (hn : 2 ≤ n ∧ n ≤ 1000) {w : World} : Calls Try.prog 17 #[.int .i64 (n : Int)] w (Ret fun v w' => Ext w w' ∧ ∃ sk : Sl, v = tv (deepT n) Sl.nil sk ∧ RdT [] w' (deepT n) Sl.nil sk) := by
  refine law05_TreeLimits_2.ok _ ?_
  unfold law05_TreeLimits_2.vc
  intro w1 B2 B12 hN2 hN12 _ hE1
  have g2 := hN2.ge
  have g12 := hN12.ge
  have l2 := hN2.lt
  have l12 := hN12.lt
  have hone : ∀ {w' : World} {B : Nat} {S : TypeId} {k : Nat} {c : Sl}, Box w' B S [.int .i64 2, .string (Bs [97]), .string (Bs []), Sl.v Sl.nil, Sl.v c] → w1.heap.size ≤ B → RdT (List.range w1.heap.size) w' (.node 2 [97] [] [] (deepE k)) Sl.nil c →
      RdT (List.range w1.heap.size) w' (.node 1 [] [] [] (deepE (k + 1))) Sl.nil (Sl.mk (some ⟨B, 0, none⟩) 1 1) := fun hb hB hr =>
    .mk [(Sl.nil, _)] (Row.nil _ _ _) rfl (Row.one (cs := tc (.node 2 [97] [] [] (deepE _)) (Sl.nil, _)) hb (by simp; omega)) (fun i t p ht hp => by
      cases i with
      | zero => simp [deepE] at ht hp; subst ht; subst hp; exact hr
      | succ i => simp [deepE] at ht)
  have rk : ∀ {w' : World} {k : Nat} {c : Sl} {a : Int} {m : Str}, RdT (List.range w1.heap.size) w' (.node a m [] [] (deepE k)) Sl.nil c → ∀ (b : Int) (o : Str), RdT (List.range w1.heap.size) w' (.node b o [] [] (deepE k)) Sl.nil c := fun h b o => by
    cases h with | mk ps ha hl hk h => exact .mk ps ha hl hk h
  refine ⟨fun i c w' => ∃ k : Nat, i = (k : Int) + 2 ∧ k + 2 ≤ n ∧ RdT (List.range w1.heap.size) w' (.node 2 [97] [] [] (deepE k)) Sl.nil c ∧ w1.heap.size ≤ w'.heap.size ∧ Ext w w', fun i _ _ => n - i.toNat, ⟨0, by omega, by omega, RdT.nil _ _ _ _ _, Nat.le_refl _, hE1⟩, ?_⟩
  rintro _ c w2 ⟨k, rfl, hk, hr, hs, hE⟩
  refine ⟨fun hi => ⟨⟨by omega, by omega⟩, fun w3 B3 hN3 hC3 hb3 => ⟨⟨k + 1, by omega, by omega, ?_, ?_, ?_⟩, by dsimp only; omega⟩⟩, fun hi w3 B3 hN3 hC3 hb3 => ?_⟩
  · have := hN3.ge
    exact rk (hone hb3 (by omega) (hr.chg hC3 (by simpa using l12))) 2 [97]
  · have := hC3.size; omega
  · exact Chg.fresh hE hC3 (by simpa using g12)
  · have := hN3.ge
    have h1 := (hone hb3 (by omega) (hr.chg hC3 (by simpa using l2))).less (A' := []) (by simp)
    refine ⟨Chg.fresh hE hC3 (by simpa using g2), _, rfl, ?_⟩
    have e : n - 1 = k + 1 := by omega
    unfold deepT; rw [e]; exact h1

theorem sum_rep (n x : Nat) : (List.replicate n x).sum = n * x := by
  induction n with
  | zero => simp
  | succ n ih => rw [List.replicate_succ, List.sum_cons, ih, Nat.succ_mul]; omega
theorem wide_size (n : Nat) (h : 1 ≤ n) : (wideT n).size = n := by
  rw [T.size_eq]
  have : (T.node 4 [] [] [] []).size = 1 := by simp [T.size_eq, T.kids]
  simp only [wideT, T.kids, List.map_replicate, this, sum_rep]; omega
theorem wide_bulk (n : Nat) (h : 1 ≤ n) : (wideT n).bulk = n := by
  rw [T.bulk_eq]
  have : (T.node 4 [] [] [] []).bulk = 1 := by simp [T.bulk_eq, T.kids, T.name, T.text, T.attrs]
  simp only [wideT, T.kids, T.name, T.text, T.attrs, List.map_replicate, this, sum_rep, List.length_nil, List.map_nil, List.sum_nil]; omega
theorem wide_depth (n : Nat) : (wideT n).depth ≤ 2 := by
  rw [T.depth_eq]
  have h1 : (T.node 4 [] [] [] []).depth = 1 := by simp [T.depth_eq, T.kids]
  have : ((wideT n).kids.map T.depth).foldr max 0 ≤ 1 := T.foldr_max_le fun x hx => by
    obtain ⟨u, hu, rfl⟩ := List.mem_map.1 hx
    have := List.eq_of_mem_replicate (show u ∈ List.replicate (n - 1) (T.node 4 [] [] [] []) from hu)
    rw [this, h1]; omega
  omega
theorem wide_kids (n : Nat) : kidsOk (wideT n) = true := by
  unfold kidsOk
  rw [List.all_eq_true]
  intro u hu
  have := List.eq_of_mem_replicate (show u ∈ List.replicate (n - 1) (T.node 4 [] [] [] []) from hu)
  subst this
  rw [nodeOk_ne (by simp [T.kind])]; rfl
theorem wide_check (n : Nat) (h : 1 ≤ n) : (wideT n).check = decide (n ≤ 300) := by
  unfold T.check
  rw [wide_size n h, wide_kids, decide_eq_true (show (wideT n).depth ≤ 60 from Nat.le_trans (wide_depth n) (by decide))]
  simp [wideT, T.kind, T.name, T.text, T.attrs]

theorem deepE_facts : ∀ n : Nat, ((deepE n).map T.size).sum = n ∧ ((deepE n).map T.depth).foldr max 0 = n ∧ ((deepE n).map T.bulk).sum = 2 * n ∧ ∀ u ∈ deepE n, nodeOk u = true ∧ u.kind = 2
  | 0 => by simp [deepE]
  | n + 1 => by
    obtain ⟨h1, h2, h3, h4⟩ := deepE_facts n
    have e1 : (T.node 2 [97] [] [] (deepE n)).size = 1 + n := by rw [T.size_eq]; simp only [T.kids, h1]
    have e2 : (T.node 2 [97] [] [] (deepE n)).depth = 1 + n := by rw [T.depth_eq]; simp only [T.kids, h2]
    have e3 : (T.node 2 [97] [] [] (deepE n)).bulk = 2 + 2 * n := by rw [T.bulk_eq]; simp only [T.kids, T.name, T.text, T.attrs, h3, List.length_nil, List.map_nil, List.sum_nil, List.length_cons]; omega
    have hk : kidsOk (T.node 2 [97] [] [] (deepE n)) = true := by
      unfold kidsOk
      rw [List.all_eq_true]
      intro u hu
      obtain ⟨h5, h6⟩ := h4 u hu
      rw [h5, h6]; rfl
    refine ⟨?_, ?_, ?_, ?_⟩
    · simp only [deepE, List.map_cons, List.map_nil, List.sum_cons, List.sum_nil, e1]; omega
    · simp only [deepE, List.map_cons, List.map_nil, List.foldr_cons, List.foldr_nil, e2]; omega
    · simp only [deepE, List.map_cons, List.map_nil, List.sum_cons, List.sum_nil, e3]; omega
    · intro u hu
      simp only [deepE, List.mem_singleton] at hu
      subst hu
      refine ⟨?_, rfl⟩
      rw [nodeOk_el rfl, hk, show nameOk (T.node 2 [97] [] [] (deepE n)).name = true by show nameOk [97] = true; decide +kernel]; rfl
theorem deep_depth (n : Nat) (h : 1 ≤ n) : (deepT n).depth = n := by
  rw [T.depth_eq]; simp only [deepT, T.kids, (deepE_facts _).2.1]; omega
theorem deep_size (n : Nat) (h : 1 ≤ n) : (deepT n).size = n := by
  rw [T.size_eq]; simp only [deepT, T.kids, (deepE_facts _).1]; omega
theorem deep_bulk (n : Nat) : (deepT n).bulk ≤ 2 * n + 1 := by
  rw [T.bulk_eq]; simp only [deepT, T.kids, T.name, T.text, T.attrs, (deepE_facts _).2.2.1, List.length_nil, List.map_nil, List.sum_nil]; omega
theorem deep_check (n : Nat) (h : 1 ≤ n) (h2 : n ≤ 300) : (deepT n).check = decide (n ≤ 60) := by
  have hk : kidsOk (deepT n) = true := by
    unfold kidsOk
    rw [List.all_eq_true]
    intro u hu
    obtain ⟨h5, h6⟩ := (deepE_facts (n - 1)).2.2.2 u hu
    rw [h5, h6]; rfl
  unfold T.check
  rw [deep_size n h, deep_depth n h, hk, decide_eq_true h2]
  simp [deepT, T.kind, T.name, T.text, T.attrs]

theorem treeLimitsLaw {w : World} : Calls Try.prog 4 #[] w (Ret fun v w' => Ext w w' ∧ v = .bool true) := by
  refine law05_TreeLimits.ok ?_
  unfold law05_TreeLimits.vc
  have b1 := wide_bulk 300 (by decide)
  have b2 := wide_bulk 301 (by decide)
  have b3 := deep_bulk 60
  have b4 := deep_bulk 61
  have b5 := deep_bulk 20
  refine CallK.ext (wide_rd 300 (by decide)) ?_
  rintro v w1 hE1 ⟨s1, rfl, h1⟩
  refine ⟨_, _, _, _, s1, rfl, CallK.exact (treeCheck _ (by omega) h1) fun w2 hE2 => ⟨_, rfl, fun k n x a b w' => k = (wideT 301).kind ∧ n = (wideT 301).name ∧ x = (wideT 301).text ∧ a = Sl.nil ∧ RdT [] w' (wideT 301) Sl.nil b, fun _ => ?_, ?_⟩⟩
  · refine Ret.mono (wide_rd 301 (by decide)) ?_
    rintro v w' ⟨hE, s, rfl, h⟩
    exact ⟨hE, _, _, _, _, s, rfl, rfl, rfl, rfl, rfl, h⟩
  intro k2 n2 x2 a2 s2 w3 hE3 hV3
  have c1 := wide_check 300 (by decide)
  have hV3 := hV3 (by rw [c1]; rfl)
  obtain ⟨rfl, rfl, rfl, rfl, h3⟩ := hV3
  refine ⟨_, fun _ => treeCheck (wideT 301) (by omega) h3, fun w4 hE4 => ⟨fun k n x a b w' => k = (deepT 60).kind ∧ n = (deepT 60).name ∧ x = (deepT 60).text ∧ a = Sl.nil ∧ RdT [] w' (deepT 60) Sl.nil b, fun _ => ?_, ?_⟩⟩
  · refine Ret.mono (deep_rd 60 (by decide)) ?_
    rintro v w' ⟨hE, s, rfl, h⟩
    exact ⟨hE, _, _, _, _, s, rfl, rfl, rfl, rfl, rfl, h⟩
  have c2 := wide_check 301 (by decide)
  have t1 : (wideT 300).check = true := by rw [c1]; rfl
  have t2 : (wideT 301).check = false := by rw [c2]; rfl
  intro k3 n3 x3 a3 s3 w5 hE5 hV5
  obtain ⟨rfl, rfl, rfl, rfl, h5⟩ := hV5 ⟨t1, t2⟩
  have t3 : (deepT 60).check = true := by rw [deep_check 60 (by decide) (by decide)]; rfl
  refine ⟨_, fun _ => treeCheck (deepT 60) (by omega) h5, fun w6 hE6 => ⟨fun k n x a b w' => k = (deepT 61).kind ∧ n = (deepT 61).name ∧ x = (deepT 61).text ∧ a = Sl.nil ∧ RdT [] w' (deepT 61) Sl.nil b, fun _ => ?_, ?_⟩⟩
  · refine Ret.mono (deep_rd 61 (by decide)) ?_
    rintro v w' ⟨hE, s, rfl, h⟩
    exact ⟨hE, _, _, _, _, s, rfl, rfl, rfl, rfl, rfl, h⟩
  intro k4 n4 x4 a4 s4 w7 hE7 hV7
  obtain ⟨rfl, rfl, rfl, rfl, h7⟩ := hV7 ⟨⟨t1, t2⟩, t3⟩
  have t4 : (deepT 61).check = false := by rw [deep_check 61 (by decide) (by decide)]; rfl
  refine ⟨_, fun _ => treeCheck (deepT 61) (by omega) h7, fun w8 hE8 => ⟨fun k n x a b w' => k = (deepT 20).kind ∧ n = (deepT 20).name ∧ x = (deepT 20).text ∧ a = Sl.nil ∧ RdT [] w' (deepT 20) Sl.nil b, fun _ => ?_, ?_⟩⟩
  · refine Ret.mono (deep_rd 20 (by decide)) ?_
    rintro v w' ⟨hE, s, rfl, h⟩
    exact ⟨hE, _, _, _, _, s, rfl, rfl, rfl, rfl, rfl, h⟩
  intro k5 n5 x5 a5 s5 w9 hE9 hV9
  obtain ⟨rfl, rfl, rfl, rfl, h9⟩ := hV9 ⟨⟨⟨t1, t2⟩, t3⟩, t4⟩
  refine ⟨_, fun _ => treeDepth (deepT 20) (by omega) h9, fun w10 hE10 => ⟨true, fun _ => treeAwake w10, fun w11 hE11 => ⟨(((((((((hE1.trans hE2).trans hE3).trans hE4).trans hE5).trans hE6).trans hE7).trans hE8).trans hE9).trans hE10).trans hE11, ?_⟩⟩⟩
  rw [t1, t2, t3, t4, deep_depth 20 (by decide)]; rfl

end Go.Proofs.Ytpacegmmbabhjaa
