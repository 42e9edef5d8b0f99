/-
  ApplySets.
-/
import Derived.Test.YtghmgfkdnolcdaaQApplySets2
import Derived.Test.YtghmgfkdnolcdaaQApplySetsGlaw23ApplySets
namespace Go.Proofs.Ytghmgfkdnolcdaa
open Go.RowKit Go.MapKept
def nm (k : Nat) : Str := (([97, 98, 99, 100, 101] : Str).drop k).take 1
theorem nm_lt : ∀ i j : Fin 5, i.1 < j.1 → cmpS (nm i.1) (nm j.1) < 0 := by decide
theorem nm_ok : ∀ i : Fin 5, nameOk (nm i.1) = true := by decide
def attrsC : Nat → List Str → List (Str × Str)
 |_, [] => []
 |j, c :: r => if c = [] then attrsC (j + 1) r else (nm j, c) :: attrsC (j + 1) r
theorem attrsC_names : ∀ (l : List Str) (j : Nat), ∀ p ∈ attrsC j l, ∃ i, j ≤ i ∧ i < j + l.length ∧ p.1 = nm i
 |[], _, p, hp => by cases hp
 |c :: r, j, p, hp => by
  rw [attrsC] at hp
  split at hp
  ·obtain ⟨i, h1, h2, h3⟩ := attrsC_names r (j + 1) p hp
   exact ⟨i, by omega, by simp; omega, h3⟩
  ·rcases List.mem_cons.1 hp with rfl | hp
   ·exact ⟨j, by omega, by simp, rfl⟩
   ·obtain ⟨i, h1, h2, h3⟩ := attrsC_names r (j + 1) p hp
    exact ⟨i, by omega, by simp; omega, h3⟩
theorem attrsC_len : ∀ (l : List Str) (j : Nat), (attrsC j l).length ≤ l.length
 |[], _ => Nat.le_refl _
 |c :: r, j => by
  have := attrsC_len r (j + 1)
  rw [attrsC]
  split <;> simp <;> omega
theorem attrsC_mem : ∀ (l : List Str) (j k : Nat), k < l.length → l.getD k [] ≠ [] → (nm (j + k), l.getD k []) ∈ attrsC j l
 |c :: r, j, 0, _, h => by
  rw [attrsC, if_neg (by simpa using h)]; simp
 |c :: r, j, k + 1, hk, h => by
  have := attrsC_mem r (j + 1) k (by simpa using hk) (by simpa using h)
  rw [show j + 1 + k = j + (k + 1) by omega] at this
  rw [attrsC]
  split
  ·simpa using this
  ·exact List.mem_cons_of_mem _ (by simpa using this)
theorem attrsC_app : ∀ (l m : List Str) (j : Nat), attrsC j (l ++ m) = attrsC j l ++ attrsC (j + l.length) m
 |[], m, j => by simp [attrsC]
 |c :: r, m, j => by
  rw [List.cons_append, attrsC, attrsC, attrsC_app r m (j + 1), List.length_cons, show j + 1 + r.length = j + (r.length + 1) by omega]
  split <;> rfl
theorem with_more {l : List (Str × Str)} {n v : Str} (h : ∀ p ∈ l, 0 < cmpS p.1 n) : withA l n v = (n, v) :: l := by
 unfold withA lessA moreA
 rw [filter_nil fun p hp => decide_eq_false (by have := h p hp; omega), filter_all fun p hp => decide_eq_true (h p hp)]; rfl
theorem with_less {l : List (Str × Str)} {p : Str × Str} {n v : Str} (h : cmpS p.1 n < 0) : withA (p :: l) n v = p :: withA l n v := by
 unfold withA lessA moreA
 rw [List.filter_cons, if_pos (decide_eq_true h), List.filter_cons, if_neg (by simp; omega)]; rfl
theorem with_eq {l : List (Str × Str)} {p : Str × Str} {n v : Str} (h : p.1 = n) : withA (p :: l) n v = withA l n v := by
 have h0 : cmpS p.1 n = 0 := (cmpS_zero _ _).2 h
 unfold withA lessA moreA
 rw [List.filter_cons, if_neg (by simp; omega), List.filter_cons, if_neg (by simp; omega)]
theorem nm_gt {i j : Nat} (h : j < i) (hi : i < 5) : 0 < cmpS (nm i) (nm j) := by
 have := nm_lt ⟨j, by omega⟩ ⟨i, hi⟩ h
 have := cmpS_anti (nm i) (nm j); simp only at *; omega
theorem with_set {v : Str} (hv : v ≠ []) : ∀ (l : List Str) (j k : Nat), k < l.length → j + l.length ≤ 5 → withA (attrsC j l) (nm (j + k)) v = attrsC j (l.set k v)
 |c :: r, j, 0, _, h5 => by
  rw [List.length_cons] at h5
  have hm := with_more (l := attrsC (j + 1) r) (n := nm j) (v := v) fun p hp => by
   obtain ⟨i, h1, h2, h3⟩ := attrsC_names r (j + 1) p hp
   rw [h3]; exact nm_gt (by omega) (by omega)
  rw [List.set_cons_zero, attrsC, attrsC, if_neg hv]
  show withA _ (nm j) v = _
  split
  ·exact hm
  ·exact (with_eq (p := (nm j, c)) rfl).trans hm
 |c :: r, j, k + 1, hk, h5 => by
  rw [List.length_cons] at h5 hk
  have ih := with_set hv r (j + 1) k (by omega) (by omega)
  rw [show j + 1 + k = j + (k + 1) by omega] at ih
  rw [List.set_cons_succ, attrsC, attrsC]
  split
  ·exact ih
  ·rw [with_less (nm_lt ⟨j, by omega⟩ ⟨j + (k + 1), by omega⟩ (by simp)), ih]
theorem without_set : ∀ (l : List Str) (j k : Nat), k < l.length → j + l.length ≤ 5 → withoutA (attrsC j l) (nm (j + k)) = attrsC j (l.set k [])
 |c :: r, j, 0, _, h5 => by
  rw [List.length_cons] at h5
  have hm : withoutA (attrsC (j + 1) r) (nm j) = attrsC (j + 1) r := filter_all fun p hp => decide_eq_true fun e => by
   obtain ⟨i, h1, h2, h3⟩ := attrsC_names r (j + 1) p hp
   have := nm_gt (i := i) (j := j) (by omega) (by omega)
   rw [← h3, e, (cmpS_zero _ _).2 rfl] at this; omega
  rw [List.set_cons_zero, attrsC, attrsC, if_pos rfl]
  show withoutA _ (nm j) = _
  split
  ·exact hm
  ·unfold withoutA at hm ⊢
   rw [List.filter_cons, if_neg (by simp)]; exact hm
 |c :: r, j, k + 1, hk, h5 => by
  rw [List.length_cons] at h5 hk
  have ih := without_set r (j + 1) k (by omega) (by omega)
  rw [show j + 1 + k = j + (k + 1) by omega] at ih
  rw [List.set_cons_succ, attrsC, attrsC]
  split
  ·exact ih
  ·have hne : nm j ≠ nm (j + (k + 1)) := fun e => by
    have := nm_lt ⟨j, by omega⟩ ⟨j + (k + 1), by omega⟩ (by simp)
    simp only at this
    rw [(cmpS_zero _ _).2 e] at this; omega
   unfold withoutA at ih ⊢
   rw [List.filter_cons, if_pos (decide_eq_true hne), ih]
def treeS (l : List Str) : I := .node 0 1 [] [] [] [.node 1 2 [112] [] (attrsC 0 l) []]
def t0 : T := .node 1 [] [] [] [.node 2 [112] [] [] []]
theorem t0_check : t0.check = true := by
 unfold T.check
 rw [T.size_eq, T.depth_eq]
 simp [t0, T.kind, T.name, T.text, T.attrs, T.kids, kidsOk, T.size_eq, T.depth_eq]
 rw [nodeOk_el (by simp [T.kind])]; rfl
def noC : List Str := [[], [], [], [], []]
theorem t0_num : I.num t0 0 = treeS noC := by
 rw [I.num_eq]
 simp [t0, T.kind, T.name, T.text, T.attrs, T.kids, I.numL, I.num, treeS, noC, attrsC]
theorem t0_span : t0.span ≤ 900000 := by
 have := check_span (I.num_okay t0_check)
 rwa [I.num_toT] at this
theorem treeS_find (l : List Str) : (treeS l).find 1 = some (.node 1 2 [112] [] (attrsC 0 l) [], 0, 2) := by
 unfold I.find
 rw [I.all_eq, treeS]
 simp only [I.mk_kids, I.mk_id, List.flatMap_cons, List.flatMap_nil, List.append_nil]
 rw [I.all_eq]
 simp [I.mk_kids, I.mk_id]
theorem treeS_upd (l : List Str) (a : List (Str × Str)) : (treeS l).upd 1 [] a = .node 0 1 [] [] [] [.node 1 2 [112] [] a []] := by
 rw [I.upd_eq]
 simp only [treeS, I.mk_id, I.mk_kind, I.mk_name, I.mk_text, I.mk_attrs, I.mk_kids, List.map_cons, List.map_nil]
 rw [I.upd_eq]
 simp [I.mk_id, I.mk_kind, I.mk_name, I.mk_text, I.mk_attrs, I.mk_kids]
def setO (k : Nat) (v : Str) : OpT := ⟨4, 1, 0, 0, 0, nm k, v⟩
def unsO (k : Nat) : OpT := ⟨5, 1, 0, 0, 0, nm k, []⟩
theorem set_step {l : List Str} (hl : l.length = 5) {k : Nat} (hk : k < 5) {v : Str} (hv : v ≠ []) (hv2 : v.length ≤ 3) : rightO (setO k v) = true ∧ opE (treeS l) (setO k v) = 0 ∧ opR (treeS l) (setO k v) = treeS (l.set k v) := by
 have haof : attrsOf (treeS l) 1 = attrsC 0 l := by unfold attrsOf; rw [treeS_find]; rfl
 refine ⟨?_, ?_, ?_⟩
 ·have e : needO (setO k v) = ⟨0, 0, 0, 0, 0, nm k, v⟩ := by unfold needO setO; simp
  unfold rightO
  rw [show (setO k v).kind = 4 from rfl, show (setO k v).id = 1 from rfl, if_neg (by decide), if_neg (by decide), e]
  simp [setO]
 ·unfold opE
  rw [show (setO k v).kind = 4 from rfl, if_neg (by decide), if_neg (by decide), if_neg (by decide), if_pos rfl]
  show setE (treeS l) 1 (nm k) v = 0
  unfold setE
  rw [treeS_find]
  simp only
  have hlen := attrsC_len l 0
  rw [if_neg (by simp [I.mk_kind]), if_neg (by have := nm_ok ⟨k, hk⟩; rw [this]; decide), if_neg]
  rintro (h | ⟨_, h⟩)
  ·omega
  ·rw [I.mk_attrs] at h; omega
 ·unfold opR
  rw [show (setO k v).kind = 4 from rfl, if_neg (by decide), if_neg (by decide), if_neg (by decide), if_pos rfl]
  show (treeS l).upd 1 [] (withA (attrsOf (treeS l) 1) (nm k) v) = _
  have hw := with_set hv l 0 k (by omega) (by omega)
  rw [Nat.zero_add] at hw
  rw [haof, hw, treeS_upd]; rfl
theorem uns_step {l : List Str} (hl : l.length = 5) {k : Nat} (hk : k < 5) (hv : l.getD k [] ≠ []) : rightO (unsO k) = true ∧ opE (treeS l) (unsO k) = 0 ∧ opR (treeS l) (unsO k) = treeS (l.set k []) := by
 have haof : attrsOf (treeS l) 1 = attrsC 0 l := by unfold attrsOf; rw [treeS_find]; rfl
 refine ⟨?_, ?_, ?_⟩
 ·have e : needO (unsO k) = ⟨0, 0, 0, 0, 0, nm k, []⟩ := by unfold needO unsO; simp
  unfold rightO
  rw [show (unsO k).kind = 5 from rfl, show (unsO k).id = 1 from rfl, if_neg (by decide), if_neg (by decide), e]
  simp [unsO]
 ·unfold opE
  rw [show (unsO k).kind = 5 from rfl, if_neg (by decide), if_neg (by decide), if_neg (by decide), if_neg (by decide), if_pos rfl]
  show unsE (treeS l) 1 (nm k) = 0
  unfold unsE
  rw [treeS_find]
  simp only
  have hm := attrsC_mem l 0 k (by omega) hv
  rw [Nat.zero_add] at hm
  rw [if_neg (by simp [I.mk_kind]), if_pos]
  unfold hasA
  rw [I.mk_attrs]
  exact List.any_eq_true.2 ⟨_, hm, by simp⟩
 ·unfold opR
  rw [show (unsO k).kind = 5 from rfl, if_neg (by decide), if_neg (by decide), if_neg (by decide), if_neg (by decide), if_pos rfl]
  show (treeS l).upd 1 [] (withoutA (attrsOf (treeS l) 1) (nm k)) = _
  have hw := without_set l 0 k (by omega) (by omega)
  rw [Nat.zero_add] at hw
  rw [haof, hw, treeS_upd]; rfl
theorem runI_snoc : ∀ (l : List OpT) (R : I) (k : Nat) {n : Nat} {S : I} {o : OpT}, runI R l k = (n, 0, S) → rightO o = true → opE S o = 0 → runI R (l ++ [o]) k = (n + 1, 0, opR S o)
 |[], R, k, n, S, o, h, h1, h2 => by
  rw [runI] at h
  injection h with e1 e2
  injection e2 with _ e2
  subst e1; subst e2
  rw [List.nil_append, runI, if_neg (by rw [h1]; decide), if_pos h2]; rfl
 |x :: r, R, k, n, S, o, h, h1, h2 => by
  rw [runI] at h
  rw [List.cons_append, runI]
  by_cases k1 : rightO x = false
  ·rw [if_pos k1] at h
   injection h with _ e2
   injection e2 with e2 _
   cases e2
  ·rw [if_neg k1] at h ⊢
   by_cases k2 : opE R x = 0
   ·rw [if_pos k2] at h ⊢
    exact runI_snoc r _ _ h h1 h2
   ·rw [if_neg k2] at h
    injection h with _ e2
    injection e2 with e2 _
    exact absurd e2 k2
theorem five {l : List Str} (h : l.length = 5) : [l.getD 0 [], l.getD 1 [], l.getD 2 [], l.getD 3 [], l.getD 4 []] = l := by
 match l, h with
 |[a, b, c, d, e], _ => rfl
theorem tdiv5 {z : Int} (h : -9223372036854775808 ≤ z ∧ z ≤ 9223372036854775807) : -9223372036854775808 ≤ z.tdiv 5 ∧ z.tdiv 5 ≤ 9223372036854775807 := by
 have : (z.tdiv 5).natAbs = z.natAbs / 5 := Int.natAbs_tdiv z 5
 omega
theorem emodN (z : Int) {n : Nat} (hn : 0 < n) : ∃ k : Nat, z.emod (n : Int) = (k : Int) ∧ k < n := by
 have h1 : 0 ≤ z.emod (n : Int) := Int.emod_nonneg z (by omega)
 have h2 : z.emod (n : Int) < n := Int.emod_lt_of_pos z (by omega)
 generalize z.emod (n : Int) = q at h1 h2
 exact ⟨q.toNat, by omega, by omega⟩
theorem applySetsLaw {w : World} {l : Sl} {zs : List Int} (hl : Row [] w l 1 (zs.map ic)) (hz : ∀ z ∈ zs, -9223372036854775808 ≤ z ∧ z ≤ 9223372036854775807) :
  Calls Try.prog 11 #[l.v] w (Ret fun v w' => Ext w w' ∧ v = .bool true) := by
 refine law23_ApplySets.ok _ ?_
 unfold law23_ApplySets.vc
 intro w1 B1 hN1 hE1
 have hge1 := hN1.ge
 have hlt1 := hN1.lt
 have hln := hl.len
 rw [List.length_map] at hln
 obtain ⟨A, hA⟩ : ∃ A, A = List.range w1.heap.size := ⟨_, rfl⟩
 have hB1A : B1 ∈ A := by rw [hA]; exact List.mem_range.2 hlt1
 have hoA : ∀ b ∈ A, b < w1.heap.size := fun b hb => List.mem_range.1 (hA ▸ hb)
 have hAo : ∀ b, b < w1.heap.size → b ∈ A := fun b hb => hA ▸ List.mem_range.2 hb
 clear hA
 refine ⟨fun s i c0 c1 c2 c3 c4 w' => ∃ (m : Nat) (L : List OpT), i = (m : Int) ∧ m ≤ zs.length ∧ m ≤ 30 ∧ L.length ≤ m ∧ Own A w' s 7 48 (L.map oc) ∧ runI (treeS noC) L 0 = (L.length, 0, treeS [c0, c1, c2, c3, c4]) ∧ Ext w w' ∧ w1.heap.size ≤ w'.heap.size,
  fun _ i _ _ _ _ _ _ => 30 - i.toNat, ⟨0, [], rfl, by omega, by omega, by simp, Own.nil _ _ _ _, rfl, hE1, Nat.le_refl _⟩, ?_⟩
 rintro s _ c0 c1 c2 c3 c4 w2 ⟨m, L, rfl, hmz, hm30, hLm, hown, hrun, hE2, hs2⟩
 refine ⟨fun hi w3 hE3 => ?_, fun hi => ?_⟩
 ·have hm' : m < zs.length := by omega
  have hE03 := hE2.trans hE3
  obtain ⟨p, hp, _, hcell, _⟩ := (hl.ext hE03).at_ m (by simpa using hm')
  have hgd : (zs.map ic).getD m [] = ic zs[m] := by simp [List.getD_eq_getElem?_getD, hm']
  rw [hgd] at hcell
  have hc0 : w3.cell? (p.add (m * 1)) = some (.int .i64 zs[m]) := by have := hcell 0 _ rfl; rwa [Addr.add_zero'] at this
  have hzr := hz zs[m] (List.getElem_mem hm')
  generalize zs[m] = z at hc0 hzr
  have hzd := tdiv5 hzr
  obtain ⟨k, hk, hk5⟩ := emodN z (n := 5) (by omega)
  obtain ⟨v, hv, hv4⟩ := emodN (z.tdiv 5) (n := 4) (by omega)
  have hk' : z.emod 5 = (k : Int) := hk
  have hv' : (z.tdiv 5).emod 4 = (v : Int) := hv
  rw [Int.toNat_natCast]
  refine ⟨p, ⟨⟨by omega, hi.1⟩, hp⟩, z, hc0, (k : Int), fun w' _ => by have := place (w := w') z 5 (by omega) (by omega); rwa [hk'] at this, p, ⟨⟨by omega, hi.1⟩, hp⟩, z, hc0, ⟨hzd.1, hzd.2⟩, (v : Int), fun w' _ => by have := place (w := w') (z.tdiv 5) 4 (by omega) (by omega); rwa [hv'] at this, fun w4 hE4 => ⟨⟨by omega, by omega⟩, ⟨by omega, by omega, by simp; omega⟩, ⟨by omega, by simp; omega⟩, fun w5 B5 hE5 hB5 hbox5 => ?_⟩⟩
  have hE04 := hE03.trans hE4
  have hE05 := hE04.trans hE5
  have hs4 : w1.heap.size ≤ w4.heap.size := Nat.le_trans hs2 (Nat.le_trans hE3.size hE4.size)
  have hown4 := (hown.ext hE3).ext hE4
  have hown5 : Own (B5 :: A) w5 s 7 48 (L.map oc) := (hown4.fresh hB5).ext hE5
  have hB5lt := hbox5.lt
  have hB5A : B5 ∉ A := fun hm => by have := hoA _ hm; omega
  have hfr5 : ∀ b ∈ [B5], w.heap.size ≤ b := by simp only [List.mem_singleton]; rintro b rfl; exact Nat.le_trans hE04.size hB5
  rw [Int.toNat_natCast]
  have hone : ((k : Int) + 1).toNat - k = 1 := by omega
  rw [hone]
  refine ⟨fun c t w' => Own (B5 :: A) w' s 7 48 (L.map oc) ∧ Ext w w' ∧ w5.heap.size ≤ w'.heap.size ∧ ((c = 4 ∧ t ≠ [] ∧ t.length ≤ 3) ∨ (c = 5 ∧ t = [] ∧ ([c0, c1, c2, c3, c4] : List Str).getD k [] ≠ [])), ⟨fun h0 => ⟨⟨by omega, by omega⟩, fun _ => ⟨⟨by omega, by omega⟩, fun w6 hC6 => ?_⟩, fun hne w6 hC6 => ?_⟩, fun h0 w6 hC6 => ?_⟩, ?_⟩
  ·exact ⟨⟨m + 1, L, by omega, by omega, by omega, by omega, (hown5.chg hC6 (by simp)).less fun b hb => List.mem_cons_of_mem _ hb, hrun, Chg.fresh hE05 hC6 hfr5, by have := hC6.size; have := hE5.size; omega⟩, by dsimp only; omega⟩
  ·exact ⟨hown5.chg hC6 (by simp), Chg.fresh hE05 hC6 hfr5, hC6.size, .inr ⟨rfl, rfl, hne⟩⟩
  ·refine ⟨hown5.chg hC6 (by simp), Chg.fresh hE05 hC6 hfr5, hC6.size, .inl ⟨rfl, fun e => ?_, by rw [List.length_take]; exact Nat.min_le_right _ _⟩⟩
   have := congrArg List.length e
   simp at this
   omega
  rintro c t w6 ⟨hown6, hE6, hs6, hct⟩
  refine ⟨⟨by omega, by omega⟩, fun w7 B7 hN7 hC7 hbox7 => ?_⟩
  have hE07 : Ext w w7 := Chg.fresh hE6 hC7 (by simpa using hge1)
  have hown7 := hown6.chg hC7 (by simp [hB1A])
  have hstep : ∃ o : OpT, oc o = [.int .i64 c, .int .i64 1, .int .i64 0, .int .i64 0, .int .i64 0, .string (Bs (nm k)), .string (Bs t)] ∧ rightO o = true ∧ opE (treeS [c0, c1, c2, c3, c4]) o = 0 ∧ opR (treeS [c0, c1, c2, c3, c4]) o = treeS (([c0, c1, c2, c3, c4] : List Str).set k t) := by
   rcases hct with ⟨rfl, h1, h2⟩ | ⟨rfl, rfl, h1⟩
   ·exact ⟨setO k t, rfl, set_step rfl hk5 h1 h2⟩
   ·exact ⟨unsO k, rfl, uns_step rfl hk5 h1⟩
  obtain ⟨o, ho, hr1, hr2, hr3⟩ := hstep
  have hbox7' : Box w7 B7 48 (oc o) := by rw [ho]; exact hbox7
  have hl5 : (([c0, c1, c2, c3, c4] : List Str).set k t).length = 5 := by simp
  have hsz7 : w5.heap.size ≤ w7.heap.size := Nat.le_trans hs6 hC7.size
  have hlow : ∀ b ∈ s.own, w.heap.size ≤ b := fun b hb => Nat.le_of_not_lt fun hlt => hown7.tail b hb (List.mem_cons_of_mem _ (hAo b (Nat.lt_of_lt_of_le hlt hE1.size)))
  refine push_op hown7 (fun b hb => ?_) hbox7' (by omega) ?_ fun s' w8 ho8 hC8 hbl => ⟨s', rfl, ⟨by omega, by omega⟩, ⟨m + 1, L ++ [o], by omega, by omega, by omega, by simp; omega, ho8.less fun b hb => List.mem_cons_of_mem _ hb, ?_, Chg.fresh hE07 hC8 hlow, ?_⟩, by dsimp only; omega⟩
  ·rcases List.mem_cons.1 hb with rfl | hb
   ·omega
   ·have := hoA b hb; have := hE5.size; omega
  ·intro b hb
   simp only [List.mem_cons, List.not_mem_nil, or_false] at hb
   rcases hb with rfl | rfl
   ·exact List.mem_cons_of_mem _ hB1A
   ·exact List.mem_cons_self ..
  ·rw [five hl5]
   have := runI_snoc L (treeS noC) 0 hrun hr1 hr2
   rw [hr3] at this
   rw [this, List.length_append]; rfl
  ·have := hC8.size; have := hE5.size; omega
 ·intro w3 B3 hN3 hE3 hbox3
  have hE03 := hE2.trans hE3
  have hrd0 : RdT [] w3 t0 Sl.nil (Sl.mk (some ⟨B3, 0, none⟩) 1 1) := by
   refine .mk [(Sl.nil, Sl.nil)] (Row.nil _ _ _) rfl ⟨rfl, Nat.le_refl _, by simp [maxLen], fun i hi => ?_⟩ fun i t p ht hp => ?_
   ·have : i = 0 := by simpa using hi
    subst this
    exact ⟨_, rfl, by simp, by rw [Nat.zero_mul, Addr.add_zero']; exact hbox3.cells, rfl⟩
   ·have : i = 0 := by have := (List.getElem?_eq_some_iff.1 ht).1; simpa using this
    subst this
    simp at ht hp
    subst ht; subst hp
    exact RdT.nil _ _ _ _ _
  have hrunx : runX t0 L = (L.length, 0, treeS [c0, c1, c2, c3, c4]) := by
   unfold runX
   rw [if_neg (by rw [t0_check]; decide), if_neg (by omega), t0_num, hrun]
  have hres : resT t0 L = (treeS [c0, c1, c2, c3, c4]).toT := by unfold resT; rw [hrunx]; exact if_pos rfl
  have hchk : (resT t0 L).check = true ∧ (resT t0 L).bulk ≤ 1099511627776 := by
   obtain ⟨_, _, h2⟩ := runX_end t0_check (ops := L) (by omega)
   obtain ⟨_, R, hR, e⟩ := h2 (by rw [hrunx])
   rw [e]; exact ⟨hR.check, (okay_live hR).2⟩
  have hkids : (resT t0 L).kids = [.node 2 [112] [] (attrsC 0 [c0, c1, c2, c3, c4]) []] := by
   rw [hres, I.toT_kids]
   show [I.toT (.node 1 2 [112] [] (attrsC 0 [c0, c1, c2, c3, c4]) [])] = _
   rw [I.toT_eq]; rfl
  have hcall := applyCall (t := t0) (sa := Sl.nil) (sk := Sl.mk (some ⟨B3, 0, none⟩) 1 1) (l := s) (ops := L) hrd0 t0_span (hown.row.ext hE3)
  refine CallK.ext hcall ?_
  clear hcall
  rw [hrunx]
  generalize resT t0 L = T0 at hchk hkids
  obtain ⟨cl, hcl⟩ : ∃ cl : List Str, cl = [c0, c1, c2, c3, c4] := ⟨_, rfl⟩
  have hcl5 : cl.length = 5 := by rw [hcl]; rfl
  rw [← hcl] at hkids ⊢
  clear hres hrunx hrun hcl
  rintro v w4 hE4 ⟨sa, sk, rfl, hrd⟩
  have hE04 := hE03.trans hE4
  have hkn : sk.n = 1 := by have := hrd.nkids; rw [hkids] at this; exact this
  refine ⟨_, _, _, sa, sk, _, _, rfl, fun hbad => ?_, fun _ w5 B5 hN5 hE5 => ?_⟩
  ·rcases hbad with h | h
   ·exact absurd rfl h
   ·exact absurd (by omega) h
  have hE05 := hE04.trans hE5
  have hat : ∀ {w' : World}, Ext w4 w' → ∃ p sa', sk.a = some p ∧ w'.cell? ((p.add (0 * 5)).add 3) = some (Sl.v sa') ∧ sa'.n = (attrsC 0 cl).length ∧ (∀ j, j < (attrsC 0 cl).length → ∃ q, sa'.a = some q ∧ Cells w' (q.add (j * 2)) (ac ((attrsC 0 cl).getD j ([], [])))) := fun {w'} hE => by
   obtain ⟨p, sa', sk', hp, _, hcell, hrk⟩ := (hrd.ext hE).kid (i := 0) (by rw [hkids]; simp)
   rw [hkids] at hcell hrk
   refine ⟨p, sa', hp, hcell 3 _ rfl, hrk.nattrs, fun j hj => ?_⟩
   obtain ⟨q, h1, _, h3⟩ := hrk.attr hj
   exact ⟨q, h1, h3⟩
  refine ⟨fun at_ k w' => ∃ m : Nat, k = (m : Int) ∧ m ≤ 5 ∧ at_ = ((attrsC 0 (cl.take m)).length : Int) ∧ Ext w4 w', fun _ k _ => 5 - k.toNat, ⟨0, rfl, by omega, by simp [attrsC], hE5⟩, ?_⟩
  rintro _ _ w6 ⟨m, rfl, hm5, rfl, hE6⟩
  have hsplit : attrsC 0 cl = attrsC 0 (cl.take m) ++ attrsC m (cl.drop m) := by
   have := attrsC_app (cl.take m) (cl.drop m) 0
   rw [List.take_append_drop, List.length_take, Nat.min_eq_left (by omega), Nat.zero_add] at this
   exact this
  refine ⟨fun hlt => ?_, fun hge => ?_⟩
  ·have hm' : m < cl.length := by omega
   have hcl2 : (cl.take (m + 1)) = cl.take m ++ [cl.getD m []] := by
    rw [List.take_succ_eq_append_getElem hm']; simp [List.getD_eq_getElem?_getD, hm']
   have hlen2 : (attrsC 0 (cl.take (m + 1))).length = (attrsC 0 (cl.take m)).length + if cl.getD m [] = [] then 0 else 1 := by
    rw [hcl2, attrsC_app, List.length_append, attrsC]
    split <;> simp [attrsC]
   have hgdm : ([cl.getD 0 [], cl.getD 1 [], cl.getD 2 [], cl.getD 3 [], cl.getD 4 []] : List Str) = cl := five hcl5
   rw [Int.toNat_natCast]
   have hone : ((m : Int) + 1).toNat - m = 1 := by omega
   rw [hone]
   have hle5 := attrsC_len (cl.take m) 0
   rw [List.length_take] at hle5
   refine ⟨⟨by omega, by omega⟩, fun he => ⟨⟨by omega, by omega⟩, ⟨m + 1, by omega, by omega, by rw [hlen2, if_pos he, Nat.add_zero], hE6⟩, by dsimp only; omega⟩, fun hne w7 hE7 => ?_⟩
   obtain ⟨p, sa', hp, hc, hn, hcells⟩ := hat (hE6.trans hE7)
   have hdrop : cl.drop m = cl.getD m [] :: cl.drop (m + 1) := drop_at cl [] hm'
   rw [hdrop, attrsC, if_neg hne] at hsplit
   have hj : (attrsC 0 (cl.take m)).length < (attrsC 0 cl).length := by rw [hsplit, List.length_append, List.length_cons]; omega
   have hget : (attrsC 0 cl).getD (attrsC 0 (cl.take m)).length ([], []) = (nm m, cl.getD m []) := by
    rw [List.getD_eq_getElem?_getD, hsplit, List.getElem?_append_right (Nat.le_refl _), Nat.sub_self]; rfl
   obtain ⟨q, hq, hqc⟩ := hcells _ hj
   rw [hget] at hqc
   generalize hjj : (attrsC 0 (cl.take m)).length = j at *
   refine ⟨p, ⟨⟨by omega, by omega⟩, hp⟩, sa', hc, p, fun _ => ⟨⟨by omega, by omega⟩, hp⟩, sa', fun _ => hc, q, fun _ => ⟨⟨by omega, by omega⟩, hq⟩, nm m, cl.getD m [], fun _ => by rw [Int.toNat_natCast]; exact hqc, fun _ => ⟨by omega, by omega⟩, fun _ => ⟨by omega, by omega, by simp; omega⟩, fun _ => ⟨by omega, by omega⟩, fun hbad => ?_, fun _ => ⟨⟨by omega, by omega⟩, ⟨by omega, by omega⟩, fun w8 hE8 => ⟨⟨m + 1, by omega, by omega, by rw [hlen2, if_neg hne]; omega, hE6.trans (hE7.trans hE8)⟩, by dsimp only; omega⟩⟩⟩
   rcases hbad with h | h
   ·exact absurd h (by omega)
   ·exact absurd ⟨rfl, rfl⟩ h
  ·have hm5' : m = 5 := by omega
   subst hm5'
   obtain ⟨p, sa', hp, hc, hn, _⟩ := hat hE6
   have hck := refCheck T0 hchk.2 (hrd.ext hE6)
   rw [hchk.1] at hck
   refine ⟨⟨by omega, by omega⟩, p, hp, sa', hc, true, fun _ => hck, fun w7 hE7 => ⟨true, fun _ => apAwake w7, fun w8 hE8 => ⟨hE04.trans (hE6.trans (hE7.trans hE8)), ?_⟩⟩⟩
   rw [List.take_of_length_le (by omega), ← hn]
   simp
end Go.Proofs.Ytghmgfkdnolcdaa
