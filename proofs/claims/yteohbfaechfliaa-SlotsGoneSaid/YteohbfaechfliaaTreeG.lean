/-
  The laws' trees by numbers: next, grown, Grown: a tree that may be.
-/
import Derived.Test.YteohbfaechfliaaTreeA
import Derived.Test.YteohbfaechfliaaTreeC
import Derived.Test.YteohbfaechfliaaPlace
namespace Go.Proofs.Yteohbfaechfliaa
open Go.RowKit

theorem and_mask (x : Int) : ∃ r : Nat, bits .and .i64 x 1099511627775 = (r : Int) ∧ r < 1099511627776 := by
  have hle : (BitVec.ofInt 64 x &&& BitVec.ofInt 64 1099511627775).toNat ≤ 1099511627775 := by
    rw [BitVec.toNat_and]; exact Nat.and_le_right
  refine ⟨(BitVec.ofInt 64 x &&& BitVec.ofInt 64 1099511627775).toNat, ?_, by omega⟩
  show IntKind.i64.wrap (((BitVec.ofInt 64 x &&& BitVec.ofInt 64 1099511627775).toNat : Nat) : Int) = _
  rw [IntKind.wrap_i64]
  omega

def ic (z : Int) : List Value := [.int .i64 z]

theorem lawNext {A : List Nat} {w : World} {l : Sl} {zs : List Int} {B x : Nat} (h : Row A w l 1 (zs.map ic)) (hA : B ∈ A) (hB : Box w B 3 [.int .i64 (x : Int)]) (hx : x ≤ 1099511627776) :
    Calls Try.prog 25 #[l.v, .pointer (some ⟨B, 0, none⟩)] w (Ret fun v w' => Chg [B] w w' ∧ ∃ r x' : Nat, v = .int .i64 (r : Int) ∧ r < 1099511627776 ∧ x' ≤ x + 1 ∧ Box w' B 3 [.int .i64 (x' : Int)]) := by
  refine law00_next.ok _ _ ?_
  unfold law00_next.vc
  have hl := h.len
  have hm := h.most
  have hcap := h.cap
  simp only [maxLen] at hm
  simp only [List.length_map] at hl
  refine ⟨fun _ => ⟨Chg.refl _ _, 0, x, rfl, by decide, by omega, hB⟩, fun hne => ⟨(x : Int), hB.cell 0 _ rfl, ⟨by omega, by omega⟩, B, 0, 3, _, rfl, hB, by simp, by simp, fun w1 hC1 hB1 w2 hE2 => ?_⟩⟩
  have hB1 : Box w1 B 3 [.int .i64 ((x + 1 : Nat) : Int)] := hB1
  have hB2 := hB1.ext hE2
  have ed : (((x + 1 : Nat) : Int)).tdiv (l.n : Int) = (((x + 1) / l.n : Nat) : Int) := rfl
  have hle : (x + 1) / l.n ≤ x + 1 := Nat.div_le_self _ _
  refine ⟨((x + 1 : Nat) : Int), hB2.cell 0 _ rfl, ⟨by omega, by omega⟩, ((x + 1 : Nat) : Int), hB2.cell 0 _ rfl, ?_⟩
  rw [ed]
  clear ed
  generalize (x + 1) / l.n = d at hle
  refine ⟨⟨hne, ⟨by omega, by omega⟩⟩, ⟨by omega, by omega⟩, _, fun w' _ => place _ _ (by omega) (by omega), ?_⟩
  have h1 : 0 ≤ (((x + 1 : Nat) : Int) * 5 + (d : Int)).emod (l.n : Int) := Int.emod_nonneg _ hne
  have h2 : (((x + 1 : Nat) : Int) * 5 + (d : Int)).emod (l.n : Int) < (l.n : Int) := Int.emod_lt_of_pos _ (show (0 : Int) < l.n by omega)
  generalize (((x + 1 : Nat) : Int) * 5 + (d : Int)).emod (l.n : Int) = q at h1 h2
  have hr : Row A w2 l 1 (zs.map ic) := (h.chg hC1 (by simpa using hA)).ext hE2
  obtain ⟨p, hp, _, hcell, _⟩ := hr.at_ q.toNat (by simp; omega)
  have e : (zs.map ic).getD q.toNat [] = ic (zs.getD q.toNat 0) := by
    have hq : q.toNat < zs.length := by omega
    simp [List.getD_eq_getElem?_getD, hq]
  rw [e] at hcell
  have hc0 := hcell 0 _ rfl
  rw [Addr.add_zero'] at hc0
  refine ⟨p, ⟨⟨h1, h2⟩, hp⟩, _, hc0, fun w3 hE3 => ?_⟩
  obtain ⟨r, hr1, hr2⟩ := and_mask (zs.getD q.toNat 0)
  rw [hr1]
  exact ⟨(hC1.trans (Chg.ext hE2)).trans (Chg.ext hE3), r, x + 1, rfl, hr2, Nat.le_refl _, hB2.ext hE3⟩

/-- What may be said of a node that is grown. -/
structure Sprout (d : Nat) (t : T) : Prop where
  ok : nodeOk t = true
  kind : 2 ≤ t.kind ∧ t.kind ≤ 4
  deep : t.depth ≤ d
  few : t.bulk ≤ 15 * t.size

theorem Sprout.up {d e : Nat} {t : T} (h : Sprout d t) (he : d ≤ e) : Sprout e t := ⟨h.ok, h.kind, Nat.le_trans h.deep he, h.few⟩

theorem sprout_comment (s : Str) (h : s.length ≤ 3) : Sprout 1 (.node 4 [] s [] []) :=
  ⟨by rw [nodeOk_ne (by simp [T.kind])]; simp [T.kind, T.name, T.text, T.attrs, T.kids]; exact decide_eq_true (by omega), by simp [T.kind], by simp [T.depth_eq, T.kids], by simp [T.bulk_eq, T.size_eq, T.kids, T.name, T.text, T.attrs]; omega⟩
theorem sprout_text (s : Str) (h : s.length = 1) : Sprout 1 (.node 3 [] s [] []) :=
  ⟨by rw [nodeOk_ne (by simp [T.kind])]; simp [T.kind, T.name, T.text, T.attrs, T.kids]; exact ⟨fun e => by subst e; simp at h, decide_eq_true (by omega)⟩, by simp [T.kind], by simp [T.depth_eq, T.kids], by simp [T.bulk_eq, T.size_eq, T.kids, T.name, T.text, T.attrs]; omega⟩

/-- The attributes that a grown node may have. -/
def Leafy (ats : List (Str × Str)) : Prop := attrsOk [] ats = true ∧ ats.length ≤ 2 ∧ (ats.map T.abulk).sum ≤ 8

theorem leafy_id (d : Str) (h : d.length = 1) : Leafy [([105, 100], d)] := by
  have e1 : nameOk [105, 100] = true := by decide +kernel
  have e2 : Op.bytesLess [105, 100] ([] : Str) = false := by decide +kernel
  refine ⟨?_, by simp, by simp [T.abulk]; omega⟩
  simp only [attrsOk, e1, e2]; simp; omega
theorem leafy_x (v : Str) (h : v.length ≤ 2) : Leafy [([120], v)] := by
  have e1 : nameOk [120] = true := by decide +kernel
  have e2 : Op.bytesLess [120] ([] : Str) = false := by decide +kernel
  refine ⟨?_, by simp, by simp [T.abulk]; omega⟩
  simp only [attrsOk, e1, e2]; simp; omega
theorem leafy_both (d v : Str) (h : d.length = 1) (h2 : v.length ≤ 2) : Leafy [([105, 100], d), ([120], v)] := by
  have e1 : nameOk [105, 100] = true := by decide +kernel
  have e2 : Op.bytesLess [105, 100] ([] : Str) = false := by decide +kernel
  have e3 : nameOk [120] = true := by decide +kernel
  have e4 : Op.bytesLess [120] ([105, 100] : Str) = false := by decide +kernel
  refine ⟨?_, by simp, by simp [T.abulk]; omega⟩
  simp only [attrsOk, e1, e2, e3, e4]; simp; omega

theorem sprout_el {f : Nat} {n : Str} {ats : List (Str × Str)} {us : List T} (hn : nameOk n = true) (hl : n.length ≤ 3) (ha : Leafy ats) (hu : ∀ u ∈ us, Sprout f u) : Sprout (f + 1) (.node 2 n [] ats us) := by
  refine ⟨?_, by simp [T.kind], ?_, ?_⟩
  · rw [nodeOk_el rfl]
    have h1 := ha.1
    have h2 := ha.2.1
    have hk : kidsOk (.node 2 n [] ats us) = true := by
      unfold kidsOk
      rw [List.all_eq_true]
      intro u hm
      have := hu u hm
      have h3 := this.kind
      rw [this.ok, decide_eq_false (by omega : ¬ u.kind = 5)]; rfl
    have e1 : nameOk (T.node 2 n [] ats us).name = true := hn
    have e2 : attrsOk [] (T.node 2 n [] ats us).attrs = true := h1
    have e3 : decide ((T.node 2 n [] ats us).attrs.length ≤ 12) = true := decide_eq_true (show ats.length ≤ 12 by omega)
    rw [hk, e1, e2, e3]; rfl
  · rw [T.depth_eq]
    have : (us.map T.depth).foldr max 0 ≤ f := T.foldr_max_le fun x hx => by
      obtain ⟨u, hm, rfl⟩ := List.mem_map.1 hx
      exact (hu u hm).deep
    simp only [T.kids]; omega
  · rw [T.bulk_eq, T.size_eq]
    have h1 := ha.2.2
    have h2 : (us.map T.bulk).sum ≤ (us.map fun u => 15 * u.size).sum := T.sum_le _ _ us fun u hm => (hu u hm).few
    have h3 : (us.map fun u => 15 * u.size).sum = 15 * (us.map T.size).sum := by
      clear h2 hu
      induction us with
      | nil => rfl
      | cons u r ih => simp only [List.map_cons, List.sum_cons, ih]; omega
    simp only [T.name, T.text, T.attrs, T.kids, List.length_nil]; omega

theorem grown_name (i : Nat) (h : i < 4) : nameOk (([([98] : Str), ([112] : Str), ([100, 105, 118] : Str), ([108, 105] : Str)] : List Str).getD i []) = true ∧ (([([98] : Str), ([112] : Str), ([100, 105, 118] : Str), ([108, 105] : Str)] : List Str).getD i []).length ≤ 3 := by
  have : ∀ i : Fin 4, nameOk (([([98] : Str), ([112] : Str), ([100, 105, 118] : Str), ([108, 105] : Str)] : List Str).getD i.val []) = true ∧ (([([98] : Str), ([112] : Str), ([100, 105, 118] : Str), ([108, 105] : Str)] : List Str).getD i.val []).length ≤ 3 := by decide +kernel
  exact this ⟨i, h⟩

theorem push_attr {A bx : List Nat} {w : World} {s : Sl} {ats : List (Str × Str)} {p : Str × Str} {B : Nat} {S ty : TypeId} {K : Value → World → Prop} (h : Own A w s 2 47 (ats.map ac)) (hA : ∀ b ∈ A, b < w.heap.size) (hB : Box w B S (ac p)) (hl : ats.length + 1 ≤ 1099511627776) (hbx : ∀ b ∈ bx, b ∈ A)
    (k : ∀ s' w', Own A w' s' 2 47 ((ats ++ [p]).map ac) → Chg s.own w w' → (∀ b ∈ s'.blk, b ∈ s.own ∨ w.heap.size ≤ b) → K s'.v w') :
    RunK Try.prog (Builtin.append_ #[23, 23] ty #[s.v, Sl.v (Sl.mk (some ⟨B, 0, none⟩) 1 1)]) w bx K := by
  have hn := h.len
  simp only [List.length_map] at hn
  have hx : Row [] w (Sl.mk (some ⟨B, 0, none⟩) 1 1) 2 [ac p] :=
    ⟨rfl, Nat.le_refl _, by simp [maxLen], fun i hi => by
      have : i = 0 := by simpa using hi
      subst this
      exact ⟨_, rfl, by simp, by rw [Nat.zero_mul, Addr.add_zero']; exact hB.cells, rfl⟩⟩
  exact App.runK Try.underlying23 ti_47 rfl (by decide) (.inl h) hA hx (ones_ac p) (by simp) (by simp only [maxLen, List.length_singleton]; omega) (by simp only [List.length_singleton]; omega) hbx fun s' w' ho hc hb => k s' w' (by simpa using ho) hc hb

theorem lawGrown {l : Sl} {zs : List Int} {Ba Bn : Nat} (hne : Ba ≠ Bn) : ∀ f : Nat, f ≤ 6 → ∀ {w : World} {x n : Nat}, n < 40 → x ≤ n + 1 → Row [Ba, Bn] w l 1 (zs.map ic) → Box w Ba 3 [.int .i64 (x : Int)] → Box w Bn 3 [.int .i64 (n : Int)] →
    Calls Try.prog 26 #[l.v, .pointer (some ⟨Ba, 0, none⟩), .pointer (some ⟨Bn, 0, none⟩), .int .i64 (6 - (f : Int))] w (Ret fun v w' => Chg [Ba, Bn] w w' ∧ ∃ (t : T) (sa sk : Sl) (x' : Nat), v = tv t sa sk ∧ RdT (List.range w.heap.size) w' t sa sk ∧
      Box w' Ba 3 [.int .i64 (x' : Int)] ∧ Box w' Bn 3 [.int .i64 ((n + t.size : Nat) : Int)] ∧ n + t.size ≤ 40 ∧ x' ≤ n + t.size + 1 ∧ Sprout (f + 1) t) := by
  intro f
  induction f with
  | zero =>
    intro _ w x n hn hx hl hBa hBn
    refine law00_grown.ok _ _ _ _ ?_
    unfold law00_grown.vc
    intro w1 B5 hN5 hE1
    have hBn1 := hBn.ext hE1
    have hBa1 := hBa.ext hE1
    have hlt1 := hBa.lt
    have hlt2 := hBn.lt
    have hge := hN5.ge
    refine ⟨(n : Int), hBn1.cell 0 _ rfl, ⟨by omega, by omega⟩, Bn, 0, 3, _, rfl, hBn1, by simp, by simp; omega, fun w2 hC2 hBn2 => ?_⟩
    have hBn2 : Box w2 Bn 3 [.int .i64 ((n + 1 : Nat) : Int)] := hBn2
    have hBa2 := hBa1.keep hC2 (by simpa using hne)
    have hl2 := (hl.ext hE1).chg hC2 (by simp)
    refine CallK.chg (lawNext hl2 (by simp) hBa2 (by omega)) (by simp; omega) fun v w3 hC3 ⟨r, x', hv, hr, hx', hBa3⟩ => ⟨(r : Int), hv, ?_⟩
    have hC : Chg [Ba, Bn] w w3 := ((Chg.ext hE1).more' hC2 (by simp)).more' hC3 (by simp)
    have hBn3 := hBn2.keep hC3 (by simpa using hne.symm)
    have e7 : ((r : Int)).tmod 7 = ((r % 7 : Nat) : Int) := rfl
    have d7 : ((r : Int)).tdiv 7 = ((r / 7 : Nat) : Int) := rfl
    have e74 : (((r / 7 : Nat) : Int)).tmod 4 = ((r / 7 % 4 : Nat) : Int) := rfl
    have e76 : (((r / 7 : Nat) : Int)).tmod 6 = ((r / 7 % 6 : Nat) : Int) := rfl
    simp only [e7, d7, e74, e76, Int.toNat_natCast]
    refine ⟨fun h0 => ⟨⟨by omega, by omega⟩, ⟨by omega, by simp; omega⟩, fun w4 hC4 => ?_⟩, fun h0 => ⟨fun h3 => ⟨⟨by omega, by omega⟩, ⟨by omega, by omega⟩, ⟨by omega, by omega⟩, ⟨by omega, by omega, by simp; omega⟩, fun w4 hC4 => ?_⟩, fun h3 => ?_⟩⟩
    · have hnot : ∀ b ∈ [B5], w.heap.size ≤ b := by simpa using hge
      refine ⟨hC.more' hC4 (fun b hb => .inr (hnot b hb)), .node 4 [] (List.take (r / 7 % 4) [120, 121, 122]) [] [], Sl.nil, Sl.nil, x', rfl, RdT.nil _ _ _ _ _, hBa3.keep hC4 (by simp; omega), ?_, ?_, ?_, (sprout_comment _ (by simp; omega)).up (by omega)⟩
      · have := hBn3.keep hC4 (by simp; omega)
        simpa [T.size_eq, T.kids] using this
      · simp [T.size_eq, T.kids]; omega
      · simp [T.size_eq, T.kids]; omega
    · have hnot : ∀ b ∈ [B5], w.heap.size ≤ b := by simpa using hge
      refine ⟨hC.more' hC4 (fun b hb => .inr (hnot b hb)), .node 3 [] _ [] [], Sl.nil, Sl.nil, x', rfl, RdT.nil _ _ _ _ _, hBa3.keep hC4 (by simp; omega), ?_, ?_, ?_, (sprout_text _ (by simp; omega)).up (by omega)⟩
      · have := hBn3.keep hC4 (by simp; omega)
        simpa [T.size_eq, T.kids] using this
      · simp [T.size_eq, T.kids]; omega
      · simp [T.size_eq, T.kids]; omega
    · omega
  | succ f ih =>
    intro hf w x n hn hx hl hBa hBn
    refine law00_grown.ok _ _ _ _ ?_
    unfold law00_grown.vc
    intro w1 B5 hN5 hE1
    have hBn1 := hBn.ext hE1
    have hBa1 := hBa.ext hE1
    have hlt1 := hBa.lt
    have hlt2 := hBn.lt
    have hge := hN5.ge
    refine ⟨(n : Int), hBn1.cell 0 _ rfl, ⟨by omega, by omega⟩, Bn, 0, 3, _, rfl, hBn1, by simp, by simp; omega, fun w2 hC2 hBn2 => ?_⟩
    have hBn2 : Box w2 Bn 3 [.int .i64 ((n + 1 : Nat) : Int)] := hBn2
    have hBa2 := hBa1.keep hC2 (by simpa using hne)
    have hl2 := (hl.ext hE1).chg hC2 (by simp)
    refine CallK.chg (lawNext hl2 (by simp) hBa2 (by omega)) (by simp; omega) fun v w3 hC3 ⟨r, x', hv, hr, hx', hBa3⟩ => ⟨(r : Int), hv, ?_⟩
    have hC : Chg [Ba, Bn] w w3 := ((Chg.ext hE1).more' hC2 (by simp)).more' hC3 (by simp)
    have hBn3 := hBn2.keep hC3 (by simpa using hne.symm)
    have hl3 := hl2.chg hC3 (by simp)
    have e7 : ((r : Int)).tmod 7 = ((r % 7 : Nat) : Int) := rfl
    have d7 : ((r : Int)).tdiv 7 = ((r / 7 : Nat) : Int) := rfl
    have d28 : ((r : Int)).tdiv 28 = ((r / 28 : Nat) : Int) := rfl
    have d84 : ((r : Int)).tdiv 84 = ((r / 84 : Nat) : Int) := rfl
    have d512 : ((r : Int)).tdiv 512 = ((r / 512 : Nat) : Int) := rfl
    have e74 : (((r / 7 : Nat) : Int)).tmod 4 = ((r / 7 % 4 : Nat) : Int) := rfl
    have e76 : (((r / 7 : Nat) : Int)).tmod 6 = ((r / 7 % 6 : Nat) : Int) := rfl
    have e283 : (((r / 28 : Nat) : Int)).tmod 3 = ((r / 28 % 3 : Nat) : Int) := rfl
    have e285 : (((r / 28 : Nat) : Int)).tmod 5 = ((r / 28 % 5 : Nat) : Int) := rfl
    have e844 : (((r / 84 : Nat) : Int)).tmod 4 = ((r / 84 % 4 : Nat) : Int) := rfl
    have e843 : (((r / 84 : Nat) : Int)).tmod 3 = ((r / 84 % 3 : Nat) : Int) := rfl
    have e5124 : (((r / 512 : Nat) : Int)).tmod 4 = ((r / 512 % 4 : Nat) : Int) := rfl
    simp only [e7, d7, d28, d84, d512, e74, e76, e283, e285, e844, e843, e5124, Int.toNat_natCast]
    have hnot : ∀ b ∈ [B5], w.heap.size ≤ b := by simpa using hge
    refine ⟨fun h0 => ⟨⟨by omega, by omega⟩, ⟨by omega, by simp; omega⟩, fun w4 hC4 => ?_⟩, fun h0 => ⟨fun h3 => ⟨⟨by omega, by omega⟩, ⟨by omega, by omega⟩, ⟨by omega, by omega⟩, ⟨by omega, by omega, by simp; omega⟩, fun w4 hC4 => ?_⟩, fun h3 => ⟨⟨by omega, by omega⟩, ⟨by omega, by omega⟩, ⟨by omega, by omega⟩, fun w4 B124 hN4 hE4 => ?_⟩⟩⟩
    · refine ⟨hC.more' hC4 (fun b hb => .inr (hnot b hb)), .node 4 [] (List.take (r / 7 % 4) [120, 121, 122]) [] [], Sl.nil, Sl.nil, x', rfl, RdT.nil _ _ _ _ _, hBa3.keep hC4 (by simp; omega), ?_, ?_, ?_, (sprout_comment _ (by simp; omega)).up (by omega)⟩
      · have := hBn3.keep hC4 (by simp; omega)
        simpa [T.size_eq, T.kids] using this
      · simp [T.size_eq, T.kids]; omega
      · simp [T.size_eq, T.kids]; omega
    · refine ⟨hC.more' hC4 (fun b hb => .inr (hnot b hb)), .node 3 [] _ [] [], Sl.nil, Sl.nil, x', rfl, RdT.nil _ _ _ _ _, hBa3.keep hC4 (by simp; omega), ?_, ?_, ?_, (sprout_text _ (by simp; omega)).up (by omega)⟩
      · have := hBn3.keep hC4 (by simp; omega)
        simpa [T.size_eq, T.kids] using this
      · simp [T.size_eq, T.kids]; omega
      · simp [T.size_eq, T.kids]; omega
    · -- an element
      have hsz : w.heap.size ≤ w3.heap.size := hC.size
      have hsz4 : w3.heap.size ≤ w4.heap.size := hE4.size
      have hB124 := hN4.ge
      have hB124' := hN4.lt
      have hB5' : B5 < w4.heap.size := by have := hN5.lt; have := hC2.size; have := hC3.size; omega
      have hC4 : Chg [Ba, Bn] w w4 := hC.trans (Chg.ext hE4)
      have hl4 := hl3.ext hE4
      -- what holds while the attributes are put together
      let St : World → Prop := fun w' => Chg [Ba, Bn] w w' ∧ Row [Ba, Bn] w' l 1 (zs.map ic) ∧ Box w' Ba 3 [.int .i64 (x' : Int)] ∧ Box w' Bn 3 [.int .i64 ((n + 1 : Nat) : Int)] ∧ w4.heap.size ≤ w'.heap.size
      have hSt4 : St w4 := ⟨hC4, hl4, hBa3.ext hE4, hBn3.ext hE4, Nat.le_refl _⟩
      have hStep : ∀ {wa wb : World} {F : List Nat}, St wa → Chg F wa wb → (∀ b ∈ F, b = B124 ∨ w4.heap.size ≤ b) → St wb := fun {wa wb F} ⟨h1, h2, h3, h4, h5⟩ c hF => by
        have hF' : ∀ b ∈ F, w.heap.size ≤ b := fun b hb => by rcases hF b hb with rfl | h <;> omega
        refine ⟨h1.more' c (fun b hb => .inr (hF' b hb)), ?_, h3.keep c (fun hm => by have := hF' _ hm; omega), h4.keep c (fun hm => by have := hF' _ hm; omega), Nat.le_trans h5 c.size⟩
        have hlw : Row (F ++ [Ba, Bn]) wa l 1 (zs.map ic) := by
          have hlw0 : ∀ L : List Nat, (∀ b ∈ L, w.heap.size ≤ b) → Row (L ++ [Ba, Bn]) w l 1 (zs.map ic) := fun L => by
            induction L with
            | nil => intro _; exact hl
            | cons b L ihL => intro hL; exact (ihL (fun b hb => hL b (List.mem_cons_of_mem _ hb))).fresh (by decide) (hL b (List.mem_cons_self ..))
          exact (hlw0 F hF').chg h1 (fun b hb => List.mem_append_right _ hb)
        exact (hlw.chg c (fun b hb => List.mem_append_left _ hb)).less (fun b hb => List.mem_append_right _ hb)
      have hA4 : ∀ {w' : World}, w4.heap.size ≤ w'.heap.size → ∀ b ∈ List.range w4.heap.size, b < w'.heap.size := fun h b hb => by have := List.mem_range.1 hb; omega
      have hfr : ∀ {s : Sl} {w' : World} {vs : List (List Value)} {k : Nat} {S : TypeId}, Own (List.range w4.heap.size) w' s k S vs → ∀ b ∈ s.own, b = B124 ∨ w4.heap.size ≤ b := fun h b hb => .inr (by have := h.tail b hb; simp at this; omega)
      have hbx : ∀ b ∈ [B5, B124], b ∈ List.range w4.heap.size := by
        intro b hb; simp at hb
        rcases hb with rfl | rfl
        · exact List.mem_range.2 hB5'
        · exact List.mem_range.2 hB124'
      refine ⟨fun c w' => St w' ∧ ∃ ats : List (Str × Str), Own (List.range w4.heap.size) w' c 2 47 (ats.map ac) ∧ (ats = [] ∨ ∃ d : Str, d.length = 1 ∧ ats = [([105, 100], d)]),
        ⟨fun hz w5 hE5 => ⟨⟨by omega, by omega⟩, ⟨by omega, by omega⟩, ⟨by omega, by omega⟩, ⟨by omega, by omega, by simp; omega⟩, fun w6 B6 hE6 hB6 hbox _ => ?_⟩, fun hz => ⟨hSt4, [], Own.nil _ _ _ _, .inl rfl⟩⟩, ?_⟩
      · have hE46 : Ext w4 w6 := hE5.trans hE6
        refine push_attr (ats := []) (Own.nil _ _ _ _) (hA4 hE46.size) hbox (by simp) hbx fun s' w7 ho hc hb => ⟨s', rfl, fun w8 hC8 => ⟨hStep (hStep (hStep hSt4 hE46 (by simp)) hc (by simp [Sl.own])) hC8 (by simp), _, ho.chg hC8 (by intro b hb; simp at hb; subst hb; exact List.mem_range.2 hB124'), .inr ⟨_, ?_, rfl⟩⟩⟩
        simp; omega
      rintro c w5 ⟨hS5, ats, ho5, hats⟩
      refine ⟨⟨by omega, by omega⟩, fun c w' => St w' ∧ ∃ ats : List (Str × Str), Own (List.range w4.heap.size) w' c 2 47 (ats.map ac) ∧ Leafy ats,
        ⟨fun hz w6 hE6 => ⟨⟨by omega, by omega⟩, ⟨by omega, by simp; omega⟩, fun w7 B7 hE7 hB7 hbox _ => ?_⟩, fun hz => ⟨hS5, ats, ho5, ?_⟩⟩, ?_⟩
      · have hE57 : Ext w5 w7 := hE6.trans hE7
        have ho7 := ho5.ext hE57
        have hS7 := hStep hS5 hE57 (by simp)
        refine push_attr (p := ([120], List.take (r / 84 % 3) ([117, 118] : Str))) ho7 (hA4 hS7.2.2.2.2) hbox (by rcases hats with rfl | ⟨d, _, rfl⟩ <;> simp) hbx fun s' w8 ho hc hb => ⟨s', rfl, fun w9 hC9 => ⟨hStep (hStep hS7 hc (hfr ho7)) hC9 (by simp), _, ho.chg hC9 (by intro b hb; simp at hb; subst hb; exact List.mem_range.2 hB124'), ?_⟩⟩
        have hv : (List.take (r / 84 % 3) ([117, 118] : Str)).length ≤ 2 := by simp; omega
        rcases hats with rfl | ⟨d, hd, rfl⟩
        · exact leafy_x _ hv
        · exact leafy_both d _ hd hv
      · rcases hats with rfl | ⟨d, hd, rfl⟩
        · exact ⟨rfl, by simp, by simp⟩
        · exact leafy_id d hd
      rintro cA w6 ⟨hS6, ats, ho6, hleafy⟩
      have hblk6 : ∀ b ∈ cA.blk, b < w6.heap.size ∧ w4.heap.size ≤ b := fun b hb => by
        have := ho6.blk b hb
        have h2 := this.1; simp at h2; omega
      -- the kids
      have hF6 : ∀ {F : List Nat}, (∀ b ∈ F, w.heap.size ≤ b) → ∀ b ∈ F, b ∉ [Ba, Bn] := fun hF b hb hm => by
        have := hF b hb; simp at hm; rcases hm with rfl | rfl <;> omega
      have hlF : ∀ L : List Nat, (∀ b ∈ L, w.heap.size ≤ b) → Row (L ++ [Ba, Bn]) w l 1 (zs.map ic) := fun L => by
        induction L with
        | nil => intro _; exact hl
        | cons b L ihL => intro hL; exact (ihL (fun b hb => hL b (List.mem_cons_of_mem _ hb))).fresh (by decide) (hL b (List.mem_cons_self ..))
      have hlW : ∀ {w' : World}, Chg [Ba, Bn] w w' → Row [Ba, Bn] w' l 1 (zs.map ic) := fun c => hl.chg c (by simp)
      have hs6 := hS6.2.2.2.2
      refine ⟨⟨by omega, by omega⟩, fun k c w' => k ≤ 3 ∧ Chg [Ba, Bn] w w' ∧ w6.heap.size ≤ w'.heap.size ∧ Own (List.range w4.heap.size) w' cA 2 47 (ats.map ac) ∧ ∃ (us : List T) (xk : Nat), Nur (cA.blk ++ List.range w4.heap.size) w' c us ∧ (∀ u ∈ us, Sprout (f + 1) u) ∧
          Box w' Ba 3 [.int .i64 (xk : Int)] ∧ Box w' Bn 3 [.int .i64 ((n + 1 + (us.map T.size).sum : Nat) : Int)] ∧ n + 1 + (us.map T.size).sum ≤ 40 ∧ xk ≤ n + 1 + (us.map T.size).sum + 1,
        fun k _ _ => k.toNat, ⟨by omega, hS6.1, Nat.le_refl _, ho6, [], x', Nur.nil _ _, by simp, hS6.2.2.1, by simpa using hS6.2.2.2.1, by simp; omega, by simp; omega⟩, ?_⟩
      rintro k c w7 ⟨hk3, hC7, hsz7, ho7, us, xk, hNur, hus, hBa7, hBn7, hn7, hx7⟩
      have hcb : ∀ b ∈ c.blk, w4.heap.size ≤ b ∧ b < w7.heap.size ∧ b ∉ cA.blk := fun b hb => by
        have h := hNur.own.2.2.2 b hb
        have h1 := h.1
        simp at h1; exact ⟨by omega, h.2, h1.1⟩
      refine ⟨((n + 1 + (us.map T.size).sum : Nat) : Int), fun _ => hBn7.cell 0 _ rfl, fun ⟨hk0, hk40⟩ w8 hE8 => ⟨⟨by omega, by omega⟩, ?_⟩, fun hstop w8 hC8 => ?_⟩
      · have hC8 := hC7.more' hE8 (by simp)
        have hcall := ih (by omega) (w := w8) (x := xk) (n := n + 1 + (us.map T.size).sum) (by omega) (by omega) (hlW hC8) (hBa7.ext hE8) (hBn7.ext hE8)
        rw [show (6 : Int) - ((f + 1 : Nat) : Int) + 1 = 6 - (f : Int) by omega]
        have hsz8 := hE8.size
        refine CallK.chg hcall (by simp; omega) ?_
        rintro v w9 hC9 ⟨u, su, sku, xu, rfl, hru, hBa9, hBn9, hn9, hx9, hspr⟩
        refine ⟨_, _, _, su, sku, rfl, fun w10 B10 hE10 hB10 hbox10 w11 hE11 hbox11 => ?_⟩
        have hE911 : Ext w9 w11 := hE10.trans hE11
        have hAN : ∀ b ∈ [Ba, Bn], b ∈ cA.blk ++ List.range w4.heap.size := fun b hb => List.mem_append_right _ (List.mem_range.2 (by simp at hb; rcases hb with rfl | rfl <;> omega))
        have hNur11 := ((hNur.ext hE8).chg hC9 hAN).ext hE911
        have hsz9 := hC9.size
        have hsz11 := hE911.size
        have ho11 := ((ho7.ext hE8).chg hC9 (fun b hb => (List.mem_range.2 (by simp at hb; rcases hb with rfl | rfl <;> omega)))).ext hE911
        have hC11 : Chg [Ba, Bn] w w11 := (hC8.trans hC9).more' hE911 (by simp)
        refine hNur11.push (fun b hb => ?_) hbox11 ((hru.ext hE911).less fun b hb => List.mem_range.2 ?_) ?_ (fun b hb => List.mem_append_right _ (hbx b hb)) fun s' w12 hN12 hC12 hbl => ⟨s', rfl, ⟨by omega, by omega⟩, fun w13 hC13 => ?_⟩
        · rcases List.mem_append.1 hb with hb | hb
          · have := hblk6 b hb; omega
          · have := List.mem_range.1 hb; omega
        · rcases List.mem_append.1 hb with hb | hb
          · have := hcb b hb; omega
          · rcases List.mem_append.1 hb with hb | hb
            · have := hblk6 b hb; omega
            · have := List.mem_range.1 hb; omega
        · have h1 : (us.map fun _ => 1).sum ≤ (us.map T.size).sum := T.sum_le _ _ us fun u _ => by rw [T.size_eq]; omega
          have h2 : ∀ l : List T, (l.map fun _ => 1).sum = l.length := fun l => by induction l with
            | nil => rfl
            | cons a r ih => simp only [List.map_cons, List.sum_cons, ih, List.length_cons]; omega
          rw [h2] at h1; omega
        · have hown : ∀ b ∈ c.own, w.heap.size ≤ b := fun b hb => by have := hcb b (Sl.own_blk hb); omega
          have h124 : ∀ b ∈ [B124], w.heap.size ≤ b := by simp; omega
          have n1 := hF6 hown
          have n2 := hF6 h124
          have hsz12 := hC12.size
          have hsz13 := hC13.size
          have es : ((us ++ [u]).map T.size).sum = (us.map T.size).sum + u.size := by simp
          refine ⟨⟨by omega, (hC11.more' hC12 (fun b hb => .inr (hown b hb))).more' hC13 (fun b hb => .inr (h124 b hb)), by omega, (ho11.keep hC12 (fun b hb hm => (hcb b (Sl.own_blk hm)).2.2 hb)).chg hC13 (fun b hb => hbx b (by simp at hb; simp [hb])), us ++ [u], xu, hN12.chg hC13 (fun b hb => List.mem_append_right _ (hbx b (by simp at hb; simp [hb]))), fun y hy => ?_, ((hBa9.ext hE911).keep hC12 (fun hm => n1 _ hm (by simp))).keep hC13 (fun hm => n2 _ hm (by simp)), ?_, by rw [es]; omega, by rw [es]; omega⟩, by dsimp only; omega⟩
          · rcases List.mem_append.1 hy with hy | hy
            · exact hus y hy
            · simp at hy; subst hy; exact hspr
          · have := ((hBn9.ext hE911).keep hC12 (fun hm => n1 _ hm (by simp))).keep hC13 (fun hm => n2 _ hm (by simp))
            rw [es, ← Nat.add_assoc]; exact this
      · have h5 : ∀ b ∈ [B5], w.heap.size ≤ b := by simp; omega
        have n5 := hF6 h5
        have hnm := grown_name (r / 7 % 4) (by omega)
        have hb5 : ∀ b ∈ [B5], b ∈ List.range w4.heap.size := fun b hb => hbx b (by simp at hb; simp [hb])
        have hrd := ((hNur.less (A' := List.range w4.heap.size) (fun b hb => List.mem_append_right _ hb)).chg hC8 hb5).rd (k := 2) (n := ([([98] : Str), ([112] : Str), ([100, 105, 118] : Str), ([108, 105] : Str)] : List Str).getD (r / 7 % 4) []) (x := []) (ho7.chg hC8 hb5).row
        have es : ∀ nm : Str, (T.node 2 nm [] ats us).size = 1 + (us.map T.size).sum := fun nm => by rw [T.size_eq]; rfl
        refine ⟨hC7.more' hC8 (fun b hb => .inr (h5 b hb)), .node 2 _ [] ats us, cA, c, xk, rfl, hrd.less (fun b hb => List.mem_range.2 (by have := List.mem_range.1 hb; omega)), hBa7.keep hC8 (fun hm => n5 _ hm (by simp)), ?_, ?_, ?_, sprout_el hnm.1 hnm.2 hleafy hus⟩
        · have := hBn7.keep hC8 (fun hm => n5 _ hm (by simp))
          rw [es, ← Nat.add_assoc]; exact this
        · rw [es]; omega
        · rw [es]; omega

end Go.Proofs.Yteohbfaechfliaa
