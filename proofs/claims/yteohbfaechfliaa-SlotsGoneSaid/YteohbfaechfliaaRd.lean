/-
  How slices read as lists: rows of cells, rows of the call's own; what append, a conversion to a text leave. No program is in sight here.
-/
import Derived.Test.YteohbfaechfliaaVcF
import Derived.Laws.AppendOwn
import Derived.Laws.BytesArg
import Derived.Lib.ConvBytes
namespace Go.Proofs.Yteohbfaechfliaa
open Go.RowKit

theorem Addr.add_add (p : Addr) (m n : Nat) : (p.add m).add n = p.add (m + n) := by
  unfold Addr.add
  by_cases h1 : m = 0
  · subst h1; simp
  · by_cases h2 : n = 0
    · subst h2; simp [h1]
    · have h3 : ¬ m + n = 0 := by omega
      simp [h1, h2, h3, Nat.add_assoc]

/-- The slice s reads as these groups of cells, each of so many; none of its cells lies in a block of A. -/
structure Row (A : List Nat) (w : World) (s : Sl) (size : Nat) (vs : List (List Value)) : Prop where
  len : s.n = vs.length
  cap : s.n ≤ s.c
  most : s.c ≤ maxLen
  at_ : ∀ i, i < vs.length → ∃ p, s.a = some p ∧ p.block ∉ A ∧ Cells w (p.add (i * size)) (vs.getD i []) ∧ (vs.getD i []).length = size

theorem Row.nil (A : List Nat) (w : World) (size : Nat) : Row A w Sl.nil size [] := ⟨rfl, Nat.le_refl _, by decide, fun i h => absurd h (by simp)⟩
theorem Row.chg {A F : List Nat} {w w' : World} {s : Sl} {size : Nat} {vs : List (List Value)} (h : Row A w s size vs) (c : Chg F w w') (hF : ∀ b ∈ F, b ∈ A) : Row A w' s size vs :=
  ⟨h.len, h.cap, h.most, fun i hi => by
    obtain ⟨p, h1, h2, h3, h4⟩ := h.at_ i hi
    exact ⟨p, h1, h2, h3.chg c (by rw [Addr.add_block]; exact fun hm => h2 (hF _ hm)), h4⟩⟩
theorem Row.ext {A : List Nat} {w w' : World} {s : Sl} {size : Nat} {vs : List (List Value)} (h : Row A w s size vs) (c : Ext w w') : Row A w' s size vs := h.chg c (by simp)
theorem Row.less {A A' : List Nat} {w : World} {s : Sl} {size : Nat} {vs : List (List Value)} (h : Row A w s size vs) (hA : ∀ b ∈ A', b ∈ A) : Row A' w s size vs :=
  ⟨h.len, h.cap, h.most, fun i hi => by
    obtain ⟨p, h1, h2, h3, h4⟩ := h.at_ i hi
    exact ⟨p, h1, fun hm => h2 (hA _ hm), h3, h4⟩⟩
/-- A block that is not there yet is not read. -/
theorem Row.fresh {A : List Nat} {w : World} {s : Sl} {size : Nat} {vs : List (List Value)} (h : Row A w s size vs) (hs : 0 < size) {B : Nat} (hB : w.heap.size ≤ B) : Row (B :: A) w s size vs :=
  ⟨h.len, h.cap, h.most, fun i hi => by
    obtain ⟨p, h1, h2, h3, h4⟩ := h.at_ i hi
    refine ⟨p, h1, fun hm => ?_, h3, h4⟩
    rcases List.mem_cons.1 hm with e | hm
    · have hc : ∃ v, (vs.getD i [])[0]? = some v := ⟨_, List.getElem?_eq_getElem (by omega)⟩
      obtain ⟨v, hv⟩ := hc
      have := World.block_lt_of_cell? w _ (h3 0 v hv)
      rw [Addr.add_block, Addr.add_block] at this
      omega
    · exact h2 hm⟩
theorem Row.cut {A : List Nat} {w : World} {s : Sl} {size : Nat} {vs : List (List Value)} (h : Row A w s size vs) (lo hi mx : Nat) (h1 : lo ≤ hi) (h2 : hi ≤ s.n) (h3 : hi ≤ mx) (h4 : mx ≤ s.c) : Row A w (s.cut size lo hi mx) size ((vs.drop lo).take (hi - lo)) := by
  have hl := h.len
  refine ⟨?_, ?_, ?_, fun i hi' => ?_⟩
  · simp [Sl.cut]; omega
  · simp [Sl.cut]; omega
  · have := h.most; simp [Sl.cut]; omega
  · simp at hi'
    obtain ⟨p, e1, e2, e3, e4⟩ := h.at_ (lo + i) (by omega)
    have eg : ((vs.drop lo).take (hi - lo)).getD i [] = vs.getD (lo + i) [] := by
      simp only [List.getD_eq_getElem?_getD, List.getElem?_take, List.getElem?_drop]
      rw [if_pos (by omega)]
    refine ⟨p.add (lo * size), ?_, by rw [Addr.add_block]; exact e2, ?_, by rw [eg]; exact e4⟩
    · simp [Sl.cut, e1]; omega
    · rw [eg, Addr.add_add, ← Nat.add_mul]; exact e3
theorem Row.cells1 {A : List Nat} {w : World} {s : Sl} {size : Nat} {vs : List (List Value)} (h : Row A w s size vs) {i : Nat} (hi : i < vs.length) {p : Addr} (hp : s.a = some p) : Cells w (p.add (i * size)) (vs.getD i []) := by
  obtain ⟨q, h1, h2, h3, h4⟩ := h.at_ i hi
  rw [hp] at h1; cases h1; exact h3
/-- All cells, one behind the other. -/
theorem Row.flat {A : List Nat} {w : World} {s : Sl} {size : Nat} {vs : List (List Value)} (h : Row A w s size vs) {p : Addr} (hp : s.a = some p) : vs.flatten.length = s.n * size ∧ Cells w p vs.flatten := by
  have hl : ∀ (us : List (List Value)), (∀ u ∈ us, u.length = size) → us.flatten.length = us.length * size := by
    intro us
    induction us with
    | nil => simp
    | cons u us ih =>
      intro hu
      simp only [List.flatten_cons, List.length_append, List.length_cons, hu u (by simp), ih (fun x hx => hu x (by simp [hx])), Nat.add_mul]
      omega
  have hall : ∀ u ∈ vs, u.length = size := by
    intro u hu
    obtain ⟨i, hi, e⟩ := List.getElem_of_mem hu
    obtain ⟨_, _, _, _, h4⟩ := h.at_ i hi
    rw [List.getD_eq_getElem?_getD, List.getElem?_eq_getElem hi] at h4
    simp at h4; rw [← e]; exact h4
  refine ⟨by rw [hl vs hall, h.len], ?_⟩
  have key : ∀ (us : List (List Value)) (k : Nat), (∀ i, i < us.length → Cells w (p.add ((k + i) * size)) (us.getD i [])) → (∀ u ∈ us, u.length = size) → Cells w (p.add (k * size)) us.flatten := by
    intro us
    induction us with
    | nil => intro k _ _ j v hv; simp at hv
    | cons u us ih =>
      intro k hc hu j v hv
      simp only [List.flatten_cons] at hv
      by_cases hj : j < u.length
      · rw [List.getElem?_append_left hj] at hv
        have := hc 0 (by simp)
        simp only [Nat.add_zero, List.getD_cons_zero] at this
        exact this j v hv
      · rw [List.getElem?_append_right (by omega)] at hv
        have hus := hu u (by simp)
        have := ih (k + 1) (fun i hi => by have := hc (i + 1) (by simp; omega); rw [show k + 1 + i = k + (i + 1) by omega]; simpa using this) (fun x hx => hu x (by simp [hx])) (j - u.length) v hv
        rw [Addr.add_add] at this ⊢
        rw [show k * size + j = (k + 1) * size + (j - u.length) by rw [Nat.add_mul]; omega]
        exact this
  have := key vs 0 (fun i hi => by rw [Nat.zero_add]; exact h.cells1 hi hp) hall
  rwa [Nat.zero_mul, Addr.add_zero'] at this

/-- A row of the call's own: at its block's beginning, none of it frozen; the block is none of A. -/
structure Own (A : List Nat) (w : World) (s : Sl) (size : Nat) (T : TypeId) (vs : List (List Value)) : Prop where
  len : s.n = vs.length
  cap : s.n ≤ s.c
  most : s.c ≤ maxLen
  each : ∀ u ∈ vs, u.length = size
  at_ : (s = Sl.nil) ∨ ∃ g cur, s.a = some ⟨g, 0, none⟩ ∧ g ∉ A ∧ Box w g T cur ∧ cur.length = s.c * size ∧ cur.take (s.n * size) = vs.flatten

theorem Own.nil (A : List Nat) (w : World) (size : Nat) (T : TypeId) : Own A w Sl.nil size T [] := ⟨rfl, Nat.le_refl _, by decide, by simp, .inl rfl⟩
theorem flatten_len {size : Nat} : ∀ (us : List (List Value)), (∀ u ∈ us, u.length = size) → us.flatten.length = us.length * size := by
  intro us
  induction us with
  | nil => simp
  | cons u us ih =>
    intro hu
    simp only [List.flatten_cons, List.length_append, List.length_cons, hu u (by simp), ih (fun x hx => hu x (by simp [hx])), Nat.add_mul]
    omega
theorem flatten_group {size : Nat} : ∀ (us : List (List Value)), (∀ u ∈ us, u.length = size) → ∀ i, i < us.length → (us.flatten.drop (i * size)).take size = us.getD i [] := by
  intro us
  induction us with
  | nil => intro _ i hi; simp at hi
  | cons u us ih =>
    intro hu i hi
    have hus := hu u (by simp)
    cases i with
    | zero => simp [← hus]
    | succ i =>
      simp only [List.flatten_cons, List.getD_cons_succ]
      rw [Nat.add_mul, Nat.one_mul, Nat.add_comm, ← List.drop_drop, ← hus, List.drop_left]
      rw [hus]
      exact ih (fun x hx => hu x (by simp [hx])) i (by simpa using hi)
theorem Own.row {A : List Nat} {w : World} {s : Sl} {size : Nat} {T : TypeId} {vs : List (List Value)} (h : Own A w s size T vs) : Row A w s size vs := by
  refine ⟨h.len, h.cap, h.most, fun i hi => ?_⟩
  rcases h.at_ with e | ⟨g, cur, h1, h2, h3, h4, h5⟩
  · have := h.len; rw [e] at this; simp [Sl.nil] at this; omega
  · have hg := flatten_group vs h.each i hi
    have hle : (vs.getD i []).length = size := by
      rw [List.getD_eq_getElem?_getD, List.getElem?_eq_getElem hi]; exact h.each _ (List.getElem_mem hi)
    refine ⟨⟨g, 0, none⟩, h1, h2, ?_, hle⟩
    rw [Addr.add_lit, Nat.zero_add]
    refine h3.part (i * size) _ ?_
    rw [hle, ← hg, ← h5]
    have : i * size + size ≤ s.n * size := by
      have := h.len
      rw [← Nat.succ_mul]; exact Nat.mul_le_mul_right _ (by omega)
    rw [List.drop_take, List.take_take]
    congr 1
    omega
/-- The blocks that a slice begins in. -/
def Sl.blk (s : Sl) : List Nat := match s.a with
  | some p => [p.block]
  | none => []
/-- The block that may be written when something is put behind the slice. -/
def Sl.own (s : Sl) : List Nat := if s.n = s.c then [] else s.blk
theorem Sl.own_blk {s : Sl} {b : Nat} (h : b ∈ s.own) : b ∈ s.blk := by
  unfold Sl.own at h; split at h
  · cases h
  · exact h
theorem Sl.own_full {s : Sl} (h : s.n = s.c) : s.own = [] := by unfold Sl.own; rw [if_pos h]
theorem Own.blk {A : List Nat} {w : World} {s : Sl} {size : Nat} {T : TypeId} {vs : List (List Value)} (h : Own A w s size T vs) : ∀ b ∈ s.blk, b ∉ A ∧ b < w.heap.size := by
  intro b hb
  rcases h.at_ with e | ⟨g, cur, h1, h2, h3, h4, h5⟩
  · rw [e] at hb; simp [Sl.blk] at hb
  · simp [Sl.blk, h1] at hb; subst hb; exact ⟨h2, h3.lt⟩
theorem Own.chg {A F : List Nat} {w w' : World} {s : Sl} {size : Nat} {T : TypeId} {vs : List (List Value)} (h : Own A w s size T vs) (c : Chg F w w') (hF : ∀ b ∈ F, b ∈ A) : Own A w' s size T vs := by
  refine ⟨h.len, h.cap, h.most, h.each, ?_⟩
  rcases h.at_ with e | ⟨g, cur, h1, h2, h3, h4, h5⟩
  · exact .inl e
  · exact .inr ⟨g, cur, h1, h2, h3.keep c (fun hm => h2 (hF _ hm)), h4, h5⟩
theorem Own.ext {A : List Nat} {w w' : World} {s : Sl} {size : Nat} {T : TypeId} {vs : List (List Value)} (h : Own A w s size T vs) (c : Ext w w') : Own A w' s size T vs := h.chg c (by simp)
theorem Own.fresh {A : List Nat} {w : World} {s : Sl} {size : Nat} {T : TypeId} {vs : List (List Value)} (h : Own A w s size T vs) {B : Nat} (hB : w.heap.size ≤ B) : Own (B :: A) w s size T vs := by
  refine ⟨h.len, h.cap, h.most, h.each, ?_⟩
  rcases h.at_ with e | ⟨g, cur, h1, h2, h3, h4, h5⟩
  · exact .inl e
  · refine .inr ⟨g, cur, h1, fun hm => ?_, h3, h4, h5⟩
    rcases List.mem_cons.1 hm with e | hm
    · have := h3.lt; omega
    · exact h2 hm

/-- A slice that can be appended to: a row of the call's own, or one without spare room. -/
def App (A : List Nat) (w : World) (s : Sl) (size : Nat) (T : TypeId) (vs : List (List Value)) : Prop := Own A w s size T vs ∨ (s.n = s.c ∧ Row A w s size vs)
theorem App.row {A : List Nat} {w : World} {s : Sl} {size : Nat} {T : TypeId} {vs : List (List Value)} (h : App A w s size T vs) : Row A w s size vs := h.elim (·.row) (·.2)

theorem setRow_chg (w : World) (g : Nat) (cs : Array Value) : Chg [g] w (w.setRow g cs) :=
  ⟨rfl, rfl, rfl, by simp, fun k _ hk => setRow_other w g k _ (by simpa using hk)⟩

/-- **append**: what it answers is a row of the call's own; of the blocks of before only that of s may have changed. -/
theorem append_app {P : Program} {A : List Nat} {w : World} {s x : Sl} {size bytes : Nat} {t ty T : TypeId} {z : Value} {vs us : List (List Value)} (ht : P.underlying t = some (.slice T)) (hi : TI P T z size bytes) (hzs : z.cells.size = size) (hsz : 0 < size)
    (h : App A w s size T vs) (hA : ∀ b ∈ A, b < w.heap.size) (hx : Row [] w x size us) (h1 : ∀ u ∈ us.flatten, u.oneCell' = true) (hu : us ≠ [])
    (h63 : s.n + us.length ≤ maxLen) (hbytes : (s.n + us.length) * bytes ≤ 140737488355328) :
    ∃ s' w', (Builtin.append_ #[t, t] ty #[s.v, x.v]).run P w = .ok (Sl.v s') w' ∧ Own A w' s' size T (vs ++ us) ∧ Chg (s.own.filter fun b => !A.contains b) w w' ∧ (∀ b ∈ s'.blk, b ∈ s.own ∨ w.heap.size ≤ b) := by
  obtain ⟨i, hi0, hz, hs, hb⟩ := hi
  subst hs hb
  have hr := h.row
  have hul : 0 < us.length := by cases us <;> simp_all
  have hsmall : s.n + us.length ≤ 9223372036854775807 := by simp only [maxLen] at h63; omega
  obtain ⟨px, hpx⟩ : ∃ p, x.a = some p := by obtain ⟨p, hp, _⟩ := hx.at_ 0 hul; exact ⟨p, hp⟩
  have hxf := hx.flat hpx
  have hvx : x.v = .slice (some px) us.length x.c := by unfold Sl.v; rw [hpx, hx.len]
  have hxl : us.flatten.length = us.length * i.size := by rw [hxf.1, hx.len]
  have hvl : s.n = vs.length := hr.len
  have each : ∀ u ∈ vs ++ us, u.length = i.size := by
    intro u hu'
    rcases List.mem_append.1 hu' with hm | hm
    · obtain ⟨k, hk, e⟩ := List.getElem_of_mem hm
      obtain ⟨_, _, _, _, h4⟩ := hr.at_ k hk
      rw [List.getD_eq_getElem?_getD, List.getElem?_eq_getElem hk] at h4
      simp at h4; rw [← e]; exact h4
    · obtain ⟨k, hk, e⟩ := List.getElem_of_mem hm
      obtain ⟨_, _, _, _, h4⟩ := hx.at_ k hk
      rw [List.getD_eq_getElem?_getD, List.getElem?_eq_getElem hk] at h4
      simp at h4; rw [← e]; exact h4
  have hvf : vs.flatten.length = s.n * i.size := by rw [flatten_len vs (fun u hu' => each u (by simp [hu'])), hvl]
  have grown : ∀ (old : Nat), old < s.n + us.length →
      Own A (w.drew.alloc (.cells (vs.flatten.toArray ++ us.flatten.toArray ++ Builtin.zeroCells z.cells (grownCap w (s.n + us.length) old T - (s.n + us.length))) T))
        ⟨some ⟨w.heap.size, 0, none⟩, s.n + us.length, grownCap w (s.n + us.length) old T⟩ i.size T (vs ++ us) := by
    intro old ho
    have hge := grownCap_ge w (s.n + us.length) old T
    have hcm : grownCap w (s.n + us.length) old T ≤ maxLen := grownCap_le_maxLen w (s.n + us.length) old T h63
    refine ⟨by simp [hvl], hge, hcm, each, .inr ⟨w.heap.size, vs.flatten ++ us.flatten ++ (Builtin.zeroCells z.cells (grownCap w (s.n + us.length) old T - (s.n + us.length))).toList, rfl, fun hm => by have := hA _ hm; omega, ?_, ?_, ?_⟩⟩
    · unfold Box
      have := heap_alloc_new w.drew (.cells (vs.flatten.toArray ++ us.flatten.toArray ++ Builtin.zeroCells z.cells (grownCap w (s.n + us.length) old T - (s.n + us.length))) T)
      rw [show w.drew.heap.size = w.heap.size from rfl] at this
      rw [this]
      simp
    · simp only [List.length_append, Array.length_toList, size_zeroCells, hvf, hxl, hzs, ← Nat.add_mul]
      congr 1; omega
    · show (vs.flatten ++ us.flatten ++ _).take ((s.n + us.length) * i.size) = _
      rw [List.flatten_append, Nat.add_mul, ← hvf, ← hxl, ← List.length_append, List.take_left]
  have growC : ∀ o, Chg (s.own.filter fun b => !A.contains b) w (w.drew.alloc o) := fun o => Chg.ext (((Chg.refl [] w).drew).trans (Ext.alloc _ _))
  by_cases hcap : s.n + us.length ≤ s.c
  · -- there is room: it is a row of the call's own
    have hown' : s.own = s.blk := by unfold Sl.own; rw [if_neg (by omega)]
    have hown : Own A w s i.size T vs := by
      rcases h with h | ⟨h, _⟩
      · exact h
      · omega
    rcases hown.at_ with e | ⟨g, cur, e1, e2, e3, e4, e5⟩
    · have e1 : s.n = 0 := by rw [e]
      have e2 : s.c = 0 := by rw [e]
      omega
    · have hg : w.heap[g]? = some (.cells cur.toArray T (0, 0)) := e3
      have hfit : s.n * i.size + us.flatten.length ≤ cur.toArray.size := by
        rw [hxl, ← Nat.add_mul]; simp only [List.size_toArray]; rw [e4]; exact Nat.mul_le_mul_right _ hcap
      have hrun := run_append_room (P := P) w t ty T i ht hi0 g s.n s.c cur.toArray hg px us.length x.c us.flatten hxl hxf.2 h1 hcap hfit
      refine ⟨⟨some ⟨g, 0, none⟩, s.n + us.length, s.c⟩, w.setRow g ((cur.toArray.toList.take (s.n * i.size) ++ us.flatten ++ cur.toArray.toList.drop (s.n * i.size + us.flatten.length)).toArray), ?_, ?_, (setRow_chg w g _).mono (by rw [hown']; simp [Sl.blk, e1, e2]), by rw [hown']; simp [Sl.blk, e1]⟩
      · rw [hvx]; unfold Sl.v; rw [e1]; exact hrun
      · refine ⟨by simp [hvl], hcap, hown.most, each, .inr ⟨g, cur.take (s.n * i.size) ++ us.flatten ++ cur.drop (s.n * i.size + us.flatten.length), rfl, e2, ?_, ?_, ?_⟩⟩
        · unfold Box; exact setRow_heap w g cur.toArray _ T _ hg
        · simp only [List.length_append, List.length_take, List.length_drop]
          simp only [List.size_toArray] at hfit
          omega
        · show List.take ((s.n + us.length) * i.size) _ = _
          rw [e5, List.flatten_append, Nat.add_mul, ← hxl, ← hvf, ← List.length_append, List.take_left]
  · -- a new row
    cases hsa : s.a with
    | none =>
      have hn0 : s.n = 0 := by
        cases hv : vs with
        | nil => rw [hvl, hv]; rfl
        | cons v0 vr => obtain ⟨p, hp, _⟩ := hr.at_ 0 (by rw [hv]; simp); rw [hsa] at hp; cases hp
      have hv0 : vs = [] := List.eq_nil_of_length_eq_zero (by omega)
      have hc0 : s.c = 0 := by
        rcases h with h | ⟨h, _⟩
        · rcases h.at_ with e | ⟨g, cur, e1, _⟩
          · rw [e]
          · rw [hsa] at e1; cases e1
        · omega
      have hrun := run_append_nil (P := P) w t ty T i z ht hi0 hz px us.length x.c us.flatten hxl hxf.2 hul (by omega) (by have := hbytes; rw [hn0, Nat.zero_add] at this; omega)
      have hg := grown 0 (by omega)
      rw [hn0, hv0] at hg
      simp only [Nat.zero_add, List.flatten_nil, Array.empty_append, List.nil_append] at hg
      refine ⟨_, _, ?_, by rw [hv0, List.nil_append]; exact hg, growC _, by simp [Sl.blk]⟩
      rw [hvx]; unfold Sl.v; rw [hsa, hn0, hc0]
      exact hrun
    | some p =>
      have hflat := hr.flat hsa
      have hrun := run_append_grow (P := P) w t ty T i z ht hi0 hz p s.n s.c vs.flatten hvf hflat.2 px us.length x.c us.flatten hxl hxf.2 (by omega) (by omega) (growslice_fits (by omega) hbytes)
      refine ⟨_, _, ?_, grown s.c (by omega), growC _, by simp [Sl.blk]⟩
      rw [hvx]; unfold Sl.v; rw [hsa]
      exact hrun

end Go.Proofs.Yteohbfaechfliaa
