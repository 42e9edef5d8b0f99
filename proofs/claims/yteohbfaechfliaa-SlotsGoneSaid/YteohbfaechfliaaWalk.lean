/-
  The package walk: a tree's nodes in order, in memory.
-/
import Derived.Test.YteohbfaechfliaaPre
import Derived.Test.YteohbfaechfliaaTreeJ
import Derived.Test.YteohbfaechfliaaGwalk
import Derived.Test.YteohbfaechfliaaGlib
namespace Go.Proofs.Yteohbfaechfliaa
open Go.RowKit

theorem Own.pre {A : List Nat} {w : World} {s : Sl} {size : Nat} {T : TypeId} {vs : List (List Value)} (h : Own A w s size T vs) {k : Nat} (hk : k ≤ vs.length) (hne : s ≠ Sl.nil) : Own A w (s.cut size 0 k s.c) size T (vs.take k) := by
  have hl := h.len
  have hc := h.cap
  have ha : (s.cut size 0 k s.c).a = s.a := by
    simp only [Sl.cut, Nat.zero_mul]
    split
    · rfl
    · cases s.a with
      | none => rfl
      | some p => simp [Addr.add_zero']
  refine ⟨by simp [Sl.cut]; omega, by simp [Sl.cut]; omega, by have := h.most; simp [Sl.cut]; omega, fun u hu => h.each u (List.mem_of_mem_take hu), .inr ?_⟩
  rcases h.at_ with e | ⟨g, cur, h1, h2, h3, h4, h5⟩
  · exact absurd e hne
  · refine ⟨g, cur, by rw [ha, h1], h2, h3, by simpa [Sl.cut] using h4, ?_⟩
    have hsplit : vs.flatten = (vs.take k).flatten ++ (vs.drop k).flatten := by rw [← List.flatten_append, List.take_append_drop]
    have hlen : (vs.take k).flatten.length = k * size := by
      rw [flatten_len _ (fun u hu => h.each u (List.mem_of_mem_take hu)), List.length_take, Nat.min_eq_left hk]
    have : cur.take (k * size) = (cur.take (s.n * size)).take (k * size) := by
      rw [List.take_take, Nat.min_eq_left (Nat.mul_le_mul_right _ (by omega))]
    simp only [Sl.cut, Nat.sub_zero]
    rw [this, h5, hsplit, ← hlen, List.take_left]
theorem Own.one {A : List Nat} {w : World} {B : Nat} {S : TypeId} {cs : List Value} (h : Box w B S cs) (hA : B ∉ A) : Own A w (Sl.mk (some ⟨B, 0, none⟩) 1 1) cs.length S [cs] :=
  ⟨rfl, Nat.le_refl _, by simp [maxLen], by simp, .inr ⟨B, cs, rfl, hA, h, by simp, by simp⟩⟩
theorem Sl.blk_cut (s : Sl) (size k : Nat) : (s.cut size 0 k s.c).blk = s.blk := by
  obtain ⟨a, n, c⟩ := s
  cases a with
  | none => simp [Sl.cut, Sl.blk]
  | some p => simp [Sl.cut, Sl.blk, Addr.add_zero']

/-! ### each -/

/-- What stands on the stack: where a node is, whose kid it is, how deep, at which place. -/
def stc (x : Addr × Int × Nat × Nat) : List Value := [.pointer (some x.1), .int .i64 x.2.1, .int .i64 (x.2.2.1 : Int), .int .i64 (x.2.2.2 : Int)]
theorem ones_stc (x : Addr × Int × Nat × Nat) : ∀ u ∈ [stc x].flatten, u.oneCell' = true := by intro u hu; simp [stc] at hu; rcases hu with rfl | rfl | rfl | rfl <;> rfl
/-- A node stands there, with all in it. -/
def AtT (A : List Nat) (w : World) (p : Addr) (t : T) : Prop := p.block ∉ A ∧ ∃ sa sk : Sl, Cells w p (tc t (sa, sk)) ∧ RdT A w t sa sk
theorem AtT.chg {A F : List Nat} {w w' : World} {p : Addr} {t : T} (h : AtT A w p t) (c : Chg F w w') (hF : ∀ b ∈ F, b ∈ A) : AtT A w' p t := by
  obtain ⟨h1, sa, sk, h2, h3⟩ := h
  exact ⟨h1, sa, sk, h2.chg c fun hm => h1 (hF _ hm), RdT.chg c hF h3⟩
theorem AtT.ext {A : List Nat} {w w' : World} {p : Addr} {t : T} (h : AtT A w p t) (c : Ext w w') : AtT A w' p t := h.chg c (by simp)
theorem AtT.less {A A' : List Nat} {w : World} {p : Addr} {t : T} (h : AtT A w p t) (hA : ∀ b ∈ A', b ∈ A) : AtT A' w p t := by
  obtain ⟨h1, sa, sk, h2, h3⟩ := h
  exact ⟨fun hm => h1 (hA _ hm), sa, sk, h2, h3.less hA⟩
theorem AtT.lt {A : List Nat} {w : World} {p : Addr} {t : T} (h : AtT A w p t) : p.block < w.heap.size := by
  obtain ⟨_, sa, sk, h2, _⟩ := h
  have := World.block_lt_of_cell? w _ (h2 0 _ rfl)
  simpa [Addr.add_block] using this

/-- More blocks that are not read: such as were to be avoided, or are newer. -/
theorem RdT.wide {A A' : List Nat} {w : World} {t : T} {sa sk : Sl} (h : RdT A w t sa sk) (hA : ∀ b ∈ A', b ∈ A ∨ w.heap.size ≤ b) : RdT A' w t sa sk := by
  have h2 : ∀ L : List Nat, (∀ b ∈ L, b ∈ A ∨ w.heap.size ≤ b) → RdT (L ++ A) w t sa sk := fun L => by
    induction L with
    | nil => intro _; exact h
    | cons b L ih =>
      intro hL
      have h3 := ih (fun b hb => hL b (List.mem_cons_of_mem _ hb))
      rcases hL b (List.mem_cons_self ..) with hm | hm
      · refine h3.less fun x hx => ?_
        rcases List.mem_append.1 hx with hx | hx
        · rcases List.mem_cons.1 hx with e | hx
          · subst e; exact List.mem_append_right _ hm
          · exact List.mem_append_left _ hx
        · exact List.mem_append_right _ hx
      · exact h3.fresh hm
  exact (h2 A' hA).less fun b hb => List.mem_append_left _ hb
theorem AtT.wide {A A' : List Nat} {w : World} {p : Addr} {t : T} (h : AtT A w p t) (hA : ∀ b ∈ A', b ∈ A ∨ w.heap.size ≤ b) : AtT A' w p t := by
  have hl := h.lt
  obtain ⟨h1, sa, sk, h2, h3⟩ := h
  exact ⟨fun hm => (hA _ hm).elim h1 (fun h => by omega), sa, sk, h2, h3.wide hA⟩

def pushedA (pk : Addr) (p : Int) (d : Nat) : List T → Nat → List (Addr × T × Int × Nat × Nat)
  | [], _ => []
  | u :: us, i => (pk.add (i * 5), u, p, d, i) :: pushedA pk p d us (i + 1)
theorem pushedA_map (pk : Addr) (p : Int) (d : Nat) : ∀ (us : List T) (i : Nat), (pushedA pk p d us i).map (·.2) = pushed p d us i
  | [], _ => rfl
  | u :: us, i => by rw [pushedA, List.map_cons, pushedA_map pk p d us, pushed]
theorem pushedA_len (pk : Addr) (p : Int) (d : Nat) : ∀ (us : List T) (i : Nat), (pushedA pk p d us i).length = us.length
  | [], _ => rfl
  | u :: us, i => by rw [pushedA, List.length_cons, pushedA_len pk p d us, List.length_cons]
theorem pushedA_get (pk : Addr) (p : Int) (d : Nat) : ∀ (us : List T) (i j : Nat), j < us.length → (pushedA pk p d us i)[j]? = some (pk.add ((i + j) * 5), us.getD j T.nul, p, d, i + j)
  | u :: us, i, 0, _ => rfl
  | u :: us, i, j + 1, h => by
    rw [pushedA, List.getElem?_cons_succ, pushedA_get pk p d us (i + 1) j (by simpa using h), List.getD_cons_succ, show i + 1 + j = i + (j + 1) by omega]
theorem pushedA_drop (pk : Addr) (p : Int) (d : Nat) (us : List T) {j : Nat} (h : j < us.length) : (pushedA pk p d us 0).drop j = (pk.add (j * 5), us.getD j T.nul, p, d, j) :: (pushedA pk p d us 0).drop (j + 1) := by
  have h1 := pushedA_get pk p d us 0 j h
  rw [Nat.zero_add] at h1
  have hlt : j < (pushedA pk p d us 0).length := by rw [pushedA_len]; exact h
  rw [List.drop_eq_getElem_cons hlt]
  rw [List.getElem?_eq_getElem hlt] at h1
  rw [Option.some.inj h1]

def stx (x : Addr × T × Int × Nat × Nat) : List Value := stc (x.1, x.2.2)
theorem last_getD {α : Type} (l : List α) (x d : α) : (l ++ [x]).getD l.length d = x := by simp [List.getD_eq_getElem?_getD]

theorem walkEach {f : FuncId} {fst cap : Array Value} (hbody : Body Try.prog f) {t : T} (hb : t.bulk ≤ 1099511627776) {p : Addr} {w : World} {H0 : List Nat} (hat : AtT H0 w p t)
    (Φ : List En → List Nat → World → Prop) (hΦs : ∀ es H w w' F, Φ es H w → Chg F w w' → (∀ b ∈ F, b ∉ H) → Φ es H w') (hΦb : ∀ es H w, Φ es H w → ∀ b ∈ H, b < w.heap.size)
    (step : ∀ es e rest q H w1, t.flat = es ++ e :: rest → Φ es H w1 → AtT H w1 q e.t → Calls Try.prog f (fst ++ #[.int .i64 (es.length : Int), .agg #[.pointer (some q), .int .i64 e.par, .int .i64 (e.dep : Int), .int .i64 (e.pl : Int)]] ++ cap) w1
      (Ret fun v w2 => v = .bool true ∧ ∃ H', Φ (es ++ [e]) H' w2 ∧ Chg H w1 w2 ∧ ∀ b ∈ H', b ∈ H ∨ w1.heap.size ≤ b)) (h0 : Φ [] H0 w) :
    Calls Try.prog 62 #[.pointer (some p), .func (.func f) fst cap] w (Ret fun v w' => v = .tuple #[] ∧ ∃ H', Φ t.flat H' w' ∧ Chg H0 w w' ∧ ∀ b ∈ H', b ∈ H0 ∨ w.heap.size ≤ b) := by
  refine walk_each.ok _ _ ?_
  unfold walk_each.vc
  intro w1 B5 hN5 hE1 hB5
  have hsz := T.size_bulk t
  have hHw := hΦb _ _ _ h0
  refine ⟨fun s id w' => ∃ (st : List (Addr × T × Int × Nat × Nat)) (es : List En) (H : List Nat), id = (es.length : Int) ∧ t.flat = es ++ rem (st.map (·.2)) es.length ∧ Own (H ++ List.range w.heap.size) w' s 4 114 ((st.map stx).reverse) ∧ s.a ≠ none ∧ Φ es H w' ∧ Chg H0 w w' ∧ (∀ b ∈ H, b ∈ H0 ∨ w.heap.size ≤ b) ∧ (∀ x ∈ st, AtT H0 w x.1 x.2.1), fun _ id _ => t.size - id.toNat,
    ⟨[(p, t, -1, 0, 0)], [], H0, rfl, by simp [rem, T.flat], Own.one (show Box w1 B5 _ (stx (p, t, -1, 0, 0)) from hB5) (fun hm => ?_), by simp, hΦs _ _ _ _ _ h0 hE1 (by simp), hE1.mono (by simp), fun b hb => .inl hb, by simpa using hat⟩, ?_⟩
  · have := hN5.ge
    rcases List.mem_append.1 hm with hm | hm
    · have := hHw _ hm; omega
    · have := List.mem_range.1 hm; omega
  rintro s id w2 ⟨st, es, H, rfl, hfl, hOwn, hne, hΦ, hC, hH, hst⟩
  have hn := hOwn.len
  have hcap := hOwn.cap
  have hmost := hOwn.most
  simp only [List.length_reverse, List.length_map] at hn
  simp only [maxLen] at hmost
  have hsne : s ≠ Sl.nil := fun e => hne (by rw [e]; first | done | rfl)
  refine ⟨fun hpos => ?_, fun hz => ?_⟩
  · cases st with
    | nil => simp at hn; omega
    | cons x st' =>
      obtain ⟨q, u, par, dep, pl⟩ := x
      simp only [List.length_cons] at hn
      have hrev : (((q, u, par, dep, pl) :: st').map stx).reverse = (st'.map stx).reverse ++ [stx (q, u, par, dep, pl)] := by simp
      rw [hrev] at hOwn
      have hlen' : ((st'.map stx).reverse).length = s.n - 1 := by simp; omega
      obtain ⟨ps, hps, hpsb, hcell, _⟩ := hOwn.row.at_ (s.n - 1) (by simp; omega)
      rw [← hlen', last_getD, hlen'] at hcell
      have hidx : ((s.n : Int) - 1).toNat = s.n - 1 := by omega
      have hel : es.length + 1 ≤ t.size := by
        have := congrArg List.length hfl
        rw [T.flat_len, List.length_append] at this
        simp only [List.map_cons, rem, List.length_append, T.ents_len] at this
        have := T.size_pos u
        omega
      rw [hidx]
      have hOwn1 := hOwn.pre (k := s.n - 1) (by simp; omega) hsne
      rw [show ((st'.map stx).reverse ++ [stx (q, u, par, dep, pl)]).take (s.n - 1) = (st'.map stx).reverse by rw [← hlen', List.take_left]] at hOwn1
      refine ⟨⟨by omega, by omega⟩, ⟨⟨by omega, by omega⟩, ps, hps, some q, par, (dep : Int), (pl : Int), hcell, ⟨by omega, by omega⟩, ⟨by omega, by omega⟩, f, fst, cap, rfl, fun w3 B3 hN3 hE3 => ⟨hbody, ?_⟩⟩⟩
      have hat1 := hst (q, u, par, dep, pl) (by simp)
      have hC3 : Chg H0 w w3 := hC.more hE3
      have hfl2 : t.flat = (es ++ [⟨par, dep, pl, u⟩]) ++ rem (pushed es.length (dep + 1) u.kids 0 ++ st'.map (·.2)) (es.length + 1) := by
        rw [hfl, List.map_cons, rem_step]; simp
      have hΦ3 := hΦs _ _ _ _ _ hΦ hE3 (by simp)
      have hatw : ∀ (H1 : List Nat) (w' : World), Chg H0 w w' → (∀ b ∈ H1, b ∈ H0 ∨ w.heap.size ≤ b) → AtT H1 w' q u := fun H1 w' hc hh =>
        AtT.less ((hat1.wide (A' := H1 ++ H0) (fun b hb => (List.mem_append.1 hb).elim (hh b) .inl)).chg hc (fun b hb => List.mem_append_right _ hb)) (fun b hb => List.mem_append_left _ hb)
      have hcall := step es ⟨par, dep, pl, u⟩ (rem (pushed es.length (dep + 1) u.kids 0 ++ st'.map (·.2)) (es.length + 1)) q H w3 (by rw [hfl2]; simp [List.append_assoc]) hΦ3 (hatw H w3 hC3 hH)
      refine Ret.mono hcall ?_
      rintro v w4 ⟨rfl, H', hΦ4, hC4, hH'⟩
      have hHlt := hΦb _ _ _ hΦ
      refine ⟨hC4.noTouch _ (fun b hb hm => ?_), hC4.size, true, rfl, fun h => by simp at h, fun _ => ?_⟩
      · simp at hb; subst hb
        have := hHlt _ hm; have := hN3.ge; omega
      have hC04 : Chg H0 w w4 := hC3.more' hC4 hH
      have hH4 : ∀ b ∈ H', b ∈ H0 ∨ w.heap.size ≤ b := fun b hb => (hH' b hb).elim (hH b) (fun h => .inr (Nat.le_trans hC3.size h))
      have hH4lt := hΦb _ _ _ hΦ4
      obtain ⟨hqb, sa, sk, hqc, hqr⟩ := hat1
      replace hqr : RdT H0 w u sa sk := hqr
      replace hqb : q.block ∉ H0 := hqb
      replace hqc : Cells w q (tc u (sa, sk)) := hqc
      have hcp := hqr.caps
      have hnk := hqr.nkids
      have hmk := hcp.2.2.2
      simp only [maxLen] at hmk
      have hkc : ∀ w', Chg H0 w w' → w'.cell? (q.add 4) = some sk.v := fun w' hc => hc.cell (hqc 4 _ rfl) (by rw [Addr.add_block]; exact hqb)
      have hdep : (dep : Int) + 1 = ((dep + 1 : Nat) : Int) := by omega
      have hOwn3 : Own (H' ++ List.range w.heap.size) w4 (s.cut 4 0 (s.n - 1) s.c) 4 114 ((st'.map stx).reverse) := by
        have h3 := hOwn1.chg hE3 (by simp)
        have h4 := h3.keep hC4 (fun b hb hm => (h3.blk b hb).1 (List.mem_append_left _ hm))
        refine h4.avoid fun b hb hm => ?_
        rcases List.mem_append.1 hm with hm | hm
        · rcases hH' b hm with h | h
          · exact (h3.blk b hb).1 (List.mem_append_left _ h)
          · have := (h3.blk b hb).2; omega
        · exact (h3.blk b hb).1 (List.mem_append_right _ hm)
      have hcutne : (s.cut 4 0 (s.n - 1) s.c).a ≠ none := by
        simp only [Sl.cut]; split
        · exact hne
        · cases h : s.a with
          | none => exact absurd h hne
          | some _ => simp
      have hdlt : dep + 1 ≤ 1099511627776 := by
        have := T.flat_dep t (e := ⟨par, dep, pl, u⟩) (by rw [hfl2]; simp)
        simp only at this; omega
      have hroom : u.kids.length + st'.length ≤ t.size := by
        have h1 := congrArg List.length hfl2
        have h2 := rem_len (pushed es.length (dep + 1) u.kids 0 ++ st'.map (·.2)) (es.length + 1)
        rw [T.flat_len, List.length_append] at h1
        rw [List.length_append, pushed_len, List.length_map] at h2
        omega
      have hB3lt : B3 < w4.heap.size := Nat.lt_of_lt_of_le hN3.lt hC4.size
      have hB3s : B3 ∉ (s.cut 4 0 (s.n - 1) s.c).blk := fun hm => by
        have := (hOwn1.blk B3 hm).2; have := hN3.ge; omega
      refine ⟨q, rfl, sk, hkc w4 hC04, ⟨by omega, by omega⟩, fun s i w' => ∃ k : Nat, i + 1 = (k : Int) ∧ k ≤ u.kids.length ∧ Own (B3 :: (H' ++ List.range w.heap.size)) w' s 4 114 ((((pushedA (sk.a.getD ⟨0, 0, none⟩) es.length (dep + 1) u.kids 0).drop k ++ st').map stx).reverse) ∧ s.a ≠ none ∧ Φ (es ++ [⟨par, dep, pl, u⟩]) H' w' ∧ Chg H0 w w' ∧ w4.heap.size ≤ w'.heap.size, fun _ i _ => (i + 1).toNat, ⟨u.kids.length, by omega, Nat.le_refl _, ?_, hcutne, hΦ4, hC04, Nat.le_refl _⟩, ?_⟩
      · rw [List.drop_of_length_le (by rw [pushedA_len]; exact Nat.le_refl _), List.nil_append]; exact hOwn3.cons hB3s
      rintro s5 i w5 ⟨k, hik, hk, hO5, hne5, hΦ5, hC5, hsz5⟩
      refine ⟨fun hi w6 hE6 => ?_, fun hi => ?_⟩
      · obtain ⟨j, rfl⟩ : ∃ j : Nat, i = (j : Int) := ⟨i.toNat, by omega⟩
        have hj : k = j + 1 := by omega
        subst hj
        have hju : j < u.kids.length := by omega
        obtain ⟨pk, sa', sk', hpk, hpkb, hkcell, hkr⟩ := hqr.kid hju
        have hC6 : Chg H0 w w6 := hC5.more hE6
        refine ⟨q, rfl, sk, hkc w6 hC6, pk, ⟨⟨by omega, by omega⟩, hpk⟩, ⟨by omega, by omega⟩, fun w7 B7 hE7 hB7 hbox _ => ?_⟩
        rw [Int.toNat_natCast] at hbox
        have hO7 := (hO5.ext hE6).ext hE7
        have hC7 : Chg H0 w w7 := hC6.more hE7
        have hn5 := hO5.len
        have hbox' : Box w7 B7 114 (stx (pk.add (j * 5), u.kids.getD j T.nul, (es.length : Int), dep + 1, j)) := by
          rw [hdep] at hbox; exact hbox
        simp only [List.length_reverse, List.length_map, List.length_append, List.length_drop, pushedA_len] at hn5
        refine App.runK Try.underlying133 ti_114 rfl (by decide) (.inl hO7) (fun b hb => ?_) (Own.one (A := []) hbox' (by simp)).row (ones_stc _) (by simp) ?_ ?_ ?_ fun s8 w8 hO8 hC8 hb8 => ?_
        · rcases List.mem_cons.1 hb with rfl | hb
          · exact Nat.lt_of_lt_of_le hB3lt (Nat.le_trans hsz5 (Nat.le_trans hE6.size hE7.size))
          · rcases List.mem_append.1 hb with hb | hb
            · have := (hΦb _ _ _ hΦ5) b hb; have := hE6.size; have := hE7.size; omega
            · have := List.mem_range.1 hb; have := hC7.size; omega
        · simp only [maxLen, List.length_singleton]; omega
        · simp only [List.length_singleton]; omega
        · intro b hb; simp at hb; subst hb; simp
        · refine ⟨s8, rfl, ⟨by omega, by omega⟩, fun w9 hE9 => ⟨⟨j, by omega, by omega, ?_, ?_, ?_, ?_, ?_⟩, by dsimp only; omega⟩⟩
          · have e : ((pushedA (sk.a.getD ⟨0, 0, none⟩) es.length (dep + 1) u.kids 0).drop j ++ st').map stx = stx (pk.add (j * 5), u.kids.getD j T.nul, (es.length : Int), dep + 1, j) :: ((pushedA (sk.a.getD ⟨0, 0, none⟩) es.length (dep + 1) u.kids 0).drop (j + 1) ++ st').map stx := by
              rw [pushedA_drop _ _ _ _ hju, hpk]; rfl
            rw [e, List.reverse_cons]
            exact hO8.chg hE9 (by simp)
          · rcases hO8.at_ with h | ⟨g, cur, h1, _⟩
            · have := hO8.len; rw [h] at this; simp [Sl.nil] at this
            · rw [h1]; simp
          · exact hΦs _ _ _ _ _ (hΦs _ _ _ _ _ (hΦs _ _ _ _ _ (hΦs _ _ _ _ _ hΦ5 hE6 (by simp)) hE7 (by simp)) hC8 fun b hb hm => (hO7.blk b (Sl.own_blk hb)).1 (by simp [hm])) hE9 (by simp)
          · refine (hC7.more' hC8 fun b hb => .inr ?_).more hE9
            have := (hO7.blk b (Sl.own_blk hb)).1
            simp at this; omega
          · exact Nat.le_trans hsz5 (Nat.le_trans hE6.size (Nat.le_trans hE7.size (Nat.le_trans hC8.size hE9.size)))
      · have hk0 : k = 0 := by omega
        subst hk0
        rw [List.drop_zero] at hO5
        replace hO5 := hO5.less (A' := H' ++ List.range w.heap.size) (fun b hb => List.mem_cons_of_mem _ hb)
        refine ⟨⟨by omega, by omega⟩, ⟨pushedA (sk.a.getD ⟨0, 0, none⟩) es.length (dep + 1) u.kids 0 ++ st', es ++ [⟨par, dep, pl, u⟩], H', by simp, ?_, hO5, hne5, hΦ5, hC5, hH4, fun x hx => ?_⟩, ?_⟩
        · rw [List.map_append, pushedA_map, List.length_append]; exact hfl2
        · rcases List.mem_append.1 hx with hx | hx
          · obtain ⟨j, hj, rfl⟩ := List.getElem_of_mem hx
            rw [pushedA_len] at hj
            have hg := pushedA_get (sk.a.getD ⟨0, 0, none⟩) es.length (dep + 1) u.kids 0 j hj
            rw [List.getElem?_eq_getElem (by rw [pushedA_len]; exact hj)] at hg
            rw [Option.some.inj hg]
            obtain ⟨pk, sa', sk', hpk, hpkb, hkcell, hkr⟩ := hqr.kid hj
            rw [hpk, Nat.zero_add]
            exact ⟨by simp only [Option.getD_some, Addr.add_block]; exact hpkb, sa', sk', hkcell, hkr⟩
          · exact hst x (List.mem_cons_of_mem _ hx)
        · dsimp only; omega
  · have hs0 : st = [] := by cases st with
      | nil => rfl
      | cons x r => simp at hn; omega
    subst hs0
    simp only [List.map_nil, rem, List.append_nil] at hfl
    refine ⟨rfl, H, ?_, hC, hH⟩
    rw [hfl]; exact hΦ

/-! ### Flat -/

/-- An item's cells: its node, how great and how high it is told to be. -/
def itc (e : En) (a : Sl) (z h : Nat) : List Value := [.int .i64 e.par, .int .i64 (z : Int), .int .i64 (e.dep : Int), .int .i64 (h : Int), .int .i64 (e.pl : Int), .int .i64 e.t.kind, .string (Bs e.t.name), .string (Bs e.t.text), a.v, Sl.nil.v]
theorem ones_ic (e : En) (a : Sl) (z h : Nat) : ∀ u ∈ [itc e a z h].flatten, u.oneCell' = true := by
  intro u hu; simp [itc] at hu; rcases hu with rfl | rfl | rfl | rfl | rfl | rfl | rfl | rfl | rfl | rfl <;> rfl
/-- Items, with sizes and heights. -/
def icl (es : List En) (al : List Sl) (z h : Nat → Nat) : List (List Value) := (List.range es.length).map fun i => itc (es.getD i ⟨0, 0, 0, T.nul⟩) (al.getD i Sl.nil) (z i) (h i)
/-- Items stand in an own row; their attributes elsewhere. -/
def Itm (A : List Nat) (w : World) (s : Sl) (es : List En) (z h : Nat → Nat) : Prop := ∃ al : List Sl, al.length = es.length ∧ Own A w s 10 86 (icl es al z h) ∧
  ∀ (i : Nat) (e : En) (a : Sl), es[i]? = some e → al[i]? = some a → Row (s.blk ++ A) w a 2 (e.t.attrs.map ac)

theorem cloneAttrs {A : List Nat} {w : World} {s : Sl} {l : List (Str × Str)} (h : Row A w s 2 (l.map ac)) (hb : l.length ≤ 1099511627776) :
    Calls Try.prog 64 #[s.v] w (Ret fun v w' => Ext w w' ∧ ∃ s' : Sl, v = s'.v ∧ Own (List.range w.heap.size) w' s' 2 47 (l.map ac)) := by
  refine slices_Clone__api_Attr_api_Attr_.ok _ ?_
  unfold slices_Clone__api_Attr_api_Attr_.vc
  have hl := h.len
  simp only [List.length_map] at hl
  refine ⟨fun hn => ⟨Chg.refl _ _, Sl.nil, rfl, ?_⟩, fun hn w1 B hN hE hB => ?_⟩
  · have : l = [] := by
      cases l with
      | nil => rfl
      | cons x r =>
        obtain ⟨p, hp, _⟩ := h.at_ 0 (by simp)
        rw [hp] at hn; simp at hn
    subst this; exact Own.nil _ _ _ _
  · have hown : Own (List.range w.heap.size) w1 (Sl.mk (some ⟨B, 0, none⟩) 0 0) 2 47 [] :=
      ⟨rfl, Nat.le_refl _, by simp, by simp, .inr ⟨B, [], rfl, by have := hN.ge; simp; omega, hB, by simp, by simp⟩⟩
    cases hx : l with
    | nil =>
      have e := append_none (P := Try.prog) (w := w1) (s := Sl.mk (some ⟨B, 0, none⟩) 0 0) (x := s) (t := 23) (ty := 23) Try.underlying23 ti_47 (Nat.le_refl _) (by rw [hl, hx]; rfl)
      exact ⟨_, _, e, fun b hb => by simp at hb, Nat.le_refl _, _, rfl, hE, _, rfl, hown⟩
    | cons x r =>
      rw [← hx]
      refine App.runK Try.underlying23 ti_47 rfl (by decide) (.inl hown) (fun b hb => Nat.lt_of_lt_of_le (List.mem_range.1 hb) hE.size) ((h.ext hE).less (by simp)) (ones_acs l) (by rw [hx]; simp) (by simp [maxLen]; omega) (by simp; omega) (by simp) fun s' w' ho hc hb => ⟨s', rfl, ?_, s', rfl, by simpa using ho⟩
      exact hE.more (hc.mono (by simp [Sl.own]))

theorem icl_snoc (es : List En) (al : List Sl) (z h : Nat → Nat) (e : En) (a : Sl) (hl : al.length = es.length) : icl (es ++ [e]) (al ++ [a]) z h = icl es al z h ++ [itc e a (z es.length) (h es.length)] := by
  unfold icl
  rw [List.length_append, List.length_singleton, List.range_succ, List.map_append]
  congr 1
  · refine List.map_congr_left fun i hi => ?_
    have hi' := List.mem_range.1 hi
    simp only [List.getD_eq_getElem?_getD]
    rw [List.getElem?_append_left hi', List.getElem?_append_left (by omega)]
  · simp only [List.map_cons, List.map_nil, List.getD_eq_getElem?_getD]
    rw [List.getElem?_append_right (Nat.le_refl _), List.getElem?_append_right (by omega), hl]; simp
theorem icl_len (es : List En) (al : List Sl) (z h : Nat → Nat) : (icl es al z h).length = es.length := by simp [icl]
theorem icl_get (es : List En) (al : List Sl) (z h : Nat → Nat) {i : Nat} (hi : i < es.length) : (icl es al z h).getD i [] = itc (es.getD i ⟨0, 0, 0, T.nul⟩) (al.getD i Sl.nil) (z i) (h i) := by
  simp [icl, List.getD_eq_getElem?_getD, hi]

theorem Row.keep {A F : List Nat} {w w' : World} {s : Sl} {size : Nat} {vs : List (List Value)} (h : Row A w s size vs) (c : Chg F w w') (hF : ∀ b ∈ s.blk, b ∉ F) : Row A w' s size vs :=
  ⟨h.len, h.cap, h.most, fun i hi => by
    obtain ⟨p, h1, h2, h3, h4⟩ := h.at_ i hi
    exact ⟨p, h1, h2, h3.chg c (by rw [Addr.add_block]; exact hF _ (by simp [Sl.blk, h1])), h4⟩⟩
theorem Row.avoid {A A' : List Nat} {w : World} {s : Sl} {size : Nat} {vs : List (List Value)} (h : Row A w s size vs) (hA : ∀ b ∈ s.blk, b ∉ A') : Row A' w s size vs :=
  ⟨h.len, h.cap, h.most, fun i hi => by
    obtain ⟨p, h1, _, h3⟩ := h.at_ i hi
    exact ⟨p, h1, hA _ (by simp [Sl.blk, h1]), h3⟩⟩

/-- What Flat's function keeps: the items of before, with 1 for size and height. -/
def FlatK (B : Nat) (lo : Nat) (es : List En) (H : List Nat) (w : World) : Prop := ∃ (s : Sl) (al : List Sl), H = B :: (s.blk ++ al.flatMap Sl.blk) ∧ Box w B 79 [s.v] ∧ al.length = es.length ∧ Own (B :: List.range lo) w s 10 86 (icl es al (fun _ => 1) (fun _ => 1)) ∧
  (∀ (i : Nat) (e : En) (a : Sl), es[i]? = some e → al[i]? = some a → ∃ lo', Own (List.range lo') w a 2 47 (e.t.attrs.map ac) ∧ lo ≤ lo' ∧ B < lo' ∧ ∀ b ∈ s.blk, b ∉ a.blk) ∧ lo ≤ w.heap.size
theorem FlatK.lt {B lo : Nat} {es : List En} {H : List Nat} {w : World} (h : FlatK B lo es H w) : ∀ b ∈ H, b < w.heap.size := by
  obtain ⟨s, al, rfl, hB, hl, ho, hr, hlo⟩ := h
  intro b hb
  rcases List.mem_cons.1 hb with rfl | hb
  · exact hB.lt
  · rcases List.mem_append.1 hb with hb | hb
    · exact (ho.blk b hb).2
    · obtain ⟨a, ha, hb⟩ := List.mem_flatMap.1 hb
      obtain ⟨i, hi, e⟩ := List.getElem_of_mem ha
      obtain ⟨lo', h1, _⟩ := hr i _ a (List.getElem?_eq_getElem (by omega)) (by rw [List.getElem?_eq_getElem hi, e])
      exact (h1.blk b hb).2
theorem FlatK.chg {B lo : Nat} {es : List En} {H : List Nat} {w w' : World} {F : List Nat} (h : FlatK B lo es H w) (c : Chg F w w') (hF : ∀ b ∈ F, b ∉ H) : FlatK B lo es H w' := by
  obtain ⟨s, al, rfl, hB, hl, ho, hr, hlo⟩ := h
  refine ⟨s, al, rfl, hB.keep c (fun hm => hF _ hm (by simp)), hl, ho.keep c (fun b hb hm => hF b hm (by simp [hb])), fun i e a he ha => ?_, Nat.le_trans hlo c.size⟩
  obtain ⟨lo', h1, h2, h3, h4⟩ := hr i e a he ha
  exact ⟨lo', h1.keep c (fun b hb hm => hF b hm (List.mem_cons_of_mem _ (List.mem_append_right _ (List.mem_flatMap.2 ⟨a, List.mem_of_getElem? ha, hb⟩)))), h2, h3, h4⟩

theorem flatStep {B lo : Nat} {es : List En} {e : En} {H : List Nat} {w : World} {q : Addr} (h : FlatK B lo es H w) (hat : AtT H w q e.t) (hes : es.length ≤ 1000000000) (heb : e.t.bulk ≤ 1099511627776) (id : Int) :
    Calls Try.prog 63 (#[] ++ #[.int .i64 id, .agg #[.pointer (some q), .int .i64 e.par, .int .i64 (e.dep : Int), .int .i64 (e.pl : Int)]] ++ #[.pointer (some ⟨B, 0, none⟩)]) w
      (Ret fun v w2 => v = .bool true ∧ ∃ H', FlatK B lo (es ++ [e]) H' w2 ∧ Chg H w w2 ∧ ∀ b ∈ H', b ∈ H ∨ w.heap.size ≤ b) := by
  have hHlt := h.lt
  obtain ⟨s, al, rfl, hB, hl, ho, hr, hlo⟩ := h
  obtain ⟨hqb, sa, sk, hqc, hqr⟩ := hat
  refine walk_Flat_1.ok id (some q) e.par (e.dep : Int) (e.pl : Int) ⟨B, 0, none⟩ ?_
  unfold walk_Flat_1.vc
  have hla : e.t.attrs.length ≤ 1099511627776 := by have := T.slots_bulk e.t; have := T.slots_eq e.t; omega
  refine ⟨q, rfl, fun w1 B1 hN1 hE1 => ⟨e.t.kind, e.t.name, e.t.text, sa, sk, hqc.ext hE1, fun w2 B2 hN2 hE2 => ?_⟩⟩
  refine CallK.ext (cloneAttrs ((hqr.ext (hE1.trans hE2)).attrs) hla) ?_
  rintro v w3 hE3 ⟨sc, rfl, hsc⟩
  refine ⟨sc, rfl, fun w4 hC4 => ?_⟩
  have hE02 : Ext w w2 := hE1.trans hE2
  have hB2 : w.heap.size ≤ B2 := Nat.le_trans hE1.size hN2.ge
  have hE04 : Ext w w4 := Chg.fresh (hE02.trans hE3) hC4 (by simpa using hB2)
  have hsc4 : Own (List.range w2.heap.size) w4 sc 2 47 (e.t.attrs.map ac) := hsc.chg hC4 (by intro b hb; simp at hb; subst hb; exact List.mem_range.2 hN2.lt)
  refine ⟨s, (hB.ext hE04).cell 0 _ rfl, fun w5 B5 hN5 hE5 hbox => ?_⟩
  have hE05 := hE04.trans hE5
  have hn := ho.len
  rw [icl_len] at hn
  have hbox' : Box w5 B5 86 (itc e sc 1 1) := hbox
  have ho5 : Own (B1 :: B2 :: (B :: List.range lo)) w5 s 10 86 (icl es al (fun _ => 1) (fun _ => 1)) :=
    ((ho.ext hE05).cons (fun hm => by have := (ho.blk _ hm).2; omega)).cons (fun hm => by have := (ho.blk _ hm).2; have := hN1.ge; omega)
  have hB5lt : B < w.heap.size := hB.lt
  refine App.runK Try.underlying79 ti_86 rfl (by decide) (.inl ho5) (fun b hb => ?_) (Own.one (A := []) hbox' (by simp)).row (ones_ic _ _ _ _) (by simp) (by simp only [maxLen, List.length_singleton]; omega) (by simp only [List.length_singleton]; omega) (by intro b hb; simp at hb; rcases hb with rfl | rfl <;> simp) fun s' w6 ho6 hC6 hb6 => ?_
  · have h1 := hN1.lt; have h2 := hN2.lt; have h3 := hE2.size; have h4 := hE3.size; have h5 := hC4.size; have h6 := hE5.size
    simp only [List.mem_cons, List.mem_range] at hb
    rcases hb with rfl | rfl | rfl | hb <;> omega
  have hsz5 := hE05.size
  have hBs : B ∉ s.own := fun hm => (ho.blk B (Sl.own_blk hm)).1 (by simp)
  have hB6 : Box w6 B 79 [s.v] := (hB.ext hE05).keep hC6 hBs
  refine ⟨s', rfl, B, 0, 79, [s.v], rfl, hB6, by simp, fun b hb => ?_, fun w7 hC7 hB7 => ⟨rfl, B :: (s'.blk ++ (al ++ [sc]).flatMap Sl.blk), ?_, ?_, ?_⟩⟩
  · simp at hb; have := hN1.ge; rcases hb with rfl | rfl <;> omega
  · have hBs' : B ∉ s'.blk := fun hm => (ho6.blk B hm).1 (by simp)
    refine ⟨s', al ++ [sc], rfl, hB7, by simp [hl], ?_, fun i f a hf ha => ?_, ?_⟩
    · rw [icl_snoc _ _ _ _ _ _ hl]
      exact (ho6.less (A' := B :: List.range lo) (fun b hb => List.mem_cons_of_mem _ (List.mem_cons_of_mem _ hb))).keep hC7 (fun b hb hm => hBs' (by simp at hm; rwa [← hm]))
    · by_cases hi : i < es.length
      · rw [List.getElem?_append_left hi] at hf
        rw [List.getElem?_append_left (by omega)] at ha
        obtain ⟨lo', h1, h2, h3, h4⟩ := hr i f a hf ha
        have h1' := h1.ext hE05
        have hBa : B ∉ a.blk := fun hm => (h1.blk B hm).1 (List.mem_range.2 h3)
        refine ⟨lo', ((h1'.keep hC6 (fun b hb hm => h4 b (Sl.own_blk hm) hb)).keep hC7 (fun b hb hm => hBa (by simp at hm; rwa [← hm]))), h2, h3, fun b hb hm => ?_⟩
        rcases hb6 b hb with h | h
        · exact h4 b (Sl.own_blk h) hm
        · have := (h1.blk b hm).2; omega
      · rw [List.getElem?_append_right (by omega)] at hf ha
        have hi0 : i - es.length = 0 := by
          have := (List.getElem?_eq_some_iff.1 hf).1
          simpa using this
        rw [hi0] at hf
        rw [hl, hi0] at ha
        simp at hf ha; subst hf; subst ha
        have h5 := hsc4.ext hE5
        have hsb : ∀ b ∈ s.own, b ∉ sc.blk := fun b hb hm => (hsc4.blk b hm).1 (List.mem_range.2 (by have := (ho.blk b (Sl.own_blk hb)).2; have := hE02.size; omega))
        refine ⟨w2.heap.size, (h5.keep hC6 (fun b hb hm => hsb b hm hb)).keep hC7 (fun b hb hm => ?_), Nat.le_trans hlo hE02.size, by have := hE02.size; omega, fun b hb hm => ?_⟩
        · simp at hm; subst hm; exact (hsc4.blk _ hb).1 (List.mem_range.2 (by have := hE02.size; omega))
        · rcases hb6 b hb with h | h
          · exact hsb b h hm
          · have := (h5.blk b hm).2; omega
    · have := hC6.size; have := hC7.size; omega
  · refine ((hE05.mono (by simp)).more' hC6 (fun b hb => .inl ?_)).more' hC7 (fun b hb => .inl (by simp at hb; simp [hb]))
    simp [Sl.own_blk hb]
  · intro b hb
    rcases List.mem_cons.1 hb with rfl | hb
    · exact .inl (by simp)
    · rcases List.mem_append.1 hb with hb | hb
      · rcases hb6 b hb with h | h
        · exact .inl (by simp [Sl.own_blk h])
        · exact .inr (by omega)
      · rw [List.flatMap_append] at hb
        rcases List.mem_append.1 hb with hb | hb
        · exact .inl (List.mem_cons_of_mem _ (List.mem_append_right _ hb))
        · simp at hb
          have := (hsc4.blk b hb).1
          have h2 := hE02.size
          simp at this; exact .inr (by omega)

/-! ### The sizes and heights, from behind -/

def upd (f : Nat → Nat) (j v : Nat) : Nat → Nat := fun i => if i = j then v else f i
theorem icl_set (es : List En) (al : List Sl) (z h : Nat → Nat) (j v u : Nat) (hj : j < es.length) : (icl es al z h).set j (itc (es.getD j ⟨0, 0, 0, T.nul⟩) (al.getD j Sl.nil) v u) = icl es al (upd z j v) (upd h j u) := by
  refine List.ext_getElem (by simp [icl]) fun i h1 h2 => ?_
  rw [List.getElem_set]
  simp only [icl, List.getElem_map, List.getElem_range, upd]
  by_cases e : j = i
  · subst e; simp
  · simp [e, show ¬ i = j from fun h => e h.symm]
theorem icl_congr (es : List En) (al : List Sl) {z h z' h' : Nat → Nat} (hz : ∀ i, i < es.length → z i = z' i ∧ h i = h' i) : icl es al z h = icl es al z' h' := by
  unfold icl
  refine List.map_congr_left fun i hi => ?_
  have := hz i (List.mem_range.1 hi)
  rw [this.1, this.2]
def sumS (l : List T) : Nat := 1 + (l.map T.size).sum
def maxD (l : List T) : Nat := 1 + (l.map T.depth).foldr max 0
/-- How great, how high the node of a number is. -/
def T.zAt (t : T) (i : Nat) : Nat := (t.flat.getD i ⟨0, 0, 0, T.nul⟩).t.size
def T.hAt (t : T) (i : Nat) : Nat := (t.flat.getD i ⟨0, 0, 0, T.nul⟩).t.depth
theorem T.flat_final (t : T) {i : Nat} (hi : i < t.size) : sumS (selT i (t.flat.drop 1)) = t.zAt i ∧ maxD (selT i (t.flat.drop 1)) = t.hAt i := by
  have hl : i < t.flat.length := by rw [T.flat_len]; exact hi
  have hg := List.getElem?_eq_getElem hl
  have h1 := t.flat_sel hg
  have h0 : t.flat = ⟨-1, 0, 0, t⟩ :: t.flat.drop 1 := by
    conv => lhs; unfold T.flat
    rw [T.ents_eq]
    simp [T.flat, T.ents_eq]
  have h2 := congrArg (selT (i : Int)) h0
  rw [selT_cons, if_neg (show ¬ (-1 : Int) = (i : Int) by omega), List.nil_append, h1] at h2
  rw [← h2]
  unfold T.zAt T.hAt
  rw [List.getD_eq_getElem?_getD, hg, Option.getD_some, T.size_eq, T.depth_eq]
  exact ⟨rfl, rfl⟩

/-- Items of a tree, in an own row; their attributes elsewhere, in rows of the call's own, too. -/
def Items (A : List Nat) (w : World) (s : Sl) (t : T) : Prop := ∃ al : List Sl, al.length = t.flat.length ∧ Own A w s 10 86 (icl t.flat al t.zAt t.hAt) ∧
  ∀ (i : Nat) (e : En) (a : Sl), t.flat[i]? = some e → al[i]? = some a → Row A w a 2 (e.t.attrs.map ac)

theorem walkFlat {A : List Nat} {t : T} (hb : t.bulk ≤ 1000000000) {w : World} {sa sk : Sl} (h : RdT A w t sa sk) :
    Calls Try.prog 37 #[tv t sa sk] w (Ret fun v w' => Ext w w' ∧ ∃ s : Sl, v = s.v ∧ Items (List.range w.heap.size) w' s t) := by
  refine walk_Flat.ok _ _ _ _ _ ?_
  unfold walk_Flat.vc
  have hsz := T.size_bulk t
  have hpos := T.size_pos t
  intro w1 B1 B2 hN1 hN2 hne hE1 hB1 hB2
  have hat : AtT [B2] w1 ⟨B1, 0, none⟩ t := ⟨by simpa using hne, sa, sk, hB1.cells, ((h.less (A' := []) (by simp)).fresh hN2.ge).ext hE1⟩
  have hn2 := hN2.ge
  have h0 : FlatK B2 w.heap.size [] [B2] w1 := ⟨Sl.nil, [], by simp [Sl.blk, Sl.nil], hB2, rfl, Own.nil _ _ _ _, by simp, hE1.size⟩
  have hcall := walkEach (f := 63) (fst := #[]) (cap := #[.pointer (some ⟨B2, 0, none⟩)]) ⟨_, Try.func63, by decide, rfl⟩ (by omega) hat (FlatK B2 w.heap.size) (fun es H w w' F h c hF => h.chg c hF) (fun es H w h => h.lt)
    (fun es e rest q H w1 hfl hΦ hat => by
      have hl : es.length ≤ t.size := by
        have := congrArg List.length hfl
        rw [T.flat_len, List.length_append] at this; omega
      have he : e.t.bulk ≤ t.bulk := T.flat_bulk t e (by rw [hfl]; simp)
      exact flatStep hΦ hat (by omega) (by omega) _) h0
  refine CallK.chg (F := [B2]) (R := fun v w' => v = .tuple #[] ∧ ∃ H', FlatK B2 w.heap.size t.flat H' w') (Ret.mono hcall fun v w' ⟨h1, H', h2, h3, _⟩ => ⟨h3, h1, H', h2⟩) (by simp) ?_
  rintro v w2 hC2 ⟨rfl, H', s, al, rfl, hbox, hal, hown, hrows, _⟩
  have hE2 : Ext w w2 := Chg.fresh hE1 hC2 (by simpa using hn2)
  have hfl := t.flat_len
  have hn := hown.len
  rw [icl_len, hfl] at hn
  have hcap := hown.cap
  have hmost := hown.most
  simp only [maxLen] at hmost
  have hB2s : B2 ∉ s.blk := fun hm => (hown.blk B2 hm).1 (by simp)
  refine ⟨rfl, s, hbox.cell 0 _ rfl, ⟨by omega, by omega⟩, fun i w' => ∃ (k : Nat) (z h : Nat → Nat), i = (k : Int) ∧ k < t.size ∧ Box w' B2 79 [s.v] ∧ Own (B2 :: List.range w.heap.size) w' s 10 86 (icl t.flat al z h) ∧ Chg s.blk w2 w' ∧
    (∀ j, j < t.size → z j = sumS (selT j (t.flat.drop (k + 1))) ∧ h j = maxD (selT j (t.flat.drop (k + 1)))), fun i _ => i.toNat,
    ⟨t.size - 1, fun _ => 1, fun _ => 1, by omega, by omega, hbox, hown, Chg.refl _ _, fun j _ => ?_⟩, ?_⟩
  · rw [List.drop_of_length_le (by omega)]; exact ⟨rfl, rfl⟩
  rintro i w3 ⟨k, z, h, rfl, hk, hb3, ho3, hC3, hzh⟩
  refine ⟨fun hi w4 hE4 => ?_, fun hi => ?_⟩
  · obtain ⟨e, he⟩ : ∃ e, t.flat[k]? = some e := ⟨_, List.getElem?_eq_getElem (by omega)⟩
    obtain ⟨k', rfl⟩ : ∃ k', k = k' + 1 := ⟨k - 1, by omega⟩
    have hpar := t.flat_par he
    have hlt := t.flat_lt he
    obtain ⟨p, hp⟩ : ∃ p : Nat, e.par = (p : Int) := ⟨e.par.toNat, by omega⟩
    have hps : p < t.size := by omega
    have hpk : p < k' + 1 := by omega
    have hek : t.flat.getD (k' + 1) ⟨0, 0, 0, T.nul⟩ = e := by rw [List.getD_eq_getElem?_getD, he]; rfl
    have ho4 := ho3.ext hE4
    have hzk : z (k' + 1) = e.t.size ∧ h (k' + 1) = e.t.depth := by
      have := hzh (k' + 1) hk
      rw [t.flat_drop he] at this
      rw [T.size_eq, T.depth_eq]; exact this
    have hzb : ∀ j, j < t.size → z j ≤ t.bulk ∧ h j ≤ t.bulk := fun j hj => by
      obtain ⟨f, hf⟩ : ∃ f, t.flat[j]? = some f := ⟨_, List.getElem?_eq_getElem (by omega)⟩
      have h1 := t.flat_sel hf
      rw [← List.take_append_drop (k' + 1 + 1) t.flat, selT_app] at h1
      have h2 := T.flat_bulk t f (List.mem_of_getElem? hf)
      have h3 := T.size_bulk f.t
      have h4 := T.size_eq f.t
      have h5 := T.depth_size f.t
      have h6 := T.depth_eq f.t
      have h7 := hzh j hj
      rw [← h1, List.map_append, List.sum_append] at h4
      have h8 : ∀ x ∈ (selT (j : Int) (t.flat.drop (k' + 1 + 1))).map T.depth, x ≤ (f.t.kids.map T.depth).foldr max 0 := fun x hx => by
        have hm : x ∈ f.t.kids.map T.depth := by rw [← h1, List.map_append]; exact List.mem_append_right _ hx
        have go : ∀ l : List Nat, x ∈ l → x ≤ l.foldr max 0 := fun l => by
          induction l with
          | nil => intro h; cases h
          | cons a r ih =>
            intro h
            simp only [List.foldr_cons]
            rcases List.mem_cons.1 h with rfl | h
            · omega
            · have := ih h; omega
        exact go _ hm
      have h9 := T.foldr_max_le h8
      rw [h7.1, h7.2]
      unfold sumS maxD
      omega
    obtain ⟨g, cur, ha, hgA, hg4, hcl, hct⟩ : ∃ g cur, s.a = some ⟨g, 0, none⟩ ∧ g ∉ B2 :: List.range w.heap.size ∧ Box w4 g 86 cur ∧ cur.length = s.c * 10 ∧ cur.take (s.n * 10) = (icl t.flat al z h).flatten := by
      rcases ho4.at_ with h1 | h1
      · rw [h1] at hn; simp [Sl.nil] at hn; omega
      · exact h1
    have cell : ∀ {w' : World} {z h : Nat → Nat}, Own (B2 :: List.range w.heap.size) w' s 10 86 (icl t.flat al z h) → ∀ j, j < t.size → Cells w' ((⟨g, 0, none⟩ : Addr).add (j * 10)) (itc (t.flat.getD j ⟨0, 0, 0, T.nul⟩) (al.getD j Sl.nil) (z j) (h j)) := fun ho j hj => by
      have := ho.row.cells1 (i := j) (by rw [icl_len]; omega) ha
      rwa [icl_get _ _ _ _ (by omega)] at this
    have ck := cell ho4 (k' + 1) hk
    rw [hek] at ck
    have b4 := hb3.ext hE4
    have hgB : g ≠ B2 := fun hh => hgA (by simp [hh])
    refine ⟨s, b4.cell 0 _ rfl, s, b4.cell 0 _ rfl, ⟨g, 0, none⟩, ⟨⟨by omega, by omega⟩, ha⟩, (p : Int), by rw [← hp]; exact ck 0 _ rfl, ⟨g, 0, none⟩, ⟨⟨by omega, by omega⟩, ha⟩, fun w5 hE5 => ?_⟩
    have b5 := b4.ext hE5
    have ho5 := ho4.ext hE5
    have zp := hzb p hps
    have zk := hzb (k' + 1) hk
    refine ⟨(z p : Int), cell ho5 p hps 1 _ rfl, s, b5.cell 0 _ rfl, ⟨g, 0, none⟩, ⟨⟨by omega, by omega⟩, ha⟩, (z (k' + 1) : Int), cell ho5 (k' + 1) hk 1 _ rfl, ⟨by omega, by omega⟩, fun w6 hE6 => ?_⟩
    have b6 := b5.ext hE6
    have ho6 := ho5.ext hE6
    have hg6 := (hg4.ext hE5).ext hE6
    refine ⟨g, p * 10 + 1, 86, cur, by simp [Addr.add_lit], hg6, by omega, by simp, fun w7 hC7 hB7 w8 hE8 => ?_⟩
    have ho7 := ho6.put (o := 1) (us := [.int .i64 ((z p : Int) + (z (k' + 1) : Int))]) ha hg6 (j := p) (by rw [icl_len]; omega) (by simp) hB7
    rw [icl_get _ _ _ _ (by omega)] at ho7
    have ho7' : Own (B2 :: List.range w.heap.size) w7 s 10 86 (icl t.flat al (upd z p (z p + z (k' + 1))) h) := by
      have e1 := icl_set t.flat al z h p (z p + z (k' + 1)) (h p) (by omega)
      rw [icl_congr t.flat al (z' := upd z p (z p + z (k' + 1))) (h' := h) (fun i _ => ⟨rfl, by unfold upd; split <;> simp_all⟩)] at e1
      rw [← e1]; exact ho7
    have b8 := (b6.keep hC7 (by simpa using fun hh : B2 = g => hgB hh.symm)).ext hE8
    have ho8 := ho7'.ext hE8
    refine ⟨(h p : Int), cell ho8 p hps 3 _ rfl, s, b8.cell 0 _ rfl, ⟨g, 0, none⟩, ⟨⟨by omega, by omega⟩, ha⟩, (h (k' + 1) : Int), cell ho8 (k' + 1) hk 3 _ rfl, ⟨by omega, by omega⟩, fun w9 hE9 => ?_⟩
    have ho9 := ho8.ext hE9
    have hg9 := (hB7.ext hE8).ext hE9
    refine ⟨g, p * 10 + 3, 86, _, by simp [Addr.add_lit], hg9, by rw [putAt_len]; omega, by simp, fun w10 hC10 hB10 => ?_⟩
    have ho10 := ho9.put (o := 3) (us := [.int .i64 (max (h p : Int) ((h (k' + 1) : Int) + 1))]) ha hg9 (j := p) (by rw [icl_len]; omega) (by simp) hB10
    rw [icl_get _ _ _ _ (by omega)] at ho10
    have em : max (h p : Int) ((h (k' + 1) : Int) + 1) = ((max (h p) (h (k' + 1) + 1) : Nat) : Int) := by omega
    rw [em] at ho10
    have ho10' : Own (B2 :: List.range w.heap.size) w10 s 10 86 (icl t.flat al (upd z p (z p + z (k' + 1))) (upd h p (max (h p) (h (k' + 1) + 1)))) := by
      have e1 := icl_set t.flat al (upd z p (z p + z (k' + 1))) h p (upd z p (z p + z (k' + 1)) p) (max (h p) (h (k' + 1) + 1)) (by omega)
      rw [icl_congr t.flat al (z' := upd z p (z p + z (k' + 1))) (h' := upd h p (max (h p) (h (k' + 1) + 1))) (fun i _ => ⟨by unfold upd; split <;> simp_all, rfl⟩)] at e1
      rw [← e1]; exact ho10
    have hgs : ∀ b ∈ [g], b ∈ s.blk := by simp [Sl.blk, ha]
    refine ⟨⟨by omega, by omega⟩, ⟨k', upd z p (z p + z (k' + 1)), upd h p (max (h p) (h (k' + 1) + 1)), by omega, by omega, (b8.ext hE9).keep hC10 (by simpa using fun hh : B2 = g => hgB hh.symm), ho10', ?_, fun j hj => ?_⟩, by dsimp only; omega⟩
    · exact (((((((hC3.more hE4).more hE5).more hE6).trans (hC7.mono hgs)).more hE8).more hE9).trans (hC10.mono hgs))
    · have hd : t.flat.drop (k' + 1) = e :: t.flat.drop (k' + 1 + 1) := by
        rw [List.drop_eq_getElem_cons (by omega)]
        congr 1
        rw [List.getElem?_eq_getElem (by omega)] at he
        exact Option.some.inj he
      have hj' := hzh j hj
      rw [hd, selT_cons, hp]
      unfold upd
      by_cases hjp : j = p
      · subst hjp
        rw [if_pos rfl, if_pos rfl, if_pos rfl, hj'.1, hj'.2, hzk.1, hzk.2]
        simp only [sumS, maxD, List.cons_append, List.nil_append, List.map_cons, List.sum_cons, List.foldr_cons]
        omega
      · rw [if_neg hjp, if_neg hjp, if_neg (by omega)]
        exact hj'
  · have hk0 : k = 0 := by omega
    subst hk0
    have e1 : icl t.flat al z h = icl t.flat al t.zAt t.hAt := icl_congr _ _ fun i hi => by
      have h1 := hzh i (by omega)
      have h2 := t.flat_final (i := i) (by omega)
      exact ⟨h1.1.trans h2.1, h1.2.trans h2.2⟩
    rw [e1] at ho3
    refine ⟨s, hb3.cell 0 _ rfl, Chg.fresh hE2 hC3 (fun b hb => ?_), s, rfl, al, hal, ho3.less (fun b hb => List.mem_cons_of_mem _ hb), fun i e a he ha => ?_⟩
    · have := (hown.blk b hb).1
      simp at this; omega
    · obtain ⟨lo', h1, h2, h3, h4⟩ := hrows i e a he ha
      exact ((h1.keep hC3 (fun b hb hm => h4 b hm hb)).less (fun b hb => List.mem_range.2 (by have := List.mem_range.1 hb; omega))).row

end Go.Proofs.Yteohbfaechfliaa
