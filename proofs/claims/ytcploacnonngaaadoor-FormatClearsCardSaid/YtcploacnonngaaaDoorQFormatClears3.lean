/-
  The laws of chapter 13: FormatClears, FormatPuts.
-/
import Derived.Test.YtcploacnonngaaaDoorQFormatClears2
import Derived.Test.YtcploacnonngaaaDoorQFormatClearsGlaw13within
import Derived.Test.YtcploacnonngaaaDoorQFormatClearsGlaw13FormatClears
namespace Go.Proofs.YtcploacnonngaaaDoor
open Go.RowKit

/-- A letter. -/
def ltr (j : Nat) : Str := [UInt8.ofNat (97 + j)]

theorem ltr_inj {i j : Nat} (hi : i < 100) (hj : j < 100) (h : ltr i = ltr j) : i = j := by
  unfold ltr at h
  have h1 : UInt8.ofNat (97 + i) = UInt8.ofNat (97 + j) := by simpa using h
  have h2 := congrArg UInt8.toNat h1
  simp at h2; omega

/-- Entries with the letters' names, numbered from 1 on. -/
def Sq (X : List Sd) (k : Nat) : Prop := X.length = k ∧ ∀ (j : Nat) x, X[j]? = some x → x.id = (j : Int) + 1 ∧ x.nm = ltr j ∧ x.ats = [] ∧ x.mar = false

variable {X : List Sd} {k : Nat}

theorem Sq.mem (h : Sq X k) {x : Sd} (hx : x ∈ X) : ∃ j, j < k ∧ X[j]? = some x ∧ x.id = (j : Int) + 1 ∧ x.nm = ltr j ∧ x.ats = [] ∧ x.mar = false := by
  obtain ⟨j, hj, e⟩ := List.getElem_of_mem hx
  have e' : X[j]? = some x := by rw [← e, List.getElem?_eq_getElem hj]
  exact ⟨j, by rw [← h.1]; exact hj, e', h.2 j x e'⟩

theorem Sq.push (h : Sq X k) (hk : k < 50) (sa : Sl) : pushX X (ltr k, keyA []) = X ∧ Sq (X ++ [⟨(k : Int) + 1, ltr k, [], false, sa⟩]) (k + 1) := by
  constructor
  · have hc : cntK X (ltr k, keyA []) = 0 := by
      unfold cntK
      rw [List.filter_eq_nil_iff.2]; · rfl
      intro x hx
      obtain ⟨j, hj, _, _, hn, _⟩ := h.mem hx
      intro e
      have := congrArg Prod.fst (of_decide_eq_true e)
      rw [show (keyOf x).1 = x.nm from rfl, hn] at this
      have := ltr_inj (by omega) (by omega) this
      omega
    have := pushX_few (P := []) (R := X) (k := (ltr k, keyA [])) (.inl rfl) (fun x hx => by obtain ⟨_, _, _, _, _, _, hm⟩ := h.mem hx; exact hm) (by omega)
    simpa using this
  · refine ⟨by simp [h.1], fun j x hx => ?_⟩
    by_cases hj : j < X.length
    · rw [List.getElem?_append_left hj] at hx; exact h.2 j x hx
    · rw [List.getElem?_append_right (by omega)] at hx
      have hj' : j - X.length = 0 := by
        have := (List.getElem?_eq_some_iff.1 hx).1
        simp at this; omega
      rw [hj'] at hx
      simp at hx
      have := h.1
      have hjk : j = k := by omega
      subst hx; subst hjk
      exact ⟨rfl, rfl, rfl, rfl⟩

theorem Sq.place (h : Sq X k) {j : Nat} (hj : j < k) : placeAt X ((j : Int) + 1) 0 = (j : Int) := by
  have hl := h.1
  have e := List.getElem?_eq_getElem (l := X) (i := j) (by omega)
  obtain ⟨h1, _, _, h4⟩ := h.2 j _ e
  refine placeAt_eq e h4 h1 fun i y hi hy ⟨_, hid⟩ => ?_
  have := (h.2 i y hy).1
  omega

theorem Sq.no (h : Sq X k) {z : Int} (hz : z < 1 ∨ (k : Int) < z) : placeAt X z 0 = -1 :=
  placeAt_none fun x hx ⟨_, hid⟩ => by obtain ⟨j, hj, _, h1, _⟩ := h.mem hx; omega

/-- What is behind the marker. -/
def Clr (X0 X : List Sd) (c : List Str) : Prop := ∃ R, X = (X0 ++ [mark]) ++ R ∧ (∀ x ∈ R, x.mar = false ∧ x.ats = []) ∧ ∀ s, (∃ x ∈ R, x.nm = s) ↔ s ∈ c

theorem ends_mark (X0 : List Sd) : Ends (X0 ++ [mark]) := .inr ⟨X0, mark, rfl, rfl⟩

variable {X0 : List Sd} {c : List Str}

theorem Clr.mark (X0 : List Sd) : Clr X0 (X0 ++ [Proofs.YtcploacnonngaaaDoor.mark]) [] := ⟨[], by simp, by simp, by simp⟩

theorem split_first {R : List Sd} {k : Str × Str} : (∃ x ∈ R, keyOf x = k) → ∃ R1 x R2, R = R1 ++ x :: R2 ∧ keyOf x = k ∧ ∀ y ∈ R1, keyOf y ≠ k := by
  induction R with
  | nil => rintro ⟨x, hx, _⟩; cases hx
  | cons y R ih =>
    rintro ⟨x, hx, hk⟩
    by_cases hy : keyOf y = k
    · exact ⟨[], y, R, rfl, hy, by simp⟩
    · rcases List.mem_cons.1 hx with e | hx
      · subst e; exact absurd hk hy
      · obtain ⟨R1, z, R2, e, hz, h1⟩ := ih ⟨x, hx, hk⟩
        exact ⟨y :: R1, z, R2, by rw [e]; rfl, hz, fun u hu => by rcases List.mem_cons.1 hu with e | hu; · rw [e]; exact hy
                                                                  · exact h1 u hu⟩

theorem Clr.push (h : Clr X0 X c) (id : Int) (nm : Str) (sa : Sl) : Clr X0 (pushX X (nm, keyA []) ++ [⟨id, nm, [], false, sa⟩]) (c ++ [nm]) := by
  obtain ⟨R, rfl, hR, hc⟩ := h
  by_cases h3 : cntK R (nm, keyA []) < 3
  · rw [pushX_few (ends_mark X0) (fun x hx => (hR x hx).1) h3]
    refine ⟨R ++ [⟨id, nm, [], false, sa⟩], by simp, fun x hx => ?_, fun s => ?_⟩
    · rcases List.mem_append.1 hx with hx | hx
      · exact hR x hx
      · simp at hx; rw [hx]; exact ⟨rfl, rfl⟩
    · rw [List.mem_append, ← hc s]
      constructor
      · rintro ⟨x, hx, e⟩
        rcases List.mem_append.1 hx with hx | hx
        · exact .inl ⟨x, hx, e⟩
        · simp at hx; rw [hx] at e; right; simp [← e]
      · rintro (⟨x, hx, e⟩ | e)
        · exact ⟨x, List.mem_append_left _ hx, e⟩
        · simp at e; exact ⟨_, List.mem_append_right _ (List.mem_singleton.2 rfl), e.symm⟩
  · have hex : ∃ x ∈ R, keyOf x = (nm, keyA []) := by
      have hne : R.filter (fun x => decide (keyOf x = (nm, keyA []))) ≠ [] := fun e => by unfold cntK at h3; rw [e] at h3; simp at h3
      obtain ⟨x, hx⟩ := List.exists_mem_of_ne_nil _ hne
      rw [List.mem_filter] at hx
      exact ⟨x, hx.1, of_decide_eq_true hx.2⟩
    obtain ⟨R1, x, R2, rfl, hx, h1⟩ := split_first hex
    rw [pushX_many (ends_mark X0) (fun y hy => (hR y hy).1) hx h1 (by omega)]
    have hxn : x.nm = nm := congrArg Prod.fst hx
    refine ⟨(R1 ++ R2) ++ [⟨id, nm, [], false, sa⟩], by simp, fun y hy => ?_, fun s => ?_⟩
    · rcases List.mem_append.1 hy with hy | hy
      · exact hR y (by rcases List.mem_append.1 hy with hy | hy
                       · exact List.mem_append_left _ hy
                       · exact List.mem_append_right _ (List.mem_cons_of_mem _ hy))
      · simp at hy; rw [hy]; exact ⟨rfl, rfl⟩
    · rw [List.mem_append, ← hc s]
      constructor
      · rintro ⟨y, hy, e⟩
        rcases List.mem_append.1 hy with hy | hy
        · exact .inl ⟨y, by rcases List.mem_append.1 hy with hy | hy
                            · exact List.mem_append_left _ hy
                            · exact List.mem_append_right _ (List.mem_cons_of_mem _ hy), e⟩
        · simp at hy; rw [hy] at e; right; simp [← e]
      · rintro (⟨y, hy, e⟩ | e)
        · rcases List.mem_append.1 hy with hy | hy
          · exact ⟨y, by simp [hy], e⟩
          · rcases List.mem_cons.1 hy with e' | hy
            · subst e'; exact ⟨_, List.mem_append_right _ (List.mem_singleton.2 rfl), hxn.symm.trans e⟩
            · exact ⟨y, by simp [hy], e⟩
        · simp at e; exact ⟨_, List.mem_append_right _ (List.mem_singleton.2 rfl), e.symm⟩

theorem Clr.from (h : Clr X0 X c) : fromAt X X.length = X0.length + 1 := by
  obtain ⟨R, rfl, hR, _⟩ := h
  rw [List.length_append, fromAt_run (ends_mark X0) R.length (Nat.le_refl _) fun x hx => (hR x hx).1]; simp

theorem Clr.clear (h : Clr X0 X c) : X.take (fromAt X X.length - 1) = X0 := by
  rw [h.from]
  obtain ⟨R, rfl, _, _⟩ := h
  rw [Nat.add_sub_cancel, List.append_assoc, List.take_left]

theorem lastIn_run (P R : List Sd) (nm : Str) : ∀ n, n ≤ R.length → ((lastIn (P ++ R) nm P.length (P.length + n)).isSome = true ↔ ∃ x ∈ R.take n, x.nm = nm)
  | 0, _ => by
    have : lastIn (P ++ R) nm P.length (P.length + 0) = none := by
      cases hP : P.length with
      | zero => rfl
      | succ q => rw [Nat.add_zero, lastIn, if_neg (by omega)]
    rw [this]; simp
  | n + 1, hn => by
    rw [show P.length + (n + 1) = (P.length + n) + 1 from rfl, lastIn, if_pos (by omega), run_get P R (by omega), List.take_succ_eq_append_getElem (by omega)]
    by_cases h : R[n].nm = nm
    · rw [if_pos h]
      exact ⟨fun _ => ⟨R[n], List.mem_append_right _ (List.mem_singleton.2 rfl), h⟩, fun _ => rfl⟩
    · rw [if_neg h, lastIn_run P R nm n (by omega)]
      constructor
      · rintro ⟨x, hx, e⟩; exact ⟨x, List.mem_append_left _ hx, e⟩
      · rintro ⟨x, hx, e⟩
        rcases List.mem_append.1 hx with hx | hx
        · exact ⟨x, hx, e⟩
        · simp at hx; rw [hx] at e; exact absurd e h

theorem Clr.last (h : Clr X0 X c) (nm : Str) : (lastIn X nm (fromAt X X.length) X.length).isSome = decide (nm ∈ c) := by
  have hf := h.from
  obtain ⟨R, rfl, hR, hc⟩ := h
  rw [hf]
  have := lastIn_run (X0 ++ [Proofs.YtcploacnonngaaaDoor.mark]) R nm R.length (Nat.le_refl _)
  rw [List.take_length, hc nm, ← List.length_append] at this
  rw [show (X0 ++ [Proofs.YtcploacnonngaaaDoor.mark]).length = X0.length + 1 by simp] at this
  rw [Bool.eq_iff_iff, this]; simp

variable {w w0 : World} {A bx : List Nat} {B : Nat} {K : Value → World → Prop}

theorem FS.at_ (h : FS w0 A w B X) {k : Nat} (hk : k < X.length) : Calls Tryd.prog 18 #[.pointer (some ⟨B, 0, none⟩), .int .i64 (k : Int)] w
    (Ret fun v w' => Ext w w' ∧ ∃ sa' : Sl, v = .tuple #[.agg #[.int .i64 (X.getD k default).id, .string (Bs (X.getD k default).nm), Sl.v sa'], .bool true]) := by
  obtain ⟨s, hF⟩ := h.2.2
  exact fmtAt hF hk

theorem letters10 {c : Nat} (hc : c < 10) : (List.drop c ([97, 98, 99, 100, 101, 102, 103, 104, 105, 106] : Str)).take 1 = ltr c := by
  have : ∀ c : Fin 10, (List.drop c.val ([97, 98, 99, 100, 101, 102, 103, 104, 105, 106] : Str)).take 1 = ltr c.val := by decide +kernel
  exact this ⟨c, hc⟩

/-- A name by a number. -/
def nmz (v : Int) : Str := ltr (v.emod 10).toNat

theorem emod10 (v : Int) : ∃ c : Nat, v.emod 10 = (c : Int) ∧ c < 10 := by
  have h0 := Int.emod_nonneg v (show (10 : Int) ≠ 0 by omega)
  have h1 := Int.emod_lt_of_pos v (show (0 : Int) < 10 by omega)
  refine ⟨(v % 10).toNat, ?_, by omega⟩
  show v % 10 = _
  omega

theorem nmz_iff (a b : Int) : nmz a = nmz b ↔ a.emod 10 = b.emod 10 := by
  obtain ⟨x, hx, hx1⟩ := emod10 a
  obtain ⟨y, hy, hy1⟩ := emod10 b
  unfold nmz
  rw [hx, hy, Int.toNat_natCast, Int.toNat_natCast]
  exact ⟨fun h => by rw [ltr_inj (by omega) (by omega) h], fun h => by rw [show x = y by omega]⟩

theorem fmtName (v : Int) : Calls Tryd.prog 12 #[.int .i64 v] w (Ret fun u w' => Ext w w' ∧ u = .string (Bs (nmz v))) := by
  refine law13_FormatClears_1.ok _ ?_
  unfold law13_FormatClears_1.vc
  obtain ⟨c, hc, hc1⟩ := emod10 v
  refine CallK.exact (place v 10 (by omega) (by omega)) fun w4 c4 => ⟨_, rfl, CallK.exact (place v 10 (by omega) (by omega)) fun w6 c6 => ⟨_, rfl, ?_⟩⟩
  unfold nmz
  rw [hc, Int.toNat_natCast]
  refine ⟨⟨by omega, by omega⟩, ⟨by omega, by omega, by simp; omega⟩, c4.trans c6, ?_⟩
  rw [show ((c : Int) + 1).toNat - c = 1 by omega, letters10 hc1]

theorem fmtWithin {s : Sl} {l : List Int} (h : Row [] w s 1 (l.map ic)) (v : Int) : Calls Tryd.prog 15 #[s.v, .int .i64 v] w (Ret fun u w' => Ext w w' ∧ u = .bool (decide (nmz v ∈ l.map nmz))) := by
  refine law13_within.ok _ _ ?_
  unfold law13_within.vc
  have hl : s.n = l.length := by simpa using h.len
  have hcap := h.cap
  have hmost := h.most
  have hmo : maxLen = 9223372036854775807 := rfl
  refine ⟨fun i w' => ∃ k : Nat, i = (k : Int) ∧ k ≤ l.length ∧ (∀ z ∈ l.take k, nmz z ≠ nmz v) ∧ Ext w w', fun i _ => l.length - i.toNat, ⟨0, rfl, by omega, by simp, Chg.refl _ _⟩, ?_⟩
  rintro _ w6 ⟨k, rfl, hk, hz, c6⟩
  rw [Int.toNat_natCast]
  refine ⟨fun hi => ?_, fun hi => ⟨c6, ?_⟩⟩
  · have hkl : k < l.length := by omega
    obtain ⟨p, hp, hc⟩ := (h.ext c6).int hkl
    have hg : l.getD k 0 = l[k] := by rw [List.getD_eq_getElem?_getD, List.getElem?_eq_getElem hkl]; rfl
    refine ⟨⟨by omega, by omega⟩, p, hp, _, hc, CallK.exact (place _ 10 (by omega) (by omega)) fun w23 c23 => ⟨_, rfl, CallK.exact (place v 10 (by omega) (by omega)) fun w25 c25 => ⟨_, rfl, fun he => ⟨(c6.trans c23).trans c25, ?_⟩, fun he => ⟨⟨by omega, by omega⟩, ⟨k + 1, by omega, by omega, fun z hz' => ?_, (c6.trans c23).trans c25⟩, by dsimp only; omega⟩⟩⟩⟩
    · have : nmz v ∈ l.map nmz := List.mem_map.2 ⟨l[k], List.getElem_mem hkl, by rw [← hg]; exact (nmz_iff _ _).2 he⟩
      rw [decide_eq_true this]
    · rw [List.take_succ_eq_append_getElem hkl] at hz'
      rcases List.mem_append.1 hz' with hz' | hz'
      · exact hz z hz'
      · simp at hz'; rw [hz', ← hg]; exact fun e => he ((nmz_iff _ _).1 e)
  · have hkl : k = l.length := by omega
    rw [hkl, List.take_length] at hz
    have : ¬ nmz v ∈ l.map nmz := fun hm => by
      obtain ⟨z, hz1, hz2⟩ := List.mem_map.1 hm
      exact hz z hz1 hz2
    rw [decide_eq_false this]

theorem fmtClearsLaw {s t : Sl} {l m : List Int} (h : Row [] w s 1 (l.map ic)) (h2 : Row [] w t 1 (m.map ic)) :
    Calls Tryd.prog 4 #[s.v, t.v] w (Ret fun v w' => Ext w w' ∧ v = .bool true) := by
  refine law13_FormatClears.ok _ _ ?_
  unfold law13_FormatClears.vc
  have hsl : s.n = l.length := by simpa using h.len
  have htl : t.n = m.length := by simpa using h2.len
  have hcap := h2.cap
  have hmost := h2.most
  have hmo : maxLen = 9223372036854775807 := rfl
  refine FS.newK fun B w5 c5 h5 => ⟨some ⟨B, 0, none⟩, rfl, fun h => (by cases h), fun _ => ?_⟩
  let A := List.range w.heap.size
  refine ⟨fun i w' => ∃ k : Nat, i = (k : Int) ∧ k ≤ 10 ∧ ∃ X, FS w A w' B X ∧ Sq X k, fun i _ => 10 - i.toNat, ⟨0, rfl, by omega, [], h5, rfl, by simp⟩, ?_⟩
  rintro _ w12 ⟨k, rfl, hk, X, hF, hS⟩
  have hXl := hS.1
  refine ⟨fun hi => ⟨⟨by omega, by omega⟩, CallK.exact (fmtName _) fun w23 c23 => ⟨_, rfl, ?_⟩⟩, fun hi => ?_⟩
  · have hn : nmz (k : Int) = ltr k := by
      unfold nmz
      rw [show (k : Int).emod 10 = (k : Int) from Int.emod_eq_of_lt (by omega) (by omega), Int.toNat_natCast]
    rw [hn, show (1 : Int) + (k : Int) = (k : Int) + 1 by omega]
    have hp := hS.push (by omega)
    refine (hF.ext c23).pushK (by omega) (fun x hx => by obtain ⟨_, _, _, _, _, ha, _⟩ := hS.mem hx; rw [ha]; exact keyOk_nil) (ats := []) (Own.nil _ _ _ _) (by simp) keyOk_nil (by simp) fun w24 sa' h24 => ⟨rfl, ⟨by omega, by omega⟩, ⟨k + 1, by omega, by omega, _, ?_, (hp sa').2⟩, by dsimp only; omega⟩
    rw [(hp sa').1] at h24; exact h24
  refine CallK.exact hF.len fun w29 c29 => ⟨_, rfl, (hF.ext c29).markK (by omega) (by simp) fun w31 _ h31 => ⟨rfl, ?_⟩⟩
  refine ⟨fun i w' => ∃ q : Nat, i = (q : Int) ∧ q ≤ 10 ∧ q ≤ m.length ∧ ∃ X1, FS w A w' B X1 ∧ Clr X X1 ((m.take q).map nmz) ∧ X1.length ≤ 11 + q ∧ ∀ x ∈ X1, x.ats = [], fun i _ => 10 - i.toNat, ⟨0, rfl, by omega, by omega, _, h31, Clr.mark X, by simp; omega, fun x hx => ?_⟩, ?_⟩
  · rcases List.mem_append.1 hx with hx | hx
    · obtain ⟨_, _, _, _, _, ha, _⟩ := hS.mem hx; exact ha
    · simp at hx; rw [hx]; rfl
  rintro _ w35 ⟨q, rfl, hq, hqm, X1, hF1, hC, hl1, hX1⟩
  rw [Int.toNat_natCast]
  refine ⟨fun hi => ?_, fun hi => ?_⟩
  · have hql : q < m.length := by omega
    have hg : m.getD q 0 = m[q] := by rw [List.getD_eq_getElem?_getD, List.getElem?_eq_getElem hql]; rfl
    obtain ⟨p, hp, hc⟩ := (h2.ext hF1.2.1).int hql
    refine ⟨⟨by omega, by omega⟩, ⟨by omega, by omega⟩, p, hp, _, hc, CallK.exact (fmtName _) fun w73 c73 => ⟨_, rfl, ?_⟩⟩
    refine (hF1.ext c73).pushK (by omega) (fun x hx => by rw [hX1 x hx]; exact keyOk_nil) (ats := []) (Own.nil _ _ _ _) (by simp) keyOk_nil (by simp) fun w74 sa' h74 => ⟨rfl, ?_⟩
    have hC2 := hC.push (100 + (q : Int)) (nmz (m.getD q 0)) sa'
    have hcm : (m.take q).map nmz ++ [nmz (m.getD q 0)] = (m.take (q + 1)).map nmz := by
      rw [List.take_succ_eq_append_getElem hql, List.map_append, hg]; rfl
    rw [hcm] at hC2
    generalize hX2 : pushX X1 (nmz (m.getD q 0), keyA []) ++ [(⟨100 + (q : Int), nmz (m.getD q 0), [], false, sa'⟩ : Sd)] = X2 at *
    have hl2 : X2.length ≤ 11 + (q + 1) := by
      have := (pushX_sub (X := X1) (k := (nmz (m.getD q 0), keyA []))).2
      rw [← hX2, List.length_append, List.length_singleton]; omega
    have hk2 : ∀ x ∈ X2, x.ats = [] := by
      intro x hx
      rw [← hX2] at hx
      rcases List.mem_append.1 hx with hx | hx
      · exact hX1 x (pushX_sub.1 x hx)
      · simp at hx; rw [hx]
    obtain ⟨p2, hp2, hc2⟩ := (h2.ext h74.2.1).int hql
    refine ⟨⟨by omega, by omega⟩, p2, hp2, _, hc2, CallK.exact (fmtName _) fun w79 c79 => ⟨_, rfl, ?_⟩⟩
    have h79 := h74.ext c79
    generalize hv : IntKind.i64.wrap (m.getD q 0 + 1) = v1 at *
    have hlast := hC2.last (nmz v1)
    refine CallK.ext (h79.last (nmz v1)) fun u w82 c82 hu => ?_
    have hu' : ∃ a b sa, u = .tuple #[.agg #[.int .i64 a, .string (Bs b), Sl.v sa], .bool (decide (nmz v1 ∈ (m.take (q + 1)).map nmz))] := by
      rw [← hlast]
      cases hL : lastIn X2 (nmz v1) (fromAt X2 X2.length) X2.length with
      | none => rw [hL] at hu; exact ⟨_, _, _, hu⟩
      | some j => rw [hL] at hu; obtain ⟨sa, hu⟩ := hu; exact ⟨_, _, sa, hu⟩
    obtain ⟨a, b, sa, hu'⟩ := hu'
    refine ⟨a, b, sa, _, hu', fun w87 C hN c87 => ?_⟩
    have h87 := (h79.ext c82).ext c87
    obtain ⟨p3, hp3, hc3⟩ := (h2.ext h87.2.1).int hql
    have hrow := (h2.ext h87.2.1).cut 0 (q + 1) t.c (by omega) (by omega) (by omega) (by omega)
    rw [List.drop_zero, Nat.sub_zero, ← List.map_take] at hrow
    refine ⟨⟨by omega, by omega⟩, ⟨by omega, by omega⟩, p3, ⟨⟨by omega, by omega⟩, hp3⟩, _, hc3, decide (nmz v1 ∈ (m.take (q + 1)).map nmz), fun w' hE => ?_, fun hb => ?_, fun hb => ⟨⟨by omega, by omega⟩, fun w96 c96 => ⟨⟨q + 1, by omega, by omega, by omega, X2, h87.ext c96, hC2, hl2, hk2⟩, by dsimp only; omega⟩⟩⟩
    · rw [hv, show ((q : Int) + 1).toNat = q + 1 by omega]
      exact fmtWithin (hrow.ext hE) v1
    · rw [beq_self_eq_true] at hb; cases hb
  · refine hF1.clearK (by simp) fun w101 h101 => ⟨rfl, ?_⟩
    rw [hC.clear] at h101
    have e100 : placeAt X 100 0 = -1 := hS.no (by omega)
    have e1 : X.length = 0 ∨ placeAt X 1 0 = 0 := by
      by_cases h0 : k = 0
      · left; omega
      · right; exact hS.place (j := 0) (by omega)
    refine CallK.exact h101.len fun w104 c104 => ⟨_, rfl, _, fun _ => (h101.ext c104).place 100, fun w106 c106 => ⟨_, fun _ => ((h101.ext c104).ext c106).place 1, fun w108 c108 => ⟨true, fun _ => fmtAwake _, fun w110 c110 => ⟨((((h101.ext c104).ext c106).ext c108).ext c110).2.1, ?_⟩⟩⟩⟩
    rw [e100, decide_eq_true (rfl : ((X.length : Nat) : Int) = (X.length : Nat)), decide_eq_true (rfl : (-1 : Int) = -1)]
    rcases e1 with e | e
    · rw [decide_eq_true (by omega : ((X.length : Nat) : Int) = 0)]; rfl
    · rw [e, decide_eq_true (rfl : (0 : Int) = 0), Bool.or_true]; rfl

end Go.Proofs.YtcploacnonngaaaDoor
