/-
  The laws of chapter 13: FormatClears, FormatPuts.
-/
import Derived.Test.YtcploacnonngaaaDoorQFormatPuts2
import Derived.Test.YtcploacnonngaaaDoorQFormatPutsGlaw13FormatPuts
namespace Go.Proofs.YtcploacnonngaaaDoor
open Go.RowKit

/-- A letter. -/
def ltr (j : Nat) : Str := [UInt8.ofNat (97 + j)]

theorem ltr_inj {i j : Nat} (hi : i < 100) (hj : j < 100) (h : ltr i = ltr j) : i = j := by
  unfold ltr at h
  have h1 : UInt8.ofNat (97 + i) = UInt8.ofNat (97 + j) := by simpa using h
  have h2 := congrArg UInt8.toNat h1
  simp at h2; omega

/-- Entries with the letters' names, numbered from 1 on. -/
def Sq (X : List Sd) (k : Nat) : Prop := X.length = k ∧ ∀ (j : Nat) x, X[j]? = some x → x.id = (j : Int) + 1 ∧ x.nm = ltr j ∧ x.ats = [] ∧ x.mar = false

variable {X : List Sd} {k : Nat}

theorem Sq.mem (h : Sq X k) {x : Sd} (hx : x ∈ X) : ∃ j, j < k ∧ X[j]? = some x ∧ x.id = (j : Int) + 1 ∧ x.nm = ltr j ∧ x.ats = [] ∧ x.mar = false := by
  obtain ⟨j, hj, e⟩ := List.getElem_of_mem hx
  have e' : X[j]? = some x := by rw [← e, List.getElem?_eq_getElem hj]
  exact ⟨j, by rw [← h.1]; exact hj, e', h.2 j x e'⟩

theorem Sq.push (h : Sq X k) (hk : k < 50) (sa : Sl) : pushX X (ltr k, keyA []) = X ∧ Sq (X ++ [⟨(k : Int) + 1, ltr k, [], false, sa⟩]) (k + 1) := by
  constructor
  · have hc : cntK X (ltr k, keyA []) = 0 := by
      unfold cntK
      rw [List.filter_eq_nil_iff.2]; · rfl
      intro x hx
      obtain ⟨j, hj, _, _, hn, _⟩ := h.mem hx
      intro e
      have := congrArg Prod.fst (of_decide_eq_true e)
      rw [show (keyOf x).1 = x.nm from rfl, hn] at this
      have := ltr_inj (by omega) (by omega) this
      omega
    have := pushX_few (P := []) (R := X) (k := (ltr k, keyA [])) (.inl rfl) (fun x hx => by obtain ⟨_, _, _, _, _, _, hm⟩ := h.mem hx; exact hm) (by omega)
    simpa using this
  · refine ⟨by simp [h.1], fun j x hx => ?_⟩
    by_cases hj : j < X.length
    · rw [List.getElem?_append_left hj] at hx; exact h.2 j x hx
    · rw [List.getElem?_append_right (by omega)] at hx
      have hj' : j - X.length = 0 := by
        have := (List.getElem?_eq_some_iff.1 hx).1
        simp at this; omega
      rw [hj'] at hx
      simp at hx
      have := h.1
      have hjk : j = k := by omega
      subst hx; subst hjk
      exact ⟨rfl, rfl, rfl, rfl⟩

theorem Sq.place (h : Sq X k) {j : Nat} (hj : j < k) : placeAt X ((j : Int) + 1) 0 = (j : Int) := by
  have hl := h.1
  have e := List.getElem?_eq_getElem (l := X) (i := j) (by omega)
  obtain ⟨h1, _, _, h4⟩ := h.2 j _ e
  refine placeAt_eq e h4 h1 fun i y hi hy ⟨_, hid⟩ => ?_
  have := (h.2 i y hy).1
  omega

theorem Sq.no (h : Sq X k) {z : Int} (hz : z < 1 ∨ (k : Int) < z) : placeAt X z 0 = -1 :=
  placeAt_none fun x hx ⟨_, hid⟩ => by obtain ⟨j, hj, _, h1, _⟩ := h.mem hx; omega

/-- What is behind the marker. -/
def Clr (X0 X : List Sd) (c : List Str) : Prop := ∃ R, X = (X0 ++ [mark]) ++ R ∧ (∀ x ∈ R, x.mar = false ∧ x.ats = []) ∧ ∀ s, (∃ x ∈ R, x.nm = s) ↔ s ∈ c

theorem ends_mark (X0 : List Sd) : Ends (X0 ++ [mark]) := .inr ⟨X0, mark, rfl, rfl⟩

variable {X0 : List Sd} {c : List Str}

theorem Clr.mark (X0 : List Sd) : Clr X0 (X0 ++ [Proofs.YtcploacnonngaaaDoor.mark]) [] := ⟨[], by simp, by simp, by simp⟩

theorem Clr.from (h : Clr X0 X c) : fromAt X X.length = X0.length + 1 := by
  obtain ⟨R, rfl, hR, _⟩ := h
  rw [List.length_append, fromAt_run (ends_mark X0) R.length (Nat.le_refl _) fun x hx => (hR x hx).1]; simp

/-- X, with e at a place. -/
def mid (X : List Sd) (p : Nat) (e : Sd) : List Sd := X.take p ++ [e] ++ X.drop p

theorem mid_len {p : Nat} {e : Sd} (hp : p ≤ X.length) : (mid X p e).length = X.length + 1 := by simp [mid]; omega

theorem mid_at {p : Nat} {e : Sd} (hp : p ≤ X.length) : (mid X p e)[p]? = some e := by
  unfold mid
  rw [List.append_assoc, List.getElem?_append_right (by simp; omega)]
  simp [Nat.min_eq_left hp]

theorem mid_set {p : Nat} {e f : Sd} (hp : p ≤ X.length) : (mid X p e).set p f = mid X p f := by
  unfold mid
  rw [List.append_assoc, List.set_append_right _ _ (by simp; omega)]
  simp [Nat.min_eq_left hp]

theorem mid_rem {p : Nat} {e : Sd} (hp : p ≤ X.length) : remAt (mid X p e) (p : Int) = X := by
  unfold remAt mid
  rw [if_pos (by omega), Int.toNat_natCast]
  have h1 : (X.take p).length = p := by simp [Nat.min_eq_left hp]
  have e1 : (X.take p ++ [e] ++ X.drop p).take p = X.take p := by
    rw [List.append_assoc]
    conv => lhs; rw [← h1, List.take_left' (by simp [h1])]
    simp [h1]
  have e2 : (X.take p ++ [e] ++ X.drop p).drop (p + 1) = X.drop p := by
    rw [List.drop_left' (by simp [h1])]
  rw [e1, e2, List.take_append_drop]

theorem mid_mem {p : Nat} {e x : Sd} (h : x ∈ mid X p e) : x ∈ X ∨ x = e := by
  unfold mid at h
  rcases List.mem_append.1 h with h | h
  · rcases List.mem_append.1 h with h | h
    · exact .inl (List.mem_of_mem_take h)
    · exact .inr (by simpa using h)
  · exact .inl (List.mem_of_mem_drop h)

theorem Sq.midNo (h : Sq X k) {p : Nat} {e : Sd} {z : Int} (hz : (k : Int) < z) (he : e.id ≠ z) : placeAt (mid X p e) z 0 = -1 :=
  placeAt_none fun x hx ⟨_, hid⟩ => by
    rcases mid_mem hx with hx | hx
    · obtain ⟨j, hj, _, h1, _⟩ := h.mem hx; omega
    · rw [hx] at hid; exact he hid

theorem Sq.midAt (h : Sq X k) {p : Nat} {e : Sd} (hp : p ≤ k) (hz : (k : Int) < e.id) (hm : e.mar = false) : placeAt (mid X p e) e.id 0 = (p : Int) := by
  have hl := h.1
  refine placeAt_eq (mid_at (by omega)) hm rfl fun i y hi hy ⟨_, hid⟩ => ?_
  unfold mid at hy
  rw [List.append_assoc, List.getElem?_append_left (by simp; omega), List.getElem?_take] at hy
  rw [if_pos hi] at hy
  have := (h.2 i y hy).1
  have := (List.getElem?_eq_some_iff.1 hy).1
  omega

variable {w w0 : World} {A bx : List Nat} {B : Nat} {K : Value → World → Prop}

theorem FS.putK (h : FS w0 A w B X) (hf : X.length < 1000000) {p : Nat} (hp : p ≤ X.length) {id : Int} {nm : Str} (hb : ∀ b ∈ bx, b ∈ A)
    (k : ∀ w' sa', FS w0 A w' B (mid X p ⟨id, nm, [], false, sa'⟩) → K (.bool true) w') : CallK Tryd.prog 17 #[.pointer (some ⟨B, 0, none⟩), .int .i64 (p : Int), .agg #[.int .i64 id, .string (Bs nm), Sl.nil.v]] w bx K := by
  obtain ⟨s, hF⟩ := h.2.2
  exact CallK.mod (fmtPut hF hf hp (ats := []) (Row.nil _ _ _) (by simp)) hb fun v w' hM ⟨hv, s', sa', hF'⟩ => by subst hv; exact k w' sa' (h.mod hM hF')

theorem FS.putOut (h : FS w0 A w B X) {i : Int} (hi : i < 0 ∨ (X.length : Int) < i) {id : Int} {nm : Str} {sa : Sl} : Calls Tryd.prog 17 #[.pointer (some ⟨B, 0, none⟩), .int .i64 i, .agg #[.int .i64 id, .string (Bs nm), sa.v]] w
    (Ret fun v w' => Ext w w' ∧ v = .bool false) := by
  obtain ⟨s, hF⟩ := h.2.2
  exact fmtPutOut hF hi

theorem FS.swapK (h : FS w0 A w B X) (id : Int) {n : Int} {nm : Str} (hb : ∀ b ∈ bx, b ∈ A)
    (k : ∀ w' sa', FS w0 A w' B (if 0 ≤ placeAt X id 0 then X.set (placeAt X id 0).toNat ⟨n, nm, [], false, sa'⟩ else X) → K (.bool (decide (0 ≤ placeAt X id 0))) w') :
    CallK Tryd.prog 19 #[.pointer (some ⟨B, 0, none⟩), .int .i64 id, .agg #[.int .i64 n, .string (Bs nm), Sl.nil.v]] w bx K := by
  obtain ⟨s, hF⟩ := h.2.2
  exact CallK.mod (fmtSwap hF id (ats := []) (Own.nil _ _ _ _) (by simp)) hb fun v w' hM ⟨hv, s', sa', hF'⟩ => by subst hv; exact k w' sa' (h.mod hM hF')

theorem FS.removeK (h : FS w0 A w B X) (id : Int) (hb : ∀ b ∈ bx, b ∈ A) (k : ∀ w', FS w0 A w' B (remAt X (placeAt X id 0)) → K (.bool (decide (0 ≤ placeAt X id 0))) w') :
    CallK Tryd.prog 20 #[.pointer (some ⟨B, 0, none⟩), .int .i64 id] w bx K := by
  obtain ⟨s, hF⟩ := h.2.2
  exact CallK.mod (fmtRemove hF id) hb fun v w' hM ⟨hv, s', hF'⟩ => by subst hv; exact k w' (h.mod hM hF')

theorem FS.at_ (h : FS w0 A w B X) {k : Nat} (hk : k < X.length) : Calls Tryd.prog 18 #[.pointer (some ⟨B, 0, none⟩), .int .i64 (k : Int)] w
    (Ret fun v w' => Ext w w' ∧ ∃ sa' : Sl, v = .tuple #[.agg #[.int .i64 (X.getD k default).id, .string (Bs (X.getD k default).nm), Sl.v sa'], .bool true]) := by
  obtain ⟨s, hF⟩ := h.2.2
  exact fmtAt hF hk

theorem letters12 {c : Nat} (hc : c < 12) : (List.drop c ([97, 98, 99, 100, 101, 102, 103, 104, 105, 106, 107, 108] : Str)).take 1 = ltr c := by
  have : ∀ c : Fin 12, (List.drop c.val ([97, 98, 99, 100, 101, 102, 103, 104, 105, 106, 107, 108] : Str)).take 1 = ltr c.val := by decide +kernel
  exact this ⟨c, hc⟩

theorem fmtPutsLaw (n q : Int) : Calls Tryd.prog 5 #[.int .i64 n, .int .i64 q] w (Ret fun v w' => Ext w w' ∧ v = .bool true) := by
  refine law13_FormatPuts.ok _ _ ?_
  unfold law13_FormatPuts.vc
  refine FS.newK fun B w7 c7 h7 => ⟨some ⟨B, 0, none⟩, rfl, fun h => (by cases h), fun _ => ?_⟩
  obtain ⟨N, hN, hN1⟩ : ∃ N : Nat, n.emod 12 = (N : Int) ∧ N < 12 := by
    have h0 := Int.emod_nonneg n (show (12 : Int) ≠ 0 by omega)
    have h1 := Int.emod_lt_of_pos n (show (0 : Int) < 12 by omega)
    refine ⟨(n % 12).toNat, ?_, by omega⟩
    show n % 12 = _
    omega
  refine CallK.exact (place n 12 (by omega) (by omega)) fun w25 c25 => ⟨_, rfl, ?_⟩
  rw [hN]
  let A := List.range w.heap.size
  refine ⟨fun i w' => ∃ k : Nat, i = (k : Int) + 1 ∧ k ≤ N ∧ ∃ X, FS w A w' B X ∧ Sq X k, fun i _ => 13 - i.toNat, ⟨0, rfl, by omega, [], h7.ext c25, rfl, by simp⟩, ?_⟩
  rintro _ w36 ⟨k, rfl, hk, X, hF, hS⟩
  have hXl := hS.1
  refine ⟨fun hi => ⟨⟨by omega, by omega⟩, ⟨by omega, by omega, by simp; omega⟩, ?_⟩, fun hi => ⟨⟨by omega, by omega⟩, ?_⟩⟩
  · have hn : (List.drop ((k : Int) + 1 - 1).toNat ([97, 98, 99, 100, 101, 102, 103, 104, 105, 106, 107, 108] : Str)).take (((k : Int) + 1).toNat - ((k : Int) + 1 - 1).toNat) = ltr k := by
      rw [show ((k : Int) + 1 - 1).toNat = k by omega, show ((k : Int) + 1).toNat - k = 1 by omega]
      exact letters12 (by omega)
    rw [hn]
    have hp := hS.push (by omega)
    refine hF.pushK (by omega) (fun x hx => by obtain ⟨_, _, _, _, _, ha, _⟩ := hS.mem hx; rw [ha]; exact keyOk_nil) (ats := []) (Own.nil _ _ _ _) (by simp) keyOk_nil (by simp) fun w24 sa' h24 => ⟨rfl, ⟨by omega, by omega⟩, ⟨k + 1, by omega, by omega, _, ?_, (hp sa').2⟩, by dsimp only; omega⟩
    rw [(hp sa').1] at h24; exact h24
  have hkN : k = N := by omega
  subst hkN
  obtain ⟨p, hp, hp1⟩ : ∃ p : Nat, q.emod ((k : Int) + 1) = (p : Int) ∧ p ≤ k := by
    have h0 := Int.emod_nonneg q (show (k : Int) + 1 ≠ 0 by omega)
    have h1 := Int.emod_lt_of_pos q (show (0 : Int) < (k : Int) + 1 by omega)
    refine ⟨(q % ((k : Int) + 1)).toNat, ?_, by omega⟩
    show q % ((k : Int) + 1) = _
    omega
  refine CallK.exact (place q ((k : Int) + 1) (by omega) (by omega)) fun w116 c116 => ⟨_, rfl, ?_⟩
  rw [hp]
  refine (hF.ext c116).putK (by omega) (p := p) (by omega) (by simp) fun w129 sa1 h129 => ⟨_, rfl, ?_⟩
  have hl1 := mid_len (X := X) (p := p) (e := ⟨50, [122], [], false, sa1⟩) (by omega)
  have hp50 := hS.midAt (p := p) (e := ⟨50, [122], [], false, sa1⟩) hp1 (by show (k : Int) < 50; omega) rfl
  generalize hX1 : mid X p ⟨50, [122], [], false, sa1⟩ = X1 at *
  have g50 : (X1.getD p default).id = 50 := by
    rw [← hX1, List.getD_eq_getElem?_getD, mid_at (by omega)]; rfl
  refine ⟨_, fun _ => h129.place 50, fun w140 c140 => ?_⟩
  have h140 := h129.ext c140
  refine ⟨_, fun _ => h140.len, fun w153 c153 => ⟨fun _ => ⟨by omega, by omega⟩, ?_⟩⟩
  have h153 := h140.ext c153
  refine ⟨fun r w' => r = false ∧ FS w A w' B X1, fun _ => CallK.exact (h153.putOut (.inl (by omega))) fun w170 c170 => ⟨_, rfl, rfl, h153.ext c170⟩, fun _ => ⟨_, rfl, h153⟩, ?_⟩
  rintro _ w170 ⟨rfl, h170⟩
  refine ⟨fun _ => ⟨by omega, by omega⟩, fun r w' => r = false ∧ FS w A w' B X1, fun _ => CallK.exact (h170.putOut (.inr (by omega))) fun w189 c189 => ⟨_, rfl, rfl, h170.ext c189⟩, fun _ => ⟨_, rfl, h170⟩, ?_⟩
  rintro _ w189 ⟨rfl, h189⟩
  have ep50 : placeAt X1 50 0 = (p : Int) := hp50
  refine ⟨fun hbad => ?_, fun _ => ?_⟩
  · rw [ep50] at hbad
    rcases hbad with (((hb | hb) | hb) | hb) | hb
    · cases hb
    · exact absurd rfl hb
    · omega
    · cases hb
    · cases hb
  refine CallK.ext (h189.at_ (k := p) (by omega)) fun v w209 c209 ⟨sa2, hv⟩ => ⟨_, _, sa2, _, hv, fun w226 C hC c226 => ?_⟩
  rw [g50]
  have h226 := (h189.ext c209).new hC c226
  refine ⟨fun r w' => r = true ∧ ∃ sa3, FS w (C :: A) w' B (mid X p ⟨60, [121], [], false, sa3⟩), fun _ => ?_, fun hb => absurd ⟨rfl, fun h => h rfl⟩ hb, ?_⟩
  · refine h226.swapK 50 (by simp) fun w248 sa3 h248 => ⟨_, rfl, decide_eq_true (by omega), sa3, ?_⟩
    rw [ep50, if_pos (by omega), Int.toNat_natCast, ← hX1, mid_set (by omega)] at h248
    exact h248
  rintro _ w248 ⟨rfl, sa3, h248⟩
  have hl2 := mid_len (X := X) (p := p) (e := ⟨60, [121], [], false, sa3⟩) (by omega)
  have ep60 : placeAt (mid X p ⟨60, [121], [], false, sa3⟩) 60 0 = (p : Int) := hS.midAt (p := p) (e := ⟨60, [121], [], false, sa3⟩) hp1 (by show (k : Int) < 60; omega) rfl
  have en50 : placeAt (mid X p ⟨60, [121], [], false, sa3⟩) 50 0 = -1 := hS.midNo (by omega) (by show (60 : Int) ≠ 50; omega)
  have erem := mid_rem (X := X) (p := p) (e := ⟨60, [121], [], false, sa3⟩) (by omega)
  generalize hX2 : mid X p ⟨60, [121], [], false, sa3⟩ = X2 at *
  refine ⟨_, fun _ => h248.place 60, fun w264 c264 => ?_⟩
  have h264 := h248.ext c264
  rw [ep60]
  refine ⟨fun r w' => r = false ∧ FS w (C :: A) w' B X2, fun _ => ?_, fun hb => absurd ⟨⟨⟨rfl, fun h => h rfl⟩, rfl⟩, fun h => h rfl⟩ hb, ?_⟩
  · refine h264.swapK 50 (by simp) fun w279 sa4 h279 => ⟨_, rfl, decide_eq_false (by omega), ?_⟩
    rw [if_neg (by omega)] at h279; exact h279
  rintro _ w279 ⟨rfl, h279⟩
  refine ⟨fun r w' => r = true ∧ FS w (C :: A) w' B X, fun _ => ?_, fun hb => absurd ⟨⟨⟨⟨rfl, fun h => h rfl⟩, rfl⟩, fun h => h rfl⟩, rfl⟩ hb, ?_⟩
  · refine h279.removeK 60 (by simp) fun w294 h294 => ⟨_, rfl, decide_eq_true (by omega), ?_⟩
    rw [ep60, erem] at h294; exact h294
  rintro _ w294 ⟨rfl, h294⟩
  have e60 : placeAt X 60 0 = -1 := hS.no (by omega)
  refine ⟨fun r w' => r = false ∧ FS w (C :: A) w' B X, fun _ => ?_, fun hb => absurd ⟨⟨⟨⟨⟨rfl, fun h => h rfl⟩, rfl⟩, fun h => h rfl⟩, rfl⟩, rfl⟩ hb, ?_⟩
  · refine h294.removeK 60 (by simp) fun w310 h310 => ⟨_, rfl, decide_eq_false (by omega), ?_⟩
    rw [e60] at h310
    have : remAt X (-1) = X := by unfold remAt; rw [if_neg (by omega)]
    rw [this] at h310; exact h310
  rintro _ w310 ⟨rfl, h310⟩
  refine ⟨fun hbad => ?_, fun _ => ?_⟩
  · rcases hbad with (((((hb | hb) | hb) | hb) | hb) | hb) | hb
    · cases hb
    · exact absurd rfl hb
    · cases hb
    · exact absurd rfl hb
    · cases hb
    · cases hb
    · cases hb
  refine ⟨fun i w' => ∃ j : Nat, i = (j : Int) + 1 ∧ j ≤ k ∧ FS w (C :: A) w' B X, fun i _ => 13 - i.toNat, ⟨0, rfl, by omega, h310⟩, ?_⟩
  rintro _ w329 ⟨j, rfl, hj, h329⟩
  refine ⟨fun hi => CallK.exact (h329.place _) fun w380 c380 => ⟨_, rfl, ⟨by omega, by omega⟩, fun hb => ?_, fun _ => ⟨⟨by omega, by omega⟩, ⟨j + 1, by omega, by omega, h329.ext c380⟩, by dsimp only; omega⟩⟩, fun hi => ?_⟩
  · rw [hS.place (by omega)] at hb; omega
  · refine CallK.exact h329.len fun w407 c407 => ⟨_, rfl, true, fun _ => fmtAwake _, fun w418 c418 => ⟨((h329.ext c407).ext c418).2.1, ?_⟩⟩
    rw [hXl, decide_eq_true (rfl : ((k : Nat) : Int) = (k : Nat))]; rfl

end Go.Proofs.YtcploacnonngaaaDoor
