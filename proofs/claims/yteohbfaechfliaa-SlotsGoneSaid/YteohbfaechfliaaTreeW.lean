/-
  tree.Size, Depth, Slots, Check, Name and the laws' Small: what they answer; they write nothing that was there.
-/
import Derived.Test.YteohbfaechfliaaTreeR
import Derived.Test.YteohbfaechfliaaGtree
import Derived.Test.YteohbfaechfliaaGlaw00
namespace Go.Proofs.Yteohbfaechfliaa
open Go.RowKit

theorem take_getD {l : List T} {i : Nat} (h : i < l.length) : l.take (i + 1) = l.take i ++ [l.getD i T.nul] := by
  rw [List.take_succ_eq_append_getElem h, List.getD_eq_getElem?_getD, List.getElem?_eq_getElem h]; rfl
theorem sum_take (f : T → Nat) {l : List T} {i : Nat} (h : i < l.length) : ((l.take (i + 1)).map f).sum = ((l.take i).map f).sum + f (l.getD i T.nul) := by
  rw [take_getD h]; simp
theorem foldr_max_snoc (l : List Nat) (x : Nat) : (l ++ [x]).foldr max 0 = max (l.foldr max 0) x := by
  induction l with
  | nil => simp
  | cons a r ih => simp only [List.cons_append, List.foldr_cons, ih]; omega
theorem max_take (f : T → Nat) {l : List T} {i : Nat} (h : i < l.length) : ((l.take (i + 1)).map f).foldr max 0 = max (((l.take i).map f).foldr max 0) (f (l.getD i T.nul)) := by
  rw [take_getD h, List.map_append]; exact foldr_max_snoc _ _
theorem sum_take_le (f : T → Nat) (l : List T) (i : Nat) : ((l.take i).map f).sum ≤ (l.map f).sum := by
  conv => rhs; rw [← List.take_append_drop i l]
  rw [List.map_append, List.sum_append]; omega

theorem treeSize {A : List Nat} : ∀ t : T, t.bulk ≤ 1099511627776 → ∀ {w : World} {sa sk : Sl}, RdT A w t sa sk →
    Calls Try.prog 78 #[tv t sa sk] w (Ret fun v w' => Ext w w' ∧ v = .int .i64 (t.size : Int)) := T.ind' fun t ih hb w sa sk h => by
  refine tree_Size.ok _ _ _ _ _ ?_
  unfold tree_Size.vc
  have hn := h.nkids
  have hcp := h.caps
  have hl := T.kids_len t
  intro w1 B1 _ hE1
  refine ⟨fun n i w2 => ∃ k : Nat, i = (k : Int) ∧ k ≤ t.kids.length ∧ n = ((1 + ((t.kids.take k).map T.size).sum : Nat) : Int) ∧ Ext w w2, fun _ i _ => t.kids.length - i.toNat, ⟨0, rfl, Nat.zero_le _, by simp, hE1⟩, ?_⟩
  rintro _ _ w2 ⟨k, rfl, hk, rfl, hE⟩
  refine ⟨fun hi => ?_, fun hi => ⟨hE, ?_⟩⟩
  · have hk' : k < t.kids.length := by omega
    obtain ⟨p, sa', sk', hp, _, hc, hr⟩ := (h.ext hE).kid hk'
    rw [Int.toNat_natCast]
    have hm := getD_mem (d := T.nul) hk'
    have hs := sum_take T.size hk'
    have hsl := sum_take_le T.size t.kids (k + 1)
    have ht := T.size_eq t
    have htb := T.size_bulk t
    refine ⟨⟨by omega, hi⟩, p, hp, _, _, _, sa', sk', hc, fun w3 B3 _ hE3 => CallK.exact (ih _ hm (by have := T.kid_bulk hm; omega) (hr.ext hE3)) fun w4 hE4 => ⟨_, rfl, ⟨by omega, by omega⟩, ⟨by omega, by omega⟩, ⟨k + 1, by omega, by omega, by omega, (hE.trans hE3).trans hE4⟩, by dsimp only; omega⟩⟩
  · have hkl : k = t.kids.length := by omega
    subst hkl
    rw [List.take_of_length_le (Nat.le_refl _), T.size_eq t]

theorem treeDepth {A : List Nat} : ∀ t : T, t.bulk ≤ 1099511627776 → ∀ {w : World} {sa sk : Sl}, RdT A w t sa sk →
    Calls Try.prog 79 #[tv t sa sk] w (Ret fun v w' => Ext w w' ∧ v = .int .i64 (t.depth : Int)) := T.ind' fun t ih hb w sa sk h => by
  refine tree_Depth.ok _ _ _ _ _ ?_
  unfold tree_Depth.vc
  have hn := h.nkids
  have hcp := h.caps
  have hl := T.kids_len t
  intro w1 B1 _ hE1
  refine ⟨fun n i w2 => ∃ k : Nat, i = (k : Int) ∧ k ≤ t.kids.length ∧ n = ((((t.kids.take k).map T.depth).foldr max 0 : Nat) : Int) ∧ Ext w w2, fun _ i _ => t.kids.length - i.toNat, ⟨0, rfl, Nat.zero_le _, by simp, hE1⟩, ?_⟩
  rintro _ _ w2 ⟨k, rfl, hk, rfl, hE⟩
  refine ⟨fun hi => ?_, fun hi => ?_⟩
  · have hk' : k < t.kids.length := by omega
    obtain ⟨p, sa', sk', hp, _, hc, hr⟩ := (h.ext hE).kid hk'
    rw [Int.toNat_natCast]
    have hm := getD_mem (d := T.nul) hk'
    have hs := max_take T.depth hk'
    refine ⟨⟨by omega, hi⟩, p, hp, _, _, _, sa', sk', hc, fun w3 B3 _ hE3 => CallK.exact (ih _ hm (by have := T.kid_bulk hm; omega) (hr.ext hE3)) fun w4 hE4 => ⟨_, rfl, ⟨by omega, by omega⟩, ⟨k + 1, by omega, by omega, by omega, (hE.trans hE3).trans hE4⟩, by dsimp only; omega⟩⟩
  · have hkl : k = t.kids.length := by omega
    subst hkl
    have h1 := T.depth_eq t
    have h2 := T.depth_size t
    have h3 := T.size_bulk t
    rw [List.take_of_length_le (Nat.le_refl _)]
    refine ⟨⟨by omega, by omega⟩, hE, ?_⟩
    rw [h1]; congr 1; omega

/-! ### Small: only that it answers, and what it writes -/

theorem lawSmall {A : List Nat} {B : Nat} (hBA : B ∈ A) : ∀ t : T, t.bulk ≤ 1099511627776 → ∀ {w : World} {sa sk : Sl} (deep : Int) (c : Nat), 0 ≤ deep → c ≤ 400 → RdT A w t sa sk → Box w B 3 [.int .i64 (c : Int)] →
    Calls Try.prog 66 #[tv t sa sk, .int .i64 deep, .pointer (some ⟨B, 0, none⟩)] w (Ret fun v w' => Chg [B] w w' ∧ ∃ (b : Bool) (c' : Nat), v = .bool b ∧ Box w' B 3 [.int .i64 (c' : Int)] ∧ (b = true → c' ≤ 400)) := T.ind' fun t ih hb w sa sk deep c hd hc h hB => by
  refine law00_small.ok _ _ _ _ _ _ _ ?_
  unfold law00_small.vc
  have hn := h.nkids
  have hna := h.nattrs
  have hcp := h.caps
  simp only [maxLen] at hcp
  have hl := T.kids_len t
  intro w5 B4 hN hE5
  have hB5 := hB.ext hE5
  have hlt := hB.lt
  have hge := hN.ge
  refine ⟨(c : Int), hB5.cell 0 _ rfl, ⟨by omega, by omega⟩, B, 0, 3, _, rfl, hB5, by simp, by simp; omega, fun w1 hC hB1 => ?_⟩
  have hB1 : Box w1 B 3 [.int .i64 ((c : Int) + 1)] := hB1
  have hC1 : Chg [B] w w1 := (Chg.ext hE5).trans hC
  have hF : ∀ b ∈ [B], b ∈ A := by simpa using hBA
  refine ⟨(c : Int) + 1, hB1.cell 0 _ rfl, fun _ => ⟨hC1, false, c + 1, rfl, hB1, by simp⟩, fun hok => ?_⟩
  have hok1 := hok.1.1.1.1
  refine ⟨fun i w2 => ∃ k : Nat, i = (k : Int) ∧ k ≤ t.attrs.length ∧ Chg [B] w w2 ∧ Box w2 B 3 [.int .i64 ((c : Int) + 1)], fun i _ => t.attrs.length - i.toNat, ⟨0, rfl, Nat.zero_le _, hC1, hB1⟩, ?_⟩
  rintro _ w2 ⟨k, rfl, hk, hC2, hB2⟩
  refine ⟨fun hi => ?_, fun hi => ?_⟩
  · obtain ⟨p, hp, _, hcell⟩ := (RdT.chg hC2 hF h).attr (i := k) (by omega)
    rw [Int.toNat_natCast]
    exact ⟨⟨by omega, hi⟩, p, hp, _, hcell 0 _ rfl, p, fun _ => ⟨⟨by omega, hi⟩, hp⟩, _, fun _ => hcell 1 _ rfl, fun _ => ⟨hC2, false, c + 1, rfl, hB2, by simp⟩, fun _ => ⟨⟨by omega, by omega⟩, ⟨k + 1, by omega, by omega, hC2, hB2⟩, by dsimp only; omega⟩⟩
  · refine ⟨fun i w3 => ∃ k c' : Nat, i = (k : Int) ∧ k ≤ t.kids.length ∧ Chg [B] w w3 ∧ Box w3 B 3 [.int .i64 (c' : Int)] ∧ c' ≤ 400, fun i _ => t.kids.length - i.toNat, ⟨0, c + 1, rfl, Nat.zero_le _, hC2, hB2, by omega⟩, ?_⟩
    rintro _ w3 ⟨k, c', rfl, hk, hC3, hB3, hc'⟩
    refine ⟨fun hi => ?_, fun hi => ⟨hC3, true, c', rfl, hB3, fun _ => hc'⟩⟩
    have hk' : k < t.kids.length := by omega
    obtain ⟨p, sa', sk', hp, _, hcell, hr⟩ := (RdT.chg hC3 hF h).kid hk'
    rw [Int.toNat_natCast]
    have hm := getD_mem (d := T.nul) hk'
    refine ⟨⟨by omega, hi⟩, p, hp, _, _, _, sa', sk', hcell, ⟨by omega, by omega⟩, CallK.chg (ih _ hm (by have := T.kid_bulk hm; omega) (deep + 1) c' (by omega) hc' hr hB3) (by simp; omega) fun v w4 hC4 ⟨b, c4, hv, hB4, hb4⟩ => ⟨b, hv, fun hf => ⟨hC3.trans hC4, false, c4, rfl, hB4, by simp⟩, fun ht => ⟨⟨by omega, by omega⟩, ⟨k + 1, c4, by omega, by omega, hC3.trans hC4, hB4, hb4 ht⟩, by dsimp only; omega⟩⟩⟩

theorem lawSmallT {w : World} {t : T} {sa sk : Sl} (h : RdT [] w t sa sk) (hb : t.bulk ≤ 1099511627776) :
    Calls Try.prog 42 #[tv t sa sk] w (Ret fun v w' => Ext w w' ∧ ∃ b : Bool, v = .bool b) := by
  refine law00_Small.ok _ _ _ _ _ ?_
  unfold law00_Small.vc
  intro w1 B1 B2 hN1 hN2 hne hE1 hB
  have hr := ((h.fresh hN2.ge).ext hE1)
  have hs := lawSmall (A := [B2]) (B := B2) (by simp) t hb 0 0 (by omega) (by omega) hr hB
  refine CallK.chg hs (by simpa using hne) fun v w2 hC ⟨b, c', hv, _, _⟩ => ⟨b, hv, Chg.fresh hE1 hC (by simpa using hN2.ge), b, rfl⟩

/-! ### Check -/

def byteOk (c : UInt8) : Bool := !(c.toNat == 9 || c.toNat == 10 || c.toNat == 12 || c.toNat == 32 || c.toNat == 0 || c.toNat == 34 || c.toNat == 39 || c.toNat == 62 || c.toNat == 47 || c.toNat == 61 || c.toNat == 60) && !(decide (65 ≤ c.toNat) && decide (c.toNat ≤ 90))
def nameOk (s : Str) : Bool := !(s.isEmpty) && decide (s.length ≤ 32) && s.all byteOk
def attrsOk : Str → List (Str × Str) → Bool
  | _, [] => true
  | last, p :: r => !(Op.bytesLess p.1 last) && !(decide (p.1 = last)) && nameOk p.1 && decide (p.2.length ≤ 4096) && attrsOk p.1 r
def nodeOk : T → Bool
  | .node k n x ats ks => if k = 2 then nameOk n && x.isEmpty && (decide (ats.length ≤ 12) && attrsOk [] ats) && ((ks.attach.map fun ⟨t, _⟩ => nodeOk t && !(decide (t.kind = 5))).all id)
    else ats.isEmpty && ks.isEmpty && (if k = 3 then n.isEmpty && !x.isEmpty && decide (x.length ≤ 4096) else if k = 4 then n.isEmpty && decide (x.length ≤ 4096) else if k = 5 then x.isEmpty && decide (n.length ≤ 32) else false)
def kidsOk (t : T) : Bool := t.kids.all fun u => nodeOk u && !(decide (u.kind = 5) && !(decide (t.kind = 1)))
def T.check (t : T) : Bool := decide (t.kind = 1) && decide (t.size ≤ 300) && decide (t.depth ≤ 60) && (t.name.isEmpty && t.text.isEmpty) && t.attrs.isEmpty && kidsOk t
theorem nodeOk_el {t : T} (h : t.kind = 2) : nodeOk t = (nameOk t.name && t.text.isEmpty && (decide (t.attrs.length ≤ 12) && attrsOk [] t.attrs) && kidsOk t) := by
  cases t with
  | node k n x ats ks =>
    have h : k = 2 := h
    subst h
    have e : (ks.attach.map fun (x : { x // x ∈ ks }) => nodeOk x.1 && !(decide (T.kind x.1 = 5))) = ks.map fun u => nodeOk u && !(decide (T.kind u = 5)) := List.attach_map_val (f := fun u => nodeOk u && !(decide (T.kind u = 5)))
    have e2 : kidsOk (.node 2 n x ats ks) = (ks.map fun u => nodeOk u && !(decide (T.kind u = 5))).all id := by
      unfold kidsOk; rw [List.all_map]; simp [T.kind, T.kids, Function.comp_def]
    rw [nodeOk, if_pos rfl, e2, ← e]; rfl
theorem nodeOk_ne {t : T} (h : t.kind ≠ 2) : nodeOk t = (t.attrs.isEmpty && t.kids.isEmpty && (if t.kind = 3 then t.name.isEmpty && !t.text.isEmpty && decide (t.text.length ≤ 4096) else if t.kind = 4 then t.name.isEmpty && decide (t.text.length ≤ 4096) else if t.kind = 5 then t.text.isEmpty && decide (t.name.length ≤ 32) else false)) := by
  cases t with
  | node k n x ats ks =>
    have h : k ≠ 2 := h
    rw [nodeOk, if_neg h]; rfl

theorem treeName {w : World} (s : Str) : Calls Try.prog 92 #[.string (Bs s)] w (Ret fun v w' => Ext w w' ∧ v = .bool (nameOk s)) := by
  refine tree_Name.ok _ ?_
  unfold tree_Name.vc
  refine ⟨fun hc => ⟨Chg.refl _ _, ?_⟩, fun hc => ?_⟩
  · rcases hc with rfl | hc
    · rfl
    · have : nameOk s = false := by unfold nameOk; simp; omega
      rw [this]
  · obtain ⟨h0, h32⟩ := hc
    refine ⟨fun i w1 => ∃ k : Nat, i = (k : Int) ∧ k ≤ s.length ∧ (s.take k).all byteOk = true ∧ Ext w w1, fun i _ => s.length - i.toNat, ⟨0, rfl, Nat.zero_le _, rfl, Chg.refl _ _⟩, ?_⟩
    rintro _ w1 ⟨k, rfl, hk, hall, hE⟩
    rw [Int.toNat_natCast]
    refine ⟨fun hi => ?_, fun hi => ⟨hE, ?_⟩⟩
    · have hk' : k < s.length := by omega
      have hbad : byteOk (s.getD k 0) = false → nameOk s = false := fun hb => by
        have hm : s.getD k 0 ∈ s := by rw [List.getD_eq_getElem?_getD, List.getElem?_eq_getElem hk']; exact List.getElem_mem hk'
        unfold nameOk
        have : s.all byteOk = false := by
          rw [List.all_eq_false]; exact ⟨_, hm, fun h => by rw [hb] at h; cases h⟩
        rw [this, Bool.and_false]
      generalize hx : s.getD k 0 = c at hbad
      refine ⟨⟨by omega, hi⟩, fun hset => ⟨hE, ?_⟩, fun hset => ⟨fun hup => ⟨hE, ?_⟩, fun hup => ⟨⟨by omega, by omega⟩, ⟨k + 1, by omega, by omega, ?_, hE⟩, by dsimp only; omega⟩⟩⟩
      · rw [hbad (by unfold byteOk; simp; intro; omega)]
      · rw [hbad (by unfold byteOk; simp; omega)]
      · rw [List.take_succ_eq_append_getElem hk', List.all_append, hall]
        have : s[k] = c := by rw [← hx, List.getD_eq_getElem?_getD, List.getElem?_eq_getElem hk']; rfl
        rw [this]
        simp only [List.all_cons, List.all_nil, Bool.and_true, Bool.true_and]
        unfold byteOk
        simp; omega
    · have hkl : k = s.length := by omega
      subst hkl
      rw [List.take_of_length_le (Nat.le_refl _)] at hall
      unfold nameOk
      rw [hall]
      have : s.isEmpty = false := by cases s <;> simp_all
      simp [this]; omega

end Go.Proofs.Yteohbfaechfliaa
