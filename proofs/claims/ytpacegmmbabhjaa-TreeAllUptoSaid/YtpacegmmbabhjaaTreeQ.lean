/-
  tree.Compare and tree.Same answer as the plain comparison does.
-/
import Derived.Test.YtpacegmmbabhjaaTreeC
import Derived.Test.YtpacegmmbabhjaaTreeP
import Derived.Test.YtpacegmmbabhjaaGlib
namespace Go.Proofs.Ytpacegmmbabhjaa
open Go.RowKit

def orL : List Int → Int
  | [] => 0
  | z :: r => if z = 0 then orL r else z
theorem orL2 (a b : Int) : orL [a, b] = or2 a b := by unfold orL or2; simp only [orL]; split <;> (try split) <;> omega
theorem orL3 (a b c : Int) : orL [a, b, c] = or2 a (or2 b c) := by unfold or2; simp only [orL]; split <;> (try split) <;> (try split) <;> omega

theorem orInt {A : List Nat} {w : World} {s : Sl} {zs : List Int} (h : Row A w s 1 (zs.map fun z => [.int .i64 z])) :
    Calls Try.prog 40 #[s.v] w (Ret fun v w' => Ext w w' ∧ v = .int .i64 (orL zs)) := by
  refine cmp_Or_int.ok _ ?_
  unfold cmp_Or_int.vc
  have hl := h.len
  have hcp := h.most
  have hcc := h.cap
  simp only [maxLen] at hcp
  simp only [List.length_map] at hl
  refine ⟨fun i w1 => ∃ k : Nat, i = (k : Int) ∧ k ≤ zs.length ∧ orL zs = orL (zs.drop k) ∧ Ext w w1, fun i _ => zs.length - i.toNat, ⟨0, rfl, Nat.zero_le _, rfl, Chg.refl _ _⟩, ?_⟩
  rintro _ w1 ⟨k, rfl, hk, heq, hE⟩
  rw [Int.toNat_natCast]
  refine ⟨fun hi => ?_, fun hi => ⟨hE, ?_⟩⟩
  · have hk' : k < zs.length := by omega
    obtain ⟨p, hp, _, hc, _⟩ := (h.ext hE).at_ k (by simpa using hk')
    have e : (zs.map fun z => [Value.int .i64 z]).getD k [] = [.int .i64 (zs[k])] := by simp [List.getD_eq_getElem?_getD, hk']
    rw [e] at hc
    have hc0 := hc 0 _ rfl
    rw [Addr.add_zero'] at hc0
    rw [List.drop_eq_getElem_cons hk', orL] at heq
    refine ⟨⟨by omega, hi⟩, p, hp, zs[k], hc0, fun hne => ⟨hE, ?_⟩, fun he => ⟨⟨by omega, by omega⟩, ⟨k + 1, by omega, by omega, ?_, hE⟩, by dsimp only; omega⟩⟩
    · rw [heq, if_neg hne]
    · rw [heq, if_pos (Classical.not_not.1 he)]
  · have hkl : k = zs.length := by omega
    subst hkl
    rw [heq, List.drop_length]; rfl
theorem Box.ints {w : World} {B : Nat} {S : TypeId} {l : List Int} (h : Box w B S (l.map fun x => .int .i64 x)) (hl : l.length ≤ 1000) : Row [] w (Sl.mk (some ⟨B, 0, none⟩) l.length l.length) 1 (l.map fun x => [.int .i64 x]) := by
  refine ⟨by simp, Nat.le_refl _, by simp only [maxLen]; omega, fun i hi => ⟨⟨B, 0, none⟩, rfl, by simp, fun j v hj => ?_, ?_⟩⟩
  · simp only [List.length_map] at hi
    have e : (l.map fun x => [Value.int .i64 x]).getD i [] = [.int .i64 (l[i])] := by simp [List.getD_eq_getElem?_getD, hi]
    rw [e] at hj
    cases j with
    | succ j => simp at hj
    | zero =>
      simp only [List.getElem?_cons_zero, Option.some.injEq] at hj
      subst hj
      rw [Addr.add_add, Addr.add_lit, Nat.mul_one, Nat.add_zero, Nat.zero_add]
      exact h.cell i _ (by simp [hi])
  · simp only [List.length_map] at hi
    simp [List.getD_eq_getElem?_getD, hi]
theorem or2Int {w : World} {B : Nat} {S : TypeId} {a b : Int} (h : Box w B S [.int .i64 a, .int .i64 b]) :
    Calls Try.prog 40 #[Sl.v (Sl.mk (some ⟨B, 0, none⟩) 2 2)] w (Ret fun v w' => Ext w w' ∧ v = .int .i64 (or2 a b)) := by
  have := orInt (Box.ints (l := [a, b]) h (by simp))
  rwa [orL2] at this
theorem or3Int {w : World} {B : Nat} {S : TypeId} {a b c : Int} (h : Box w B S [.int .i64 a, .int .i64 b, .int .i64 c]) :
    Calls Try.prog 40 #[Sl.v (Sl.mk (some ⟨B, 0, none⟩) 3 3)] w (Ret fun v w' => Ext w w' ∧ v = .int .i64 (or2 a (or2 b c))) := by
  have := orInt (Box.ints (l := [a, b, c]) h (by simp))
  rwa [orL3] at this

theorem isNaN {w : World} (x : Int) : Calls Try.prog 48 #[.int .i64 x] w (Ret fun v w' => Ext w w' ∧ v = .bool false) := by
  refine cmp_isNaN_int.ok _ ?_
  unfold cmp_isNaN_int.vc
  exact ⟨Chg.refl _ _, by simp⟩
theorem cmpInt {w : World} (x y : Int) : Calls Try.prog 41 #[.int .i64 x, .int .i64 y] w (Ret fun v w' => Ext w w' ∧ v = .int .i64 (cmpI x y)) := by
  refine cmp_Compare_int.ok _ _ ?_
  unfold cmp_Compare_int.vc
  refine CallK.exact (isNaN x) fun w1 hE1 => ⟨_, rfl, CallK.exact (isNaN y) fun w2 hE2 => ⟨_, rfl, fun h => by simp at h, fun _ => ⟨fun h => by simp at h, fun _ => ⟨fun h => ⟨hE1.trans hE2, ?_⟩, fun h => ⟨fun h2 => ⟨hE1.trans hE2, ?_⟩, fun h2 => ⟨hE1.trans hE2, ?_⟩⟩⟩⟩⟩⟩
  · unfold cmpI; rw [if_pos h]
  · unfold cmpI; rw [if_neg h, if_pos h2]
  · unfold cmpI; rw [if_neg h, if_neg h2]
theorem cmpStr {w : World} (x y : Str) : Calls Try.prog 42 #[.string (Bs x), .string (Bs y)] w (Ret fun v w' => Ext w w' ∧ v = .int .i64 (cmpS x y)) := by
  refine strings_Compare.ok _ _ ?_
  unfold strings_Compare.vc
  have h : Calls Try.prog 49 #[.string (Bs x), .string (Bs y)] w (Ret fun v w' => Ext w w' ∧ v = .int .i64 (cmpS x y)) := by
    refine bytealg_CompareString.ok _ _ ?_
    unfold bytealg_CompareString.vc
    exact ⟨Chg.refl _ _, rfl⟩
  exact CallK.exact h fun w1 hE1 => ⟨_, rfl, hE1, rfl⟩

theorem lexM_end {α β : Type} (c : α → β → Int) : ∀ (l : List α) (m : List β), (l = [] ∨ m = []) → lexM c l m = cmpI (l.length : Int) (m.length : Int)
  | [], [], _ => rfl
  | [], y :: ys, _ => by unfold lexM cmpI; rw [if_pos (by simp only [List.length_cons, List.length_nil]; omega)]
  | x :: xs, [], _ => by unfold lexM cmpI; rw [if_neg (by simp only [List.length_cons, List.length_nil]; omega), if_pos (by simp only [List.length_cons, List.length_nil]; omega)]
  | _ :: _, _ :: _, h => by simp at h
theorem or2_zero (a : Int) : or2 0 a = a := if_pos rfl
theorem or2_ne {a : Int} (b : Int) (h : a ≠ 0) : or2 a b = a := if_neg h
theorem lexM_step {α β : Type} (c : α → β → Int) (x : α) (y : β) (xs : List α) (ys : List β) : lexM c (x :: xs) (y :: ys) = or2 (c x y) (lexM c xs ys) := rfl
theorem drop_at {α : Type} (l : List α) (d : α) {k : Nat} (h : k < l.length) : l.drop k = l.getD k d :: l.drop (k + 1) := by
  rw [List.drop_eq_getElem_cons h, List.getD_eq_getElem?_getD, List.getElem?_eq_getElem h]; rfl
/-- Behind the loop. -/
theorem lexM_exit {α β : Type} (c : α → β → Int) (l : List α) (m : List β) (x : Int) (k : Nat) (hl : k ≤ l.length) (hm : k ≤ m.length) (h : x ≠ 0 ∨ k = l.length ∨ k = m.length) : or2 x (lexM c (l.drop k) (m.drop k)) = or2 x (cmpI (l.length : Int) (m.length : Int)) := by
  by_cases hx : x = 0
  · subst hx
    have hd : l.drop k = [] ∨ m.drop k = [] := by
      rcases h with h | h | h
      · exact absurd rfl h
      · left; rw [h]; exact List.drop_length
      · right; rw [h]; exact List.drop_length
    rw [or2_zero, or2_zero, lexM_end c _ _ hd]
    simp only [List.length_drop, cmpI]
    have e1 : (((l.length - k : Nat) : Int) < ((m.length - k : Nat) : Int)) ↔ ((l.length : Int) < (m.length : Int)) := by omega
    have e2 : (((m.length - k : Nat) : Int) < ((l.length - k : Nat) : Int)) ↔ ((m.length : Int) < (l.length : Int)) := by omega
    simp only [e1, e2]
  · rw [or2_ne _ hx, or2_ne _ hx]

theorem treeCompare {A : List Nat} : ∀ a : T, ∀ (b : T) {w : World} {sa sk ta tk : Sl}, RdT A w a sa sk → RdT A w b ta tk →
    Calls Try.prog 24 #[tv a sa sk, tv b ta tk] w (Ret fun v w' => Ext w w' ∧ v = .int .i64 (T.cmp a b)) := T.ind' fun a ih b w sa sk ta tk ha hb => by
  refine tree_Compare.ok _ _ _ _ _ _ _ _ _ _ ?_
  unfold tree_Compare.vc
  have hna := ha.nattrs
  have hnk := ha.nkids
  have hnb := hb.nattrs
  have hnl := hb.nkids
  have hca := ha.caps
  have hcb := hb.caps
  simp only [maxLen] at hca hcb
  intro w1 B1 B2 _ _ _ hE1
  refine ⟨_, fun w' _ => cmpInt _ _, _, fun w' _ => cmpStr _ _, _, fun w' _ => cmpStr _ _, _, fun B w' _ _ hB => or3Int hB, fun w2 hE2 => ?_⟩
  have hE12 := hE1.trans hE2
  generalize hx0 : or2 (cmpI a.kind b.kind) (or2 (cmpS a.name b.name) (cmpS a.text b.text)) = x0
  refine ⟨fun x i w3 => ∃ k : Nat, i = (k : Int) ∧ k ≤ a.attrs.length ∧ k ≤ b.attrs.length ∧ or2 x0 (lexM cmpA a.attrs b.attrs) = or2 x (lexM cmpA (a.attrs.drop k) (b.attrs.drop k)) ∧ Ext w w3, fun _ i _ => a.attrs.length - i.toNat, ⟨0, rfl, Nat.zero_le _, Nat.zero_le _, rfl, hE12⟩, ?_⟩
  rintro x _ w3 ⟨k, rfl, hk1, hk2, heq, hE3⟩
  rw [Int.toNat_natCast]
  refine ⟨fun hgo w4 hE4 => ?_, fun hend => ?_⟩
  · obtain ⟨⟨hx, hi⟩, hj⟩ := hgo
    subst hx
    have hE34 := hE3.trans hE4
    obtain ⟨p, hp, _, hc⟩ := (ha.ext hE34).attr (i := k) (by omega)
    obtain ⟨q, hq, _, hd⟩ := (hb.ext hE34).attr (i := k) (by omega)
    rw [drop_at a.attrs ([], []) (by omega), drop_at b.attrs ([], []) (by omega), lexM_step, or2_zero] at heq
    refine ⟨p, ⟨⟨by omega, hi⟩, hp⟩, _, hc 0 _ rfl, q, ⟨⟨by omega, hj⟩, hq⟩, _, hd 0 _ rfl, _, fun w' _ => cmpStr _ _, p, ⟨⟨by omega, hi⟩, hp⟩, _, hc 1 _ rfl, q, ⟨⟨by omega, hj⟩, hq⟩, _, hd 1 _ rfl, _, fun w' _ => cmpStr _ _, _, fun B w' _ _ hB => or2Int hB, ⟨by omega, by omega⟩, fun w5 hE5 => ⟨⟨k + 1, by omega, by omega, by omega, heq, hE34.trans hE5⟩, by dsimp only; omega⟩⟩
  · have hex : or2 x0 (lexM cmpA a.attrs b.attrs) = or2 x (cmpI (a.attrs.length : Int) (b.attrs.length : Int)) := by
      rw [heq]
      refine lexM_exit cmpA a.attrs b.attrs x k hk1 hk2 ?_
      rcases hend with (h | h) | h
      · exact .inl h
      · exact .inr (.inl (by omega))
      · exact .inr (.inr (by omega))
    rw [hna, hnb]
    refine CallK.exact (cmpInt _ _) fun w4 hE4 => ⟨_, rfl, fun w5 B5 _ hE5 hB5 => CallK.exact (or2Int hB5) fun w6 hE6 => ⟨_, rfl, ?_⟩⟩
    have hE6 := ((hE3.trans hE4).trans hE5).trans hE6
    rw [← hex]
    generalize hx1 : or2 x0 (lexM cmpA a.attrs b.attrs) = x1
    refine ⟨fun y i w7 => ∃ k : Nat, i = (k : Int) ∧ k ≤ a.kids.length ∧ k ≤ b.kids.length ∧ or2 x1 (lexM T.cmp a.kids b.kids) = or2 y (lexM T.cmp (a.kids.drop k) (b.kids.drop k)) ∧ Ext w w7, fun _ i _ => a.kids.length - i.toNat, ⟨0, rfl, Nat.zero_le _, Nat.zero_le _, rfl, hE6⟩, ?_⟩
    rintro y _ w7 ⟨j, rfl, hj1, hj2, heq2, hE7⟩
    rw [Int.toNat_natCast]
    refine ⟨fun hgo w8 hE8 => ?_, fun hend => ?_⟩
    · obtain ⟨⟨hy, hi⟩, hj⟩ := hgo
      subst hy
      have hE78 := hE7.trans hE8
      have hj1' : j < a.kids.length := by omega
      have hj2' : j < b.kids.length := by omega
      obtain ⟨p, sa', sk', hp, _, hc, hr⟩ := (ha.ext hE78).kid hj1'
      obtain ⟨q, ta', tk', hq, _, hd, hs⟩ := (hb.ext hE78).kid hj2'
      rw [drop_at a.kids T.nul hj1', drop_at b.kids T.nul hj2', lexM_step, or2_zero] at heq2
      refine ⟨p, ⟨⟨by omega, hi⟩, hp⟩, _, _, _, sa', sk', hc, q, ⟨⟨by omega, hj⟩, hq⟩, _, _, _, ta', tk', hd, _, fun w' hE' => ih _ (getD_mem hj1') _ (hr.ext hE') (hs.ext hE'), ⟨by omega, by omega⟩, fun w9 hE9 => ⟨⟨j + 1, by omega, by omega, by omega, heq2, hE78.trans hE9⟩, by dsimp only; omega⟩⟩
    · have hex2 : or2 x1 (lexM T.cmp a.kids b.kids) = or2 y (cmpI (a.kids.length : Int) (b.kids.length : Int)) := by
        rw [heq2]
        refine lexM_exit T.cmp a.kids b.kids y j hj1 hj2 ?_
        rcases hend with (h | h) | h
        · exact .inl h
        · exact .inr (.inl (by omega))
        · exact .inr (.inr (by omega))
      rw [hnk, hnl]
      refine CallK.exact (cmpInt _ _) fun w8 hE8 => ⟨_, rfl, fun w9 B9 _ hE9 hB9 => CallK.exact (or2Int hB9) fun w10 hE10 => ⟨_, rfl, ((hE7.trans hE8).trans hE9).trans hE10, ?_⟩⟩
      rw [← hex2, T.cmp_eq a b, hx0, hx1]

end Go.Proofs.Ytpacegmmbabhjaa
