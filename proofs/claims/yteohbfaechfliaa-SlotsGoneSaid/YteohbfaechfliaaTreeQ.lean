/-
  tree.Compare and tree.Same answer as the plain comparison does.
-/
import Derived.Test.YteohbfaechfliaaTreeC
import Derived.Test.YteohbfaechfliaaTreeP
import Derived.Test.YteohbfaechfliaaGlib
namespace Go.Proofs.Yteohbfaechfliaa
open Go.RowKit

def orL : List Int → Int
  | [] => 0
  | z :: r => if z = 0 then orL r else z
theorem orL2 (a b : Int) : orL [a, b] = or2 a b := by unfold orL or2; simp only [orL]; split <;> (try split) <;> omega
theorem orL3 (a b c : Int) : orL [a, b, c] = or2 a (or2 b c) := by unfold or2; simp only [orL]; split <;> (try split) <;> (try split) <;> omega

theorem Box.ints {w : World} {B : Nat} {S : TypeId} {l : List Int} (h : Box w B S (l.map fun x => .int .i64 x)) (hl : l.length ≤ 1000) : Row [] w (Sl.mk (some ⟨B, 0, none⟩) l.length l.length) 1 (l.map fun x => [.int .i64 x]) := by
  refine ⟨by simp, Nat.le_refl _, by simp only [maxLen]; omega, fun i hi => ⟨⟨B, 0, none⟩, rfl, by simp, fun j v hj => ?_, ?_⟩⟩
  · simp only [List.length_map] at hi
    have e : (l.map fun x => [Value.int .i64 x]).getD i [] = [.int .i64 (l[i])] := by simp [List.getD_eq_getElem?_getD, hi]
    rw [e] at hj
    cases j with
    | succ j => simp at hj
    | zero =>
      simp only [List.getElem?_cons_zero, Option.some.injEq] at hj
      subst hj
      rw [Addr.add_add, Addr.add_lit, Nat.mul_one, Nat.add_zero, Nat.zero_add]
      exact h.cell i _ (by simp [hi])
  · simp only [List.length_map] at hi
    simp [List.getD_eq_getElem?_getD, hi]
theorem lexM_end {α β : Type} (c : α → β → Int) : ∀ (l : List α) (m : List β), (l = [] ∨ m = []) → lexM c l m = cmpI (l.length : Int) (m.length : Int)
  | [], [], _ => rfl
  | [], y :: ys, _ => by unfold lexM cmpI; rw [if_pos (by simp only [List.length_cons, List.length_nil]; omega)]
  | x :: xs, [], _ => by unfold lexM cmpI; rw [if_neg (by simp only [List.length_cons, List.length_nil]; omega), if_pos (by simp only [List.length_cons, List.length_nil]; omega)]
  | _ :: _, _ :: _, h => by simp at h
theorem or2_zero (a : Int) : or2 0 a = a := if_pos rfl
theorem or2_ne {a : Int} (b : Int) (h : a ≠ 0) : or2 a b = a := if_neg h
theorem lexM_step {α β : Type} (c : α → β → Int) (x : α) (y : β) (xs : List α) (ys : List β) : lexM c (x :: xs) (y :: ys) = or2 (c x y) (lexM c xs ys) := rfl
theorem drop_at {α : Type} (l : List α) (d : α) {k : Nat} (h : k < l.length) : l.drop k = l.getD k d :: l.drop (k + 1) := by
  rw [List.drop_eq_getElem_cons h, List.getD_eq_getElem?_getD, List.getElem?_eq_getElem h]; rfl
/-- Behind the loop. -/
theorem lexM_exit {α β : Type} (c : α → β → Int) (l : List α) (m : List β) (x : Int) (k : Nat) (hl : k ≤ l.length) (hm : k ≤ m.length) (h : x ≠ 0 ∨ k = l.length ∨ k = m.length) : or2 x (lexM c (l.drop k) (m.drop k)) = or2 x (cmpI (l.length : Int) (m.length : Int)) := by
  by_cases hx : x = 0
  · subst hx
    have hd : l.drop k = [] ∨ m.drop k = [] := by
      rcases h with h | h | h
      · exact absurd rfl h
      · left; rw [h]; exact List.drop_length
      · right; rw [h]; exact List.drop_length
    rw [or2_zero, or2_zero, lexM_end c _ _ hd]
    simp only [List.length_drop, cmpI]
    have e1 : (((l.length - k : Nat) : Int) < ((m.length - k : Nat) : Int)) ↔ ((l.length : Int) < (m.length : Int)) := by omega
    have e2 : (((m.length - k : Nat) : Int) < ((l.length - k : Nat) : Int)) ↔ ((m.length : Int) < (l.length : Int)) := by omega
    simp only [e1, e2]
  · rw [or2_ne _ hx, or2_ne _ hx]

end Go.Proofs.Yteohbfaechfliaa
