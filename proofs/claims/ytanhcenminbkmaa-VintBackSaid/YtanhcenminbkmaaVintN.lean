/-
  Numbers in few bytes, plainly.
-/
import Derived.Test.YtanhcenminbkmaaRdB
namespace Go.Proofs.Ytanhcenminbkmaa.Vint

def put (v : Nat) : List UInt8 := if 128 ≤ v then UInt8.ofNat (v % 128 + 128) :: put (v / 128) else [UInt8.ofNat v]
termination_by v
decreasing_by omega
theorem put_big {v : Nat} (h : 128 ≤ v) : put v = UInt8.ofNat (v % 128 + 128) :: put (v / 128) := by rw [put, if_pos h]
theorem put_small {v : Nat} (h : v < 128) : put v = [UInt8.ofNat v] := by rw [put, if_neg (by omega)]
theorem put_ne (v : Nat) : put v ≠ [] := by
  by_cases h : 128 ≤ v
  · rw [put_big h]; simp
  · rw [put_small (by omega)]; simp
theorem put_le (n : Nat) : ∀ v, v < 128 ^ (n + 1) → (put v).length ≤ n + 1 := by
  induction n with
  | zero => intro v h; rw [put_small (by omega)]; simp
  | succ n ih =>
    intro v h
    by_cases hv : 128 ≤ v
    · rw [put_big hv]
      have := ih (v / 128) (by rw [Nat.div_lt_iff_lt_mul (by decide)]; rwa [Nat.pow_succ] at h)
      simp; omega
    · rw [put_small (by omega)]; simp
theorem put_ge (n : Nat) : ∀ v, 128 ^ n ≤ v → n + 1 ≤ (put v).length := by
  induction n with
  | zero => intro v _; have := List.length_pos_iff.2 (put_ne v); omega
  | succ n ih =>
    intro v h
    have h1 : 1 ≤ 128 ^ n := Nat.pos_of_ne_zero (by simp)
    have hv : 128 ≤ v := by rw [Nat.pow_succ] at h; omega
    rw [put_big hv]
    have := ih (v / 128) (by rw [Nat.le_div_iff_mul_le (by decide)]; rwa [Nat.pow_succ] at h)
    simp; omega
theorem put_most {v : Nat} (h : v < 18446744073709551616) : (put v).length ≤ 10 := put_le 9 v (Nat.lt_of_lt_of_le h (by decide))

/-- The number at place p, of which i bytes are read. -/
def get (p v i : Nat) : List UInt8 → Nat × Nat × Nat
  | [] => (0, 0, 9)
  | x :: r => if i = 9 ∧ 1 < x.toNat then (0, 0, 10) else if 128 ≤ x.toNat then get p (v + x.toNat % 128 * 2 ^ (7 * i)) (i + 1) r
    else if x.toNat = 0 ∧ 0 < i then (0, 0, 10) else (v + x.toNat * 2 ^ (7 * i), p + i + 1, 0)
def getAt (xs : List UInt8) (at_ : Int) : Nat × Nat × Nat := if at_ < 0 ∨ (xs.length : Int) < at_ then (0, 0, 1) else get at_.toNat 0 0 (xs.drop at_.toNat)
def getText (xs : List UInt8) (at_ most : Int) : List UInt8 × Nat × Nat :=
  if (getAt xs at_).2.2 ≠ 0 then ([], 0, (getAt xs at_).2.2) else if most < 0 ∨ most < (getAt xs at_).1 then ([], 0, 2) else if xs.length - (getAt xs at_).2.1 < (getAt xs at_).1 then ([], 0, 9)
  else ((xs.drop (getAt xs at_).2.1).take (getAt xs at_).1, (getAt xs at_).2.1 + (getAt xs at_).1, 0)

theorem pow7 (i : Nat) : 2 ^ (7 * (i + 1)) = 128 * 2 ^ (7 * i) := by rw [Nat.mul_add, Nat.pow_add]; omega
theorem get_ok (p : Nat) : ∀ (l : List UInt8) (v i : Nat), i ≤ 9 → v < 2 ^ (7 * i) → (get p v i l).1 < 18446744073709551616 ∧ (get p v i l).2.1 ≤ p + i + l.length ∧ ((get p v i l).2.2 = 0 → p + i < (get p v i l).2.1) := by
  intro l
  induction l with
  | nil => intro v i _ _; simp [get]
  | cons x r ih =>
    intro v i hi hv
    unfold get
    by_cases h1 : i = 9 ∧ 1 < x.toNat
    · rw [if_pos h1]; simp
    · rw [if_neg h1]
      by_cases h2 : 128 ≤ x.toNat
      · rw [if_pos h2]
        have := ih (v + x.toNat % 128 * 2 ^ (7 * i)) (i + 1) (by omega) (by
          rw [pow7]
          have : x.toNat % 128 * 2 ^ (7 * i) ≤ 127 * 2 ^ (7 * i) := Nat.mul_le_mul_right _ (by omega)
          omega)
        simp only [List.length_cons]
        refine ⟨this.1, by omega, fun h => by have := this.2.2 h; omega⟩
      · rw [if_neg h2]
        by_cases h3 : x.toNat = 0 ∧ 0 < i
        · rw [if_pos h3]; simp
        · rw [if_neg h3]
          refine ⟨?_, by simp only [List.length_cons]; omega, fun _ => by dsimp only; omega⟩
          dsimp only
          by_cases h9 : i = 9
          · subst h9
            have : x.toNat * 2 ^ (7 * 9) ≤ 1 * 2 ^ (7 * 9) := Nat.mul_le_mul_right _ (by omega)
            omega
          · have hp : 2 ^ (7 * (i + 1)) ≤ 2 ^ 63 := Nat.pow_le_pow_right (by decide) (by omega)
            rw [pow7] at hp
            have : x.toNat * 2 ^ (7 * i) ≤ 127 * 2 ^ (7 * i) := Nat.mul_le_mul_right _ (by omega)
            omega
theorem getAt_ok {xs : List UInt8} {at_ : Int} : (getAt xs at_).1 < 18446744073709551616 ∧ (getAt xs at_).2.1 ≤ xs.length ∧ ((getAt xs at_).2.2 = 0 → 0 ≤ at_ ∧ at_ < (getAt xs at_).2.1) := by
  unfold getAt
  by_cases h : at_ < 0 ∨ (xs.length : Int) < at_
  · rw [if_pos h]; simp
  · rw [if_neg h]
    have := get_ok at_.toNat (xs.drop at_.toNat) 0 0 (by omega) (by decide)
    simp only [List.length_drop] at this
    exact ⟨this.1, by omega, fun e => by have := this.2.2 e; omega⟩

/-- What is put is read. -/
theorem get_put (p : Nat) (r : List UInt8) (x : Nat) : ∀ v i, i ≤ 9 → x * 2 ^ (7 * i) < 18446744073709551616 → (i = 0 ∨ 0 < x) → get p v i (put x ++ r) = (v + x * 2 ^ (7 * i), p + i + (put x).length, 0) := by
  induction x using put.induct with
  | case1 x hx ih =>
    intro v i hi hb h0
    rw [put_big hx, List.cons_append, get]
    have e : (UInt8.ofNat (x % 128 + 128)).toNat = x % 128 + 128 := by simp; omega
    have h9 : i ≠ 9 := by
      intro e; subst e
      have : 128 * 2 ^ (7 * 9) ≤ x * 2 ^ (7 * 9) := Nat.mul_le_mul_right _ hx
      omega
    have hd : x / 128 * 2 ^ (7 * (i + 1)) + x % 128 * 2 ^ (7 * i) = x * 2 ^ (7 * i) := by
      rw [pow7, ← Nat.mul_assoc, ← Nat.add_mul]; congr 1; omega
    rw [if_neg (by omega), e, if_pos (by omega), ih _ (i + 1) (by omega) (by omega) (by omega), show (x % 128 + 128) % 128 = x % 128 by omega]
    simp only [List.length_cons]
    refine Prod.ext (by dsimp only; omega) (Prod.ext (by dsimp only; omega) rfl)
  | case2 x hx =>
    intro v i hi hb h0
    have hlt : x < 128 := by omega
    have e : (UInt8.ofNat x).toNat = x := by simp; omega
    have h9 : ¬ (i = 9 ∧ 1 < x) := by
      rintro ⟨rfl, h⟩
      have : 2 * 2 ^ (7 * 9) ≤ x * 2 ^ (7 * 9) := Nat.mul_le_mul_right _ h
      omega
    rw [put_small hlt, List.singleton_append, get, e, if_neg h9, if_neg hx, if_neg (by omega)]
    rfl
theorem getAt_put (a r : List UInt8) {x : Nat} (hx : x < 18446744073709551616) : getAt (a ++ (put x ++ r)) (a.length : Int) = (x, a.length + (put x).length, 0) := by
  unfold getAt
  rw [if_neg (by simp; omega), Int.toNat_natCast, List.drop_left, get_put _ _ _ _ _ (by omega) (by simpa using hx) (.inl rfl)]
  simp
theorem getAt_end (a : List UInt8) : getAt a (a.length : Int) = (0, 0, 9) := by
  unfold getAt
  rw [if_neg (by omega), Int.toNat_natCast, List.drop_length]; rfl
end Go.Proofs.Ytanhcenminbkmaa.Vint
