/-
  The sum of bytes as a plain function on numbers; no program is in sight.
-/
namespace Go.Proofs.Ytanhcenminbkmaa.Crc

/-- One bit. -/
def bit (s : Nat) : Nat := if s % 2 = 1 then (s / 2) ^^^ 3988292384 else s / 2
/-- So many bits. -/
def bitsN : Nat → Nat → Nat
  | 0, s => s
  | n + 1, s => bit (bitsN n s)
/-- One byte. -/
def byte (s : Nat) (x : UInt8) : Nat := bitsN 8 (s ^^^ x.toNat)
/-- All bytes. -/
def all (s : Nat) (l : List UInt8) : Nat := l.foldl byte s
def ones : Nat := 4294967295
def not32 (s : Nat) : Nat := ones ^^^ s
/-- More: the sum with more bytes behind. -/
def more (s : Nat) (l : List UInt8) : Nat := not32 (all (not32 s) l)

theorem xor_lt {a b : Nat} (ha : a < 4294967296) (hb : b < 4294967296) : a ^^^ b < 4294967296 :=
  Nat.xor_lt_two_pow (n := 32) ha hb
theorem bit_lt {s : Nat} (h : s < 4294967296) : bit s < 4294967296 := by
  unfold bit; split
  · exact xor_lt (by omega) (by decide)
  · omega
theorem bitsN_lt (n : Nat) {s : Nat} (h : s < 4294967296) : bitsN n s < 4294967296 := by
  induction n with
  | zero => exact h
  | succ n ih => exact bit_lt ih
theorem byte_lt {s : Nat} (h : s < 4294967296) (x : UInt8) : byte s x < 4294967296 :=
  bitsN_lt 8 (xor_lt h (by have := x.toNat_lt; omega))
theorem all_lt {s : Nat} (h : s < 4294967296) (l : List UInt8) : all s l < 4294967296 := by
  induction l generalizing s with
  | nil => exact h
  | cons x l ih => exact ih (byte_lt h x)
theorem not32_lt {s : Nat} (h : s < 4294967296) : not32 s < 4294967296 := xor_lt (a := ones) (by decide) h
theorem more_lt {s : Nat} (h : s < 4294967296) (l : List UInt8) : more s l < 4294967296 := not32_lt (all_lt (not32_lt h) l)
theorem xor_xor (c s : Nat) : c ^^^ (c ^^^ s) = s := by rw [← Nat.xor_assoc, Nat.xor_self, Nat.zero_xor]
theorem not32_eq (s : Nat) : not32 s = ones ^^^ s := rfl
theorem not32_not32 (s : Nat) : not32 (not32 s) = s := by rw [not32_eq, not32_eq, xor_xor]
theorem all_append (s : Nat) (a b : List UInt8) : all s (a ++ b) = all (all s a) b := by simp [all, List.foldl_append]
theorem more_append (s : Nat) (a b : List UInt8) : more s (a ++ b) = more (more s a) b := by
  unfold more; rw [all_append, not32_not32]
theorem more_nil (s : Nat) : more s [] = s := by unfold more; exact not32_not32 s
theorem all_snoc (s : Nat) (l : List UInt8) (x : UInt8) : all s (l ++ [x]) = byte (all s l) x := by simp [all]

end Go.Proofs.Ytanhcenminbkmaa.Crc
