/-
  crc.More, crc.Of and the reference's More compute the plain sum, and write nothing.
-/
import Derived.Test.YtanhcenminbkmaaG1
import Derived.Test.YtanhcenminbkmaaG2
import Derived.Test.YtanhcenminbkmaaG3
import Derived.Test.YtanhcenminbkmaaRdB
import Derived.Test.YtanhcenminbkmaaCrcN
namespace Go.Proofs.Ytanhcenminbkmaa
open Go.RowKit

theorem bx32 {a b : Nat} (ha : a < 4294967296) (hb : b < 4294967296) : bits .xor .u32 (a : Int) (b : Int) = ((a ^^^ b : Nat) : Int) := u32_xor_nat a b ha hb
theorem bx32_ones (s : Nat) (hs : s < 4294967296) : bits .xor .u32 IntKind.u32.max (s : Int) = ((Crc.not32 s : Nat) : Int) := by
  have e : IntKind.u32.max = ((Crc.ones : Nat) : Int) := by decide
  rw [e, bx32 (by decide) hs, Crc.not32_eq]
theorem bx32_ones' (s : Nat) (hs : s < 4294967296) : bits .xor .u32 (s : Int) 4294967295 = ((Crc.not32 s : Nat) : Int) := by
  have e : (4294967295 : Int) = ((Crc.ones : Nat) : Int) := by decide
  rw [e, bx32 hs (by decide), Crc.not32_eq, Nat.xor_comm]
theorem bx32_byte (s : Nat) (hs : s < 4294967296) (x : UInt8) : bits .xor .u32 (s : Int) (IntKind.u32.wrap (x.toNat : Int)) = ((s ^^^ x.toNat : Nat) : Int) := by
  have h := x.toNat_lt
  rw [IntKind.wrap_u32, show ((x.toNat : Int) % 4294967296) = ((x.toNat : Nat) : Int) by omega, bx32 hs (by omega)]
theorem band32_1 (s : Nat) (hs : s < 4294967296) : bits .and .u32 (s : Int) 1 = ((s % 2 : Nat) : Int) := by
  have := u32_and_nat s 1 hs (by omega)
  rw [show ((1 : Nat) : Int) = 1 from rfl] at this
  rw [this, nat_mask1]
theorem take_snoc8 (l : List UInt8) (k : Nat) (h : k < l.length) : l.take (k + 1) = l.take k ++ [l.getD k 0] := by
  rw [List.take_succ_eq_append_getElem h]; simp [List.getD_eq_getElem?_getD, List.getElem?_eq_getElem h]
/-- One round of eight. -/
theorem bit_step (s : Nat) (hs : s < 4294967296) :
    (bif decide ((bits .and .u32 (s : Int) 1) = 1) then bits .xor .u32 ((s : Int) / 2 ^ 1) 3988292384 else (s : Int) / 2 ^ 1) = ((Crc.bit s : Nat) : Int) := by
  rw [band32_1 s hs]
  have hd : (s : Int) / 2 ^ 1 = ((s / 2 : Nat) : Int) := by omega
  rw [hd]
  by_cases h : s % 2 = 1
  · have h1 : ((s % 2 : Nat) : Int) = 1 := by omega
    have hx := bx32 (a := s / 2) (b := 3988292384) (by omega) (by decide)
    rw [show ((3988292384 : Nat) : Int) = 3988292384 from rfl] at hx
    rw [decide_eq_true h1]; simp only [cond_true]; rw [hx, Crc.bit, if_pos h]
  · have h1 : ¬ ((s % 2 : Nat) : Int) = 1 := by omega
    rw [decide_eq_false h1]; simp only [cond_false]; rw [Crc.bit, if_neg h]

theorem crcMore {A : List Nat} {w : World} {b : Sl} {xs : List UInt8} (s : Nat) (hs : s < 4294967296) (h : RdB A w b xs) :
    Calls Try.prog 12 #[.int .u32 (s : Int), b.v] w (Ret fun v w' => Ext w w' ∧ v = .int .u32 ((Crc.more s xs : Nat) : Int)) := by
  refine crc_More.ok _ _ ?_
  have hl := h.len
  have hm := h.most
  unfold crc_More.vc
  refine ⟨fun t i w1 => ∃ k : Nat, k ≤ xs.length ∧ i = (k : Int) ∧ t = ((Crc.all (Crc.not32 s) (xs.take k) : Nat) : Int) ∧ Ext w w1, fun t i _ => xs.length - i.toNat,
    ⟨0, Nat.zero_le _, rfl, by rw [bx32_ones s hs]; rfl, Chg.refl _ _⟩, ?_⟩
  rintro _ _ w1 ⟨k, hk, rfl, rfl, hE⟩
  have ht := Crc.all_lt (Crc.not32_lt hs) (xs.take k)
  refine ⟨fun hlt => ?_, fun hge => ?_⟩
  · obtain ⟨p, hp, _, hc⟩ := (h.ext hE).at (i := (k : Int)) (by omega) hlt
    refine ⟨⟨by omega, hlt⟩, p, hp, _, hc, ?_⟩
    rw [bx32_byte _ ht]
    refine ⟨fun u j w2 => ∃ n : Nat, n ≤ 8 ∧ j = (n : Int) ∧ u = ((Crc.bitsN n (Crc.all (Crc.not32 s) (xs.take k) ^^^ (xs.getD k 0).toNat) : Nat) : Int) ∧ Ext w w2, fun _ j _ => 8 - j.toNat,
      ⟨0, by omega, rfl, rfl, hE⟩, ?_⟩
    rintro _ _ w2 ⟨n, hn, rfl, rfl, hE2⟩
    have hx := Crc.xor_lt ht (show (xs.getD k 0).toNat < 4294967296 by have := (xs.getD k 0).toNat_lt; omega)
    have hb := Crc.bitsN_lt n hx
    refine ⟨fun h8 => ⟨⟨by omega, by omega⟩, ⟨n + 1, by omega, by omega, ?_, hE2⟩, by dsimp only; omega⟩, fun h8 => ⟨⟨by omega, by omega⟩, ⟨k + 1, by omega, by omega, ?_, hE2⟩, by dsimp only; omega⟩⟩
    · rw [bit_step _ hb]; rfl
    · rw [take_snoc8 xs k (by omega), Crc.all_snoc, show n = 8 by omega]; rfl
  · refine ⟨hE, ?_⟩
    rw [bx32_ones _ ht, List.take_of_length_le (by omega)]
    rfl

theorem refMore {A : List Nat} {w : World} {b : Sl} {xs : List UInt8} (s : Nat) (hs : s < 4294967296) (h : RdB A w b xs) :
    Calls Try.prog 13 #[.int .u32 (s : Int), b.v] w (Ret fun v w' => Ext w w' ∧ v = .int .u32 ((Crc.more s xs : Nat) : Int)) := by
  refine ref02_More.ok _ _ ?_
  have hl := h.len
  have hm := h.most
  unfold ref02_More.vc
  refine ⟨fun t i w1 => ∃ k : Nat, k ≤ xs.length ∧ i = (k : Int) ∧ t = ((Crc.all (Crc.not32 s) (xs.take k) : Nat) : Int) ∧ Ext w w1, fun t i _ => xs.length - i.toNat,
    ⟨0, Nat.zero_le _, rfl, by rw [bx32_ones' s hs]; rfl, Chg.refl _ _⟩, ?_⟩
  rintro _ _ w1 ⟨k, hk, rfl, rfl, hE⟩
  have ht := Crc.all_lt (Crc.not32_lt hs) (xs.take k)
  refine ⟨fun hlt => ?_, fun hge => ?_⟩
  · obtain ⟨p, hp, _, hc⟩ := (h.ext hE).at (i := (k : Int)) (by omega) hlt
    refine ⟨⟨by omega, hlt⟩, p, hp, _, hc, ?_⟩
    rw [bx32_byte _ ht]
    refine ⟨fun u j w2 => ∃ n : Nat, n ≤ 8 ∧ j = (n : Int) ∧ u = ((Crc.bitsN n (Crc.all (Crc.not32 s) (xs.take k) ^^^ (xs.getD k 0).toNat) : Nat) : Int) ∧ Ext w w2, fun _ j _ => 8 - j.toNat,
      ⟨0, by omega, rfl, rfl, hE⟩, ?_⟩
    rintro _ _ w2 ⟨n, hn, rfl, rfl, hE2⟩
    have hx := Crc.xor_lt ht (show (xs.getD k 0).toNat < 4294967296 by have := (xs.getD k 0).toNat_lt; omega)
    have hb := Crc.bitsN_lt n hx
    refine ⟨fun h8 => ⟨⟨by omega, by omega⟩, ⟨n + 1, by omega, by omega, ?_, hE2⟩, by dsimp only; omega⟩, fun h8 => ⟨⟨by omega, by omega⟩, ⟨k + 1, by omega, by omega, ?_, hE2⟩, by dsimp only; omega⟩⟩
    · rw [bit_step _ hb]; rfl
    · rw [take_snoc8 xs k (by omega), Crc.all_snoc, show n = 8 by omega]; rfl
  · refine ⟨hE, ?_⟩
    rw [bx32_ones' _ ht, List.take_of_length_le (by omega)]
    rfl

theorem crcOf {A : List Nat} {w : World} {b : Sl} {xs : List UInt8} (h : RdB A w b xs) :
    Calls Try.prog 14 #[b.v] w (Ret fun v w' => Ext w w' ∧ v = .int .u32 ((Crc.more 0 xs : Nat) : Int)) := by
  refine crc_Of.ok _ ?_
  unfold crc_Of.vc
  exact CallK.exact (crcMore 0 (by decide) h) fun w' hE => ⟨_, rfl, hE, rfl⟩

/-- A copy in new memory, or nothing for nothing. -/
theorem bytesCopy {A : List Nat} {w : World} {b : Sl} {xs : List UInt8} (h : RdB A w b xs) (hsize : xs.length ≤ 140737488355328) (A' : List Nat) (hA : ∀ x ∈ A', x < w.heap.size) :
    Calls Try.prog 11 #[b.v] w (Ret fun v w' => Ext w w' ∧ ∃ s : Sl, v = s.v ∧ OwnB A' w' s 5 xs ∧ ∀ x ∈ s.blk, w.heap.size ≤ x) := by
  refine law00_Bytes.ok _ ?_
  unfold law00_Bytes.vc
  have hl := h.len
  cases hx : xs with
  | nil =>
    have e := append_none (P := Try.prog) (w := w) (s := Sl.nil) (x := b) (t := 23) (ty := 23) Try.underlying23 ti_5 (Nat.le_refl _) (by rw [hl, hx]; rfl)
    exact ⟨_, _, e, fun _ _ _ => rfl, Nat.le_refl _, Sl.nil, rfl, Chg.refl _ _, Sl.nil, rfl, Own.nil _ _ _ _, by simp [Sl.blk]⟩
  | cons x r =>
    obtain ⟨s', w', hr, ho, hc, hb⟩ := append_app (P := Try.prog) (A := A') (w := w) (s := Sl.nil) (x := b) (t := 23) (ty := 23) (vs := []) (us := xs.map bc) Try.underlying23 ti_5 rfl (by decide)
      (.inl (Own.nil _ _ _ _)) hA (h.less (by simp)) (ones_bc xs) (by rw [hx]; simp) (by simp [maxLen]; omega) (by simp; omega)
    have hE : Ext w w' := hc
    exact ⟨_, _, hr, hE.noTouch _, hE.size, s', rfl, hE, s', rfl, by rw [← hx]; exact ho, fun y hy => (hb y hy).elim (fun h' => by simp [Sl.own, Sl.nil] at h') (fun h' => h')⟩

end Go.Proofs.Ytanhcenminbkmaa
