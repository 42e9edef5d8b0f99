/-
  What the proof of the statement leans on: texts one behind the other.
-/
import Derived.Test.YteacalmdpoblpaaGreatQCodecBaseGcrc
import Derived.Test.YteacalmdpoblpaaGreatQCodecBaseGlaw00P1
import Derived.Test.YteacalmdpoblpaaGreatQCodecBaseGlaw00P2
import Derived.Test.YteacalmdpoblpaaGreatQCodecBase0
import Derived.Test.YteacalmdpoblpaaGreatQCodecBaseGvint
import Derived.Test.YteacalmdpoblpaaGreatRows
import Derived.Test.YteacalmdpoblpaaGreatQCodecBaseGapply
import Derived.Test.YteacalmdpoblpaaGreatQCodecBaseGcodecP1
import Derived.Test.YteacalmdpoblpaaGreatQCodecBaseGcodecP2
import Derived.Test.YteacalmdpoblpaaGreatQCodecBaseGcodecP3
import Derived.Test.YteacalmdpoblpaaGreatQCodecBaseGbits
import Derived.Test.YteacalmdpoblpaaGreatQCodecBaseGlaw24awake
import Derived.Test.YteacalmdpoblpaaGreatQCodecBaseGtree
import Derived.WalkKit
import Derived.ProofKit
import Derived.OpenShut
import Derived.JoinedCond
import Derived.Below
import Derived.Carry
import Derived.ChangeSlices
import Derived.ChangeMaps5
import Derived.MapKept
import Derived.Laws.MakeOwn
namespace Go.Proofs.YteacalmdpoblpaaGreat
section
open Go.RowKit
theorem bx32 {a b : Nat} (ha : a < 4294967296) (hb : b < 4294967296) : bits .xor .u32 (a : Int) (b : Int) = ((a ^^^ b : Nat) : Int) := u32_xor_nat a b ha hb
theorem bx32_ones (s : Nat) (hs : s < 4294967296) : bits .xor .u32 IntKind.u32.max (s : Int) = ((Crc.not32 s : Nat) : Int) := by
 have e : IntKind.u32.max = ((Crc.ones : Nat) : Int) := by decide
 rw [e, bx32 (by decide) hs, Crc.not32_eq]
theorem bx32_byte (s : Nat) (hs : s < 4294967296) (x : UInt8) : bits .xor .u32 (s : Int) (IntKind.u32.wrap (x.toNat : Int)) = ((s ^^^ x.toNat : Nat) : Int) := by
 have h := x.toNat_lt
 rw [IntKind.wrap_u32, show ((x.toNat : Int) % 4294967296) = ((x.toNat : Nat) : Int) by omega, bx32 hs (by omega)]
theorem band32_1 (s : Nat) (hs : s < 4294967296) : bits .and .u32 (s : Int) 1 = ((s % 2 : Nat) : Int) := by
 have := u32_and_nat s 1 hs (by omega)
 rw [show ((1 : Nat) : Int) = 1 from rfl] at this
 rw [this, nat_mask1]
theorem take_snoc8 (l : List UInt8) (k : Nat) (h : k < l.length) : l.take (k + 1) = l.take k ++ [l.getD k 0] := by
 rw [List.take_succ_eq_append_getElem h]; simp [List.getD_eq_getElem?_getD, List.getElem?_eq_getElem h]
theorem bit_step (s : Nat) (hs : s < 4294967296) :
  (bif decide ((bits .and .u32 (s : Int) 1) = 1) then bits .xor .u32 ((s : Int) / 2 ^ 1) 3988292384 else (s : Int) / 2 ^ 1) = ((Crc.bit s : Nat) : Int) := by
 rw [band32_1 s hs]
 have hd : (s : Int) / 2 ^ 1 = ((s / 2 : Nat) : Int) := by omega
 rw [hd]
 by_cases h : s % 2 = 1
 ·have h1 : ((s % 2 : Nat) : Int) = 1 := by omega
  have hx := bx32 (a := s / 2) (b := 3988292384) (by omega) (by decide)
  rw [show ((3988292384 : Nat) : Int) = 3988292384 from rfl] at hx
  rw [decide_eq_true h1]; simp only [cond_true]; rw [hx, Crc.bit, if_pos h]
 ·have h1 : ¬ ((s % 2 : Nat) : Int) = 1 := by omega
  rw [decide_eq_false h1]; simp only [cond_false]; rw [Crc.bit, if_neg h]
theorem crcMore {A : List Nat} {w : World} {b : Sl} {xs : List UInt8} (s : Nat) (hs : s < 4294967296) (h : RdB A w b xs) :
  Calls Tryz.prog 111 #[.int .u32 (s : Int), b.v] w (Ret fun v w' => Ext w w' ∧ v = .int .u32 ((Crc.more s xs : Nat) : Int)) := by
 refine crc_More.ok _ _ ?_
 have hl := h.len
 have hm := h.most
 unfold crc_More.vc
 refine ⟨fun t i w1 => ∃ k : Nat, k ≤ xs.length ∧ i = (k : Int) ∧ t = ((Crc.all (Crc.not32 s) (xs.take k) : Nat) : Int) ∧ Ext w w1, fun t i _ => xs.length - i.toNat,
  ⟨0, Nat.zero_le _, rfl, by rw [bx32_ones s hs]; rfl, Chg.refl _ _⟩, ?_⟩
 rintro _ _ w1 ⟨k, hk, rfl, rfl, hE⟩
 have ht := Crc.all_lt (Crc.not32_lt hs) (xs.take k)
 refine ⟨fun hlt => ?_, fun hge => ?_⟩
 ·obtain ⟨p, hp, _, hc⟩ := (h.ext hE).at (i := (k : Int)) (by omega) hlt
  refine ⟨⟨by omega, hlt⟩, p, hp, _, hc, ?_⟩
  rw [bx32_byte _ ht]
  refine ⟨fun u j w2 => ∃ n : Nat, n ≤ 8 ∧ j = (n : Int) ∧ u = ((Crc.bitsN n (Crc.all (Crc.not32 s) (xs.take k) ^^^ (xs.getD k 0).toNat) : Nat) : Int) ∧ Ext w w2, fun _ j _ => 8 - j.toNat,
   ⟨0, by omega, rfl, rfl, hE⟩, ?_⟩
  rintro _ _ w2 ⟨n, hn, rfl, rfl, hE2⟩
  have hx := Crc.xor_lt ht (show (xs.getD k 0).toNat < 4294967296 by have := (xs.getD k 0).toNat_lt; omega)
  have hb := Crc.bitsN_lt n hx
  refine ⟨fun h8 => ⟨⟨by omega, by omega⟩, ⟨n + 1, by omega, by omega, ?_, hE2⟩, by dsimp only; omega⟩, fun h8 => ⟨⟨by omega, by omega⟩, ⟨k + 1, by omega, by omega, ?_, hE2⟩, by dsimp only; omega⟩⟩
  ·rw [bit_step _ hb]; rfl
  ·rw [take_snoc8 xs k (by omega), Crc.all_snoc, show n = 8 by omega]; rfl
 ·refine ⟨hE, ?_⟩
  rw [bx32_ones _ ht, List.take_of_length_le (by omega)]
  rfl
theorem crcOf {A : List Nat} {w : World} {b : Sl} {xs : List UInt8} (h : RdB A w b xs) :
  Calls Tryz.prog 53 #[b.v] w (Ret fun v w' => Ext w w' ∧ v = .int .u32 ((Crc.more 0 xs : Nat) : Int)) := by
 refine crc_Of.ok _ ?_
 unfold crc_Of.vc
 exact CallK.exact (crcMore 0 (by decide) h) fun w' hE => ⟨_, rfl, hE, rfl⟩
end
section
open Go.RowKit
theorem place {w : World} (v n : Int) (hn : 0 < n) (hn63 : n ≤ 9223372036854775807) : Calls Tryz.prog 10 #[.int .i64 v, .int .i64 n] w (Ret fun u w' => Ext w w' ∧ u = .int .i64 (v.emod n)) := by
 refine law00_Place.ok _ _ ?_
 unfold law00_Place.vc
 have h1 := Int.tmod_eq_emod (a := v) (b := n)
 have h2 := Int.emod_nonneg v (show n ≠ 0 by omega)
 have h3 := Int.emod_lt_of_pos v hn
 have h4 : (((if 0 ≤ v ∨ n ∣ v then 0 else n.natAbs : Nat)) : Int) = 0 ∨ (((if 0 ≤ v ∨ n ∣ v then 0 else n.natAbs : Nat)) : Int) = n := by
  split
  ·exact .inl rfl
  ·right; omega
 generalize (((if 0 ≤ v ∨ n ∣ v then 0 else n.natAbs : Nat)) : Int) = q at h1 h4
 refine ⟨by omega, fun h => ⟨⟨by omega, by omega⟩, Chg.refl _ _, ?_⟩, fun h => ⟨Chg.refl _ _, ?_⟩⟩
 ·show Value.int .i64 _ = Value.int .i64 (v % n)
  rw [show v.tmod n + n = v % n by omega]
 ·show Value.int .i64 _ = Value.int .i64 (v % n)
  rw [show v.tmod n = v % n by omega]
end
section
open Go.RowKit
theorem u8Slice : Tryz.prog.underlying 27 = some (.slice 5) := Tryz.underlying27
end
section
namespace Vint
def put (v : Nat) : List UInt8 := if 128 ≤ v then UInt8.ofNat (v % 128 + 128) :: put (v / 128) else [UInt8.ofNat v]
termination_by v
decreasing_by omega
theorem put_big {v : Nat} (h : 128 ≤ v) : put v = UInt8.ofNat (v % 128 + 128) :: put (v / 128) := by rw [put, if_pos h]
theorem put_small {v : Nat} (h : v < 128) : put v = [UInt8.ofNat v] := by rw [put, if_neg (by omega)]
theorem put_ne (v : Nat) : put v ≠ [] := by
 by_cases h : 128 ≤ v
 ·rw [put_big h]; simp
 ·rw [put_small (by omega)]; simp
theorem put_le (n : Nat) : ∀ v, v < 128 ^ (n + 1) → (put v).length ≤ n + 1 := by
 induction n with
 |zero => intro v h; rw [put_small (by omega)]; simp
 |succ n ih =>
  intro v h
  by_cases hv : 128 ≤ v
  ·rw [put_big hv]
   have := ih (v / 128) (by rw [Nat.div_lt_iff_lt_mul (by decide)]; rwa [Nat.pow_succ] at h)
   simp; omega
  ·rw [put_small (by omega)]; simp
theorem put_most {v : Nat} (h : v < 18446744073709551616) : (put v).length ≤ 10 := put_le 9 v (Nat.lt_of_lt_of_le h (by decide))
def get (p v i : Nat) : List UInt8 → Nat × Nat × Nat
 |[] => (0, 0, 9)
 |x :: r => if i = 9 ∧ 1 < x.toNat then (0, 0, 10) else if 128 ≤ x.toNat then get p (v + x.toNat % 128 * 2 ^ (7 * i)) (i + 1) r
  else if x.toNat = 0 ∧ 0 < i then (0, 0, 10) else (v + x.toNat * 2 ^ (7 * i), p + i + 1, 0)
def getAt (xs : List UInt8) (at_ : Int) : Nat × Nat × Nat := if at_ < 0 ∨ (xs.length : Int) < at_ then (0, 0, 1) else get at_.toNat 0 0 (xs.drop at_.toNat)
def getText (xs : List UInt8) (at_ most : Int) : List UInt8 × Nat × Nat :=
 if (getAt xs at_).2.2 ≠ 0 then ([], 0, (getAt xs at_).2.2) else if most < 0 ∨ most < (getAt xs at_).1 then ([], 0, 2) else if xs.length - (getAt xs at_).2.1 < (getAt xs at_).1 then ([], 0, 9)
 else ((xs.drop (getAt xs at_).2.1).take (getAt xs at_).1, (getAt xs at_).2.1 + (getAt xs at_).1, 0)
theorem pow7 (i : Nat) : 2 ^ (7 * (i + 1)) = 128 * 2 ^ (7 * i) := by rw [Nat.mul_add, Nat.pow_add]; omega
theorem get_ok (p : Nat) : ∀ (l : List UInt8) (v i : Nat), i ≤ 9 → v < 2 ^ (7 * i) → (get p v i l).1 < 18446744073709551616 ∧ (get p v i l).2.1 ≤ p + i + l.length ∧ ((get p v i l).2.2 = 0 → p + i < (get p v i l).2.1) := by
 intro l
 induction l with
 |nil => intro v i _ _; simp [get]
 |cons x r ih =>
  intro v i hi hv
  unfold get
  by_cases h1 : i = 9 ∧ 1 < x.toNat
  ·rw [if_pos h1]; simp
  ·rw [if_neg h1]
   by_cases h2 : 128 ≤ x.toNat
   ·rw [if_pos h2]
    have := ih (v + x.toNat % 128 * 2 ^ (7 * i)) (i + 1) (by omega) (by
     rw [pow7]
     have : x.toNat % 128 * 2 ^ (7 * i) ≤ 127 * 2 ^ (7 * i) := Nat.mul_le_mul_right _ (by omega)
     omega)
    simp only [List.length_cons]
    refine ⟨this.1, by omega, fun h => by have := this.2.2 h; omega⟩
   ·rw [if_neg h2]
    by_cases h3 : x.toNat = 0 ∧ 0 < i
    ·rw [if_pos h3]; simp
    ·rw [if_neg h3]
     refine ⟨?_, by simp only [List.length_cons]; omega, fun _ => by dsimp only; omega⟩
     dsimp only
     by_cases h9 : i = 9
     ·subst h9
      have : x.toNat * 2 ^ (7 * 9) ≤ 1 * 2 ^ (7 * 9) := Nat.mul_le_mul_right _ (by omega)
      omega
     ·have hp : 2 ^ (7 * (i + 1)) ≤ 2 ^ 63 := Nat.pow_le_pow_right (by decide) (by omega)
      rw [pow7] at hp
      have : x.toNat * 2 ^ (7 * i) ≤ 127 * 2 ^ (7 * i) := Nat.mul_le_mul_right _ (by omega)
      omega
theorem getAt_ok {xs : List UInt8} {at_ : Int} : (getAt xs at_).1 < 18446744073709551616 ∧ (getAt xs at_).2.1 ≤ xs.length ∧ ((getAt xs at_).2.2 = 0 → 0 ≤ at_ ∧ at_ < (getAt xs at_).2.1) := by
 unfold getAt
 by_cases h : at_ < 0 ∨ (xs.length : Int) < at_
 ·rw [if_pos h]; simp
 ·rw [if_neg h]
  have := get_ok at_.toNat (xs.drop at_.toNat) 0 0 (by omega) (by decide)
  simp only [List.length_drop] at this
  exact ⟨this.1, by omega, fun e => by have := this.2.2 e; omega⟩
theorem get_put (p : Nat) (r : List UInt8) (x : Nat) : ∀ v i, i ≤ 9 → x * 2 ^ (7 * i) < 18446744073709551616 → (i = 0 ∨ 0 < x) → get p v i (put x ++ r) = (v + x * 2 ^ (7 * i), p + i + (put x).length, 0) := by
 induction x using put.induct with
 |case1 x hx ih =>
  intro v i hi hb h0
  rw [put_big hx, List.cons_append, get]
  have e : (UInt8.ofNat (x % 128 + 128)).toNat = x % 128 + 128 := by simp; omega
  have h9 : i ≠ 9 := by
   intro e; subst e
   have : 128 * 2 ^ (7 * 9) ≤ x * 2 ^ (7 * 9) := Nat.mul_le_mul_right _ hx
   omega
  have hd : x / 128 * 2 ^ (7 * (i + 1)) + x % 128 * 2 ^ (7 * i) = x * 2 ^ (7 * i) := by
   rw [pow7, ← Nat.mul_assoc, ← Nat.add_mul]; congr 1; omega
  rw [if_neg (by omega), e, if_pos (by omega), ih _ (i + 1) (by omega) (by omega) (by omega), show (x % 128 + 128) % 128 = x % 128 by omega]
  simp only [List.length_cons]
  refine Prod.ext (by dsimp only; omega) (Prod.ext (by dsimp only; omega) rfl)
 |case2 x hx =>
  intro v i hi hb h0
  have hlt : x < 128 := by omega
  have e : (UInt8.ofNat x).toNat = x := by simp; omega
  have h9 : ¬ (i = 9 ∧ 1 < x) := by
   rintro ⟨rfl, h⟩
   have : 2 * 2 ^ (7 * 9) ≤ x * 2 ^ (7 * 9) := Nat.mul_le_mul_right _ h
   omega
  rw [put_small hlt, List.singleton_append, get, e, if_neg h9, if_neg hx, if_neg (by omega)]
  rfl
theorem getAt_put (a r : List UInt8) {x : Nat} (hx : x < 18446744073709551616) : getAt (a ++ (put x ++ r)) (a.length : Int) = (x, a.length + (put x).length, 0) := by
 unfold getAt
 rw [if_neg (by simp; omega), Int.toNat_natCast, List.drop_left, get_put _ _ _ _ _ (by omega) (by simpa using hx) (.inl rfl)]
 simp
end Vint
end
section
open Go.RowKit
theorem appendO {w : World} {s x : Sl} {xs ys : List UInt8} (h : AppB [] w s 5 xs) (hx : RdB [] w x ys) (hy : ys ≠ []) (hb : xs.length + ys.length ≤ 140737488355328) :
  ∃ s' w', (Builtin.append_ #[27, 27] 27 #[s.v, x.v]).run Tryz.prog w = .ok (Sl.v s') w' ∧ OwnB [] w' s' 5 (xs ++ ys) ∧ Chg s.own w w' ∧ (∀ b ∈ s'.blk, b ∈ s.own ∨ w.heap.size ≤ b) := by
 have hl := h.rd.len
 obtain ⟨s', w', hr, ho, hch, hbl⟩ := append_app (P := Tryz.prog) (A := []) (w := w) (s := s) (x := x) (t := 27) (ty := 27) (vs := xs.map bc) (us := ys.map bc) u8Slice ti_5 rfl (by decide) h (by simp) hx (ones_bc ys)
  (by simpa using hy) (by rw [hl]; simp [maxLen]; omega) (by rw [hl]; simp; omega)
 rw [← List.map_append] at ho
 exact ⟨s', w', hr, ho, hch.mono (fun b hb => (List.mem_filter.1 hb).1), hbl⟩
theorem appendOne {w w1 : World} {s : Sl} {B : Nat} {T : TypeId} {v : Int} {xs : List UInt8} (y : UInt8) (h : AppB [] w s 5 xs) (hE : Ext w w1) (hB : Box w1 B T [.int .u8 v]) (hv : v = (y.toNat : Int)) (hb : xs.length + 1 ≤ 140737488355328) :
  ∃ s' w', (Builtin.append_ #[27, 27] 27 #[s.v, Sl.v ⟨some ⟨B, 0, none⟩, 1, 1⟩]).run Tryz.prog w1 = .ok (Sl.v s') w' ∧ OwnB [] w' s' 5 (xs ++ [y]) ∧ w1.heap.size ≤ w'.heap.size ∧ Chg s.own w w' ∧ (∀ b ∈ s'.blk, b ∈ s.own ∨ w.heap.size ≤ b) := by
 subst hv
 have hrd : RdB [] w1 ⟨some ⟨B, 0, none⟩, 1, 1⟩ [y] := Box.rdB (xs := [y]) hB (by simp [maxLen]) [] (by simp)
 have h' : AppB [] w1 s 5 xs := by
  rcases h with h | ⟨e, h⟩
  ·exact .inl (h.ext hE)
  ·exact .inr ⟨e, h.ext hE⟩
 obtain ⟨s', w', hr, ho, hc, hbl⟩ := appendO h' hrd (by simp) (by simpa using hb)
 exact ⟨s', w', hr, ho, hc.size, (Chg.ext hE).trans hc, fun b hb => (hbl b hb).imp_right (fun h => Nat.le_trans hE.size h)⟩
theorem or128 (a : Nat) (h : a < 256) : a ||| 128 = a % 128 + 128 := by
 have : ∀ a : Fin 256, a.val ||| 128 = a.val % 128 + 128 := by decide +kernel
 exact this ⟨a, h⟩
theorem toNat_ofNat_lt {n : Nat} (h : n < 256) : (UInt8.ofNat n).toNat = n := by simp; omega
theorem vintPut {A : List Nat} {w : World} {b : Sl} {xs : List UInt8} (v : Nat) (hv : v < 18446744073709551616) (h : RdB A w b xs) (hb : xs.length + 10 ≤ 140737488355328) :
  Calls Tryz.prog 27 #[b.v, .int .u64 (v : Int)] w (Ret fun u w' => Ext w w' ∧ ∃ s : Sl, u = s.v ∧ OwnB [] w' s 5 (xs ++ Vint.put v) ∧ ∀ x ∈ s.blk, w.heap.size ≤ x) := by
 refine vint_Put.ok _ _ ?_
 have hl := h.len
 have hm := h.most
 have hmost := Vint.put_most hv
 unfold vint_Put.vc
 rw [show ((b.n : Int)).toNat = b.n by omega]
 refine ⟨⟨by omega, by omega, by omega⟩, fun s u w1 => ∃ (pre : List UInt8) (n : Nat), u = (n : Int) ∧ n ≤ v ∧ pre ++ Vint.put n = Vint.put v ∧ AppB [] w1 s 5 (xs ++ pre) ∧ Ext w w1 ∧ (∀ x ∈ s.own, w.heap.size ≤ x), fun _ u _ => u.toNat,
  ⟨[], v, rfl, Nat.le_refl _, rfl, .inr ⟨rfl, ?_⟩, Chg.refl _ _, by rw [Sl.own_full rfl]; simp⟩, ?_⟩
 ·have := (h.less (A' := []) (by simp)).cut 0 b.n b.n (by omega) (by omega) (by omega) (by omega)
  rw [List.drop_zero, Nat.sub_zero, List.take_of_length_le (by omega)] at this
  rw [List.append_nil]; exact this
 rintro s _ w1 ⟨pre, n, rfl, hn, hpre, hA, hE, hown⟩
 have hpl : pre.length + 1 ≤ 10 := by
  have e := congrArg List.length hpre
  have := List.length_pos_iff.2 (Vint.put_ne n)
  simp at e; omega
 refine ⟨fun hbig w2 B hN hC hB => ?_, fun hsm w2 B hN hC hB => ?_⟩
 ·have hval : bits .or .u8 (IntKind.u8.wrap (n : Int)) 128 = (((UInt8.ofNat (n % 128 + 128)).toNat : Nat) : Int) := by
   rw [IntKind.wrap_u8, show ((n : Int) % 256) = ((n % 256 : Nat) : Int) by omega]
   have := u8_or_nat (n % 256) 128 (by omega) (by omega)
   rw [show ((128 : Nat) : Int) = 128 from rfl] at this
   rw [this, or128 _ (by omega), toNat_ofNat_lt (by omega)]; omega
  obtain ⟨s', w3, hr, ho, hsz, hc, hbl⟩ := appendOne _ hA hC hB hval (by simp; omega)
  have hE3 : Ext w w3 := Chg.fresh hE hc hown
  have hbl' : ∀ x ∈ s'.blk, w.heap.size ≤ x := fun x hx => (hbl x hx).elim (hown x) (fun h => Nat.le_trans hE.size h)
  refine ⟨_, _, hr, (fun _ hb => by cases hb), hsz, s', rfl, ⟨pre ++ [UInt8.ofNat (n % 128 + 128)], n / 128, by omega, by omega, ?_, ?_, hE3, fun x hx => hbl' x (Sl.own_blk hx)⟩, by dsimp only; omega⟩
  ·rw [← hpre, Vint.put_big (by omega : 128 ≤ n)]; simp
  ·rw [← List.append_assoc]; exact .inl ho
 ·have hval : IntKind.u8.wrap (n : Int) = (((UInt8.ofNat n).toNat : Nat) : Int) := by
   rw [IntKind.wrap_u8, toNat_ofNat_lt (by omega)]; omega
  obtain ⟨s', w3, hr, ho, hsz, hc, hbl⟩ := appendOne _ hA hC hB hval (by simp; omega)
  have hE3 : Ext w w3 := Chg.fresh hE hc hown
  refine ⟨_, _, hr, (fun _ hb => by cases hb), hsz, s', rfl, hE3, s', rfl, ?_, fun x hx => (hbl x hx).elim (hown x) (fun h => Nat.le_trans hE.size h)⟩
  ·rw [← hpre, Vint.put_small (by omega : n < 128), ← List.append_assoc]; exact ho
def gv (g : Nat × Nat × Nat) : Value := .tuple #[.int .u64 (g.1 : Int), .int .i64 (g.2.1 : Int), .int .i64 (g.2.2 : Int)]
theorem and127 (a : Nat) : a &&& (255 - 128) = a % 128 := by
 have := Nat.and_two_pow_sub_one_eq_mod a 7
 simpa using this
theorem shl7 {v x i : Nat} (hv : v < 2 ^ (7 * i)) (hb : v + x * 2 ^ (7 * i) < 18446744073709551616) :
  bits .or .u64 (v : Int) (IntKind.u64.wrap ((x : Int) * 2 ^ (7 * i))) = ((v + x * 2 ^ (7 * i) : Nat) : Int) := by
 rw [IntKind.wrap_u64, show ((x : Int) * 2 ^ (7 * i)) = ((x * 2 ^ (7 * i) : Nat) : Int) by push_cast; rfl, show ((x * 2 ^ (7 * i) : Nat) : Int) % 18446744073709551616 = ((x * 2 ^ (7 * i) : Nat) : Int) by omega,
  u64_or_nat _ _ (by omega) (by omega), Nat.or_comm, Nat.mul_comm, ← Nat.two_pow_add_eq_or_of_lt hv, Nat.add_comm]
theorem fits {v x i : Nat} (hi : i ≤ 9) (hv : v < 2 ^ (7 * i)) (hx : x < 128) (h9 : ¬ (i = 9 ∧ 1 < x)) : v + x * 2 ^ (7 * i) < 18446744073709551616 := by
 by_cases h : i = 9
 ·subst h
  have : x * 2 ^ (7 * 9) ≤ 1 * 2 ^ (7 * 9) := Nat.mul_le_mul_right _ (by omega)
  omega
 ·have hp : 2 ^ (7 * (i + 1)) ≤ 2 ^ 63 := Nat.pow_le_pow_right (by decide) (by omega)
  rw [Vint.pow7] at hp
  have : x * 2 ^ (7 * i) ≤ 127 * 2 ^ (7 * i) := Nat.mul_le_mul_right _ (by omega)
  omega
theorem drop_cons {xs : List UInt8} {n : Nat} (h : n < xs.length) : xs.drop n = xs.getD n 0 :: xs.drop (n + 1) := by
 rw [List.drop_eq_getElem_cons h]; simp [List.getD_eq_getElem?_getD, h]
theorem vintGet {A : List Nat} {w : World} {b : Sl} {xs : List UInt8} (at_ : Int) (h : RdB A w b xs) :
  Calls Tryz.prog 56 #[b.v, .int .i64 at_] w (Ret fun u w' => Ext w w' ∧ u = gv (Vint.getAt xs at_)) := by
 refine vint_Get.ok _ _ ?_
 have hl := h.len
 have hm := h.most
 unfold vint_Get.vc
 refine ⟨fun hc => ⟨Chg.refl _ _, ?_⟩, fun hc => ?_⟩
 ·unfold Vint.getAt; rw [if_pos (by omega)]; rfl
 obtain ⟨p, rfl⟩ : ∃ p : Nat, at_ = (p : Int) := ⟨at_.toNat, by omega⟩
 have hg : Vint.getAt xs (p : Int) = Vint.get p 0 0 (xs.drop p) := by
  unfold Vint.getAt; rw [if_neg (by omega), Int.toNat_natCast]
 have hpn : p ≤ b.n := by omega
 obtain ⟨m, hmm⟩ : ∃ m : Nat, ((p : Int) + min ((b.n : Int) - (p : Int)) 10).toNat = p + m ∧ m = min (b.n - p) 10 := ⟨min (b.n - p) 10, by omega, rfl⟩
 rw [hmm.1, Int.toNat_natCast]
 have hcut := h.cut p (p + m) b.c (by omega) (by omega) (by omega) (by omega)
 have hcl := hcut.len
 have hxl : ((xs.drop p).take (p + m - p)).length = m := by simp; omega
 refine ⟨⟨by omega, by omega⟩, ⟨by omega, by omega⟩, ⟨by omega, by omega, by omega⟩, fun v i w1 => ∃ vn n : Nat, v = (vn : Int) ∧ i = (n : Int) ∧ n ≤ 9 ∧ n ≤ m ∧ vn < 2 ^ (7 * n) ∧ Vint.get p 0 0 (xs.drop p) = Vint.get p vn n (xs.drop (p + n)) ∧ Ext w w1, fun _ i _ => m - i.toNat,
  ⟨0, 0, rfl, rfl, by omega, by omega, by decide, rfl, Chg.refl _ _⟩, ?_⟩
 rintro _ _ w1 ⟨vn, n, rfl, rfl, hn9, hnm, hvn, hget, hE⟩
 rw [hg, hget]
 refine ⟨fun hi => ?_, fun hi => ?_⟩
 ·rw [hcl, hxl] at hi
  obtain ⟨q, hq, _, hcell⟩ := (hcut.ext hE).at (i := (n : Int)) (by omega) (by rw [hcl, hxl]; omega)
  rw [Int.toNat_natCast] at hcell ⊢
  have hx : ((xs.drop p).take (p + m - p)).getD n 0 = xs.getD (p + n) 0 := by
   simp only [List.getD_eq_getElem?_getD]
   rw [List.getElem?_take_of_lt (by omega), List.getElem?_drop]
  rw [hx] at hcell
  refine ⟨⟨by omega, by rw [hcl, hxl]; omega⟩, q, hq, _, hcell, ?_⟩
  rw [drop_cons (by omega : p + n < xs.length)]
  generalize hxx : xs.getD (p + n) 0 = x
  have hx8 := x.toNat_lt
  have h8 : bits .andNot .u8 (x.toNat : Int) 128 = ((x.toNat % 128 : Nat) : Int) := by
   have := u8_andNot_nat x.toNat 128 hx8 (by omega)
   rw [show ((128 : Nat) : Int) = 128 from rfl] at this
   rw [this, and127]
  have h64 : IntKind.u64.wrap ((x.toNat % 128 : Nat) : Int) = ((x.toNat % 128 : Nat) : Int) := by rw [IntKind.wrap_u64]; omega
  have ht : (7 * (n : Int)).toNat = 7 * n := by omega
  rw [h8, h64, ht]
  refine ⟨fun h9 => ⟨hE, ?_⟩, fun h9 => ⟨⟨by omega, by omega⟩, ⟨by omega, by omega⟩, ?_⟩⟩
  ·unfold Vint.get; rw [if_pos (by omega)]; rfl
  ·have h9' : ¬ (n = 9 ∧ 1 < x.toNat) := by omega
   have hfit := fits hn9 hvn (x := x.toNat % 128) (by omega) (by omega)
   rw [shl7 hvn hfit]
   refine ⟨fun hbig => ?_, fun hsm => ?_⟩
   ·have hn8 : n ≠ 9 := by omega
    refine ⟨⟨by omega, by omega⟩, ⟨_, n + 1, rfl, by omega, by omega, by omega, ?_, ?_, hE⟩, by dsimp only; omega⟩
    ·rw [Vint.pow7]
     have : x.toNat % 128 * 2 ^ (7 * n) ≤ 127 * 2 ^ (7 * n) := Nat.mul_le_mul_right _ (by omega)
     omega
    ·conv => lhs; unfold Vint.get
     rw [if_neg h9', if_pos (by omega)]; rfl
   ·refine ⟨fun h0 => ⟨hE, ?_⟩, fun h0 => ⟨⟨by omega, by omega⟩, ⟨by omega, by omega⟩, hE, ?_⟩⟩
    ·unfold Vint.get; rw [if_neg h9', if_neg (by omega), if_pos (by omega)]; rfl
    ·unfold Vint.get; rw [if_neg h9', if_neg (by omega), if_neg (by omega), Nat.mod_eq_of_lt (by omega : x.toNat < 128)]; rfl
 ·rw [hcl, hxl] at hi
  have hnl : p + n = b.n := by omega
  rw [List.drop_eq_nil_of_le (by omega)]
  exact ⟨hE, rfl⟩
def gtv (g : List UInt8 × Nat × Nat) : Value := .tuple #[.string (Bs g.1), .int .i64 (g.2.1 : Int), .int .i64 (g.2.2 : Int)]
theorem vintGetText {A : List Nat} {w : World} {b : Sl} {xs : List UInt8} (at_ most : Int) (hmost : most ≤ 9223372036854775807) (h : RdB A w b xs) :
  Calls Tryz.prog 57 #[b.v, .int .i64 at_, .int .i64 most] w (Ret fun u w' => Ext w w' ∧ u = gtv (Vint.getText xs at_ most)) := by
 refine vint_GetText.ok _ _ _ ?_
 have hl := h.len
 have hm := h.most
 unfold vint_GetText.vc
 have hok := Vint.getAt_ok (xs := xs) (at_ := at_)
 unfold Vint.getText
 refine CallK.exact (vintGet at_ h) fun w1 hE => ⟨_, _, _, rfl, ?_⟩
 generalize Vint.getAt xs at_ = g at hok
 obtain ⟨n, nx, e⟩ := g
 dsimp only at hok ⊢
 refine ⟨fun he => ⟨hE, by rw [if_pos (by omega)]; rfl⟩, fun he => ?_⟩
 have hw1 : ∀ z : Int, 0 ≤ z → z ≤ 9223372036854775807 → IntKind.u64.wrap z = z := fun z h0 h1 => by rw [IntKind.wrap_u64]; omega
 rw [if_neg (by omega)]
 have hnx := hok.2.2 (by omega)
 refine ⟨fun hb => ⟨hE, ?_⟩, fun hb => ⟨⟨by omega, by omega⟩, ?_⟩⟩
 ·have hcase : most < 0 ∨ most < (n : Int) := by
   rcases hb with hb | hb
   ·exact .inl hb
   ·by_cases h0 : most < 0
    ·exact .inl h0
    ·rw [hw1 _ (by omega) (by omega)] at hb; exact .inr hb
  rw [if_pos hcase]; rfl
 ·have h0 : ¬ most < 0 := hb.1
  have h1 := hb.2
  rw [hw1 _ (by omega) (by omega)] at h1
  rw [if_neg (by omega), hw1 ((b.n : Int) - (nx : Int)) (by omega) (by omega)]
  refine ⟨fun hs => ⟨hE, by rw [if_pos (by omega)]; rfl⟩, fun hs => ?_⟩
  rw [if_neg (by omega)]
  have hcut := (h.ext hE).cut nx (nx + n) b.c (by omega) (by omega) (by omega) (by omega)
  rw [show ((nx : Int) + (n : Int)).toNat = nx + n by omega, Int.toNat_natCast]
  refine ⟨⟨by omega, by omega⟩, ⟨by omega, by omega⟩, ⟨by omega, by omega, by omega⟩, _, hcut.conv u8Slice Tryz.underlying5 Tryz.underlying9, hE, ?_⟩
  rw [show nx + n - nx = n by omega]; rfl
end
section
open Go.RowKit
theorem append_str_none {P : Program} {w : World} {s : Sl} {t u ty T : TypeId} {z : Value} {size bytes : Nat} (ht : P.underlying t = some (.slice T)) (hu : P.underlying u = some .string) (hi : TI P T z size bytes) (hc : s.n ≤ s.c) :
  (Builtin.append_ #[t, u] ty #[s.v, .string (Bs [])]).run P w = .ok s.v w := by
 obtain ⟨i, hi0, hz, hs, hb⟩ := hi
 have e : (Bs []).size = 0 := rfl
 have e2 : (Bs []).data.toList = [] := rfl
 unfold Sl.v
 cases hsa : s.a <;> simp [Builtin.append_, run_underlying ht, run_underlying hu, Go.sizeOf, typeInfo, hi0, Builtin.lenOf, hc, Builtin.firstCells, e, e2, storeCells]
theorem vintPutText {A : List Nat} {w : World} {b : Sl} {xs : List UInt8} (p : Str) (h : RdB A w b xs) (hb : xs.length + 10 + p.length ≤ 140737488355328) :
  Calls Tryz.prog 28 #[b.v, .string (Bs p)] w (Ret fun u w' => Ext w w' ∧ ∃ s : Sl, u = s.v ∧ OwnB [] w' s 5 (xs ++ Vint.put p.length ++ p) ∧ ∀ x ∈ s.blk, w.heap.size ≤ x) := by
 refine vint_PutText.ok _ _ ?_
 unfold vint_PutText.vc
 have hw1 : IntKind.u64.wrap (p.length : Int) = (p.length : Int) := by rw [IntKind.wrap_u64]; omega
 rw [hw1]
 have hmost := Vint.put_most (v := p.length) (by omega)
 refine CallK.ext (vintPut p.length (by omega) h (by omega)) fun v w1 hE1 ⟨s, hv, ho, hbl⟩ => ⟨s, hv, ?_⟩
 have hl := ho.rd.len
 by_cases hp : p = []
 ·subst hp
  have e := append_str_none (P := Tryz.prog) (w := w1) (s := s) (t := 27) (u := 9) (ty := 27) u8Slice Tryz.underlying9 ti_5 ho.rd.most.1
  exact ⟨_, _, e, (fun _ hb => by cases hb), Nat.le_refl _, s, rfl, hE1, s, rfl, by simpa using ho, hbl⟩
 ·obtain ⟨s', w2, hr, ho', hch, hbl'⟩ := append_str (P := Tryz.prog) (A := []) (w := w1) (s := s) (t := 27) (u := 9) (ty := 27) (p := p) u8Slice Tryz.underlying9 ti_5 (.inl ho) (by simp) hp
   (by rw [hl]; simp [maxLen]; omega) (by rw [hl]; simp; omega)
  refine ⟨_, _, hr, (fun _ hb => by cases hb), hch.size, s', rfl, Chg.fresh hE1 hch (fun x hx => hbl x (Sl.own_blk (List.mem_filter.1 hx).1)), s', rfl, ho', fun x hx => (hbl' x hx).elim (fun h => hbl x (Sl.own_blk h)) (fun h => Nat.le_trans hE1.size h)⟩
theorem conv8 {A : List Nat} {w : World} {s : Sl} {xs : List UInt8} (h : RdB A w s xs) : (convert 27 9 s.v).run Tryz.prog w = .ok (.string (Bs xs)) w := h.conv u8Slice Tryz.underlying5 Tryz.underlying9
end
section
open Go.RowKit
theorem App.runK {P : Program} {A bx : List Nat} {w : World} {s x : Sl} {size bytes : Nat} {t ty T : TypeId} {z : Value} {vs us : List (List Value)} {K : Value → World → Prop} (ht : P.underlying t = some (.slice T)) (hi : TI P T z size bytes) (hzs : z.cells.size = size) (hsz : 0 < size)
  (h : App A w s size T vs) (hA : ∀ b ∈ A, b < w.heap.size) (hx : Row [] w x size us) (h1 : ∀ u ∈ us.flatten, u.oneCell' = true) (hu : us ≠ [])
  (h63 : s.n + us.length ≤ maxLen) (hbytes : (s.n + us.length) * bytes ≤ 140737488355328) (hbx : ∀ b ∈ bx, b ∈ A)
  (k : ∀ s' w', Own A w' s' size T (vs ++ us) → Chg s.own w w' → (∀ b ∈ s'.blk, b ∈ s.own ∨ w.heap.size ≤ b) → K s'.v w') :
  RunK P (Builtin.append_ #[t, t] ty #[s.v, x.v]) w bx K := by
 obtain ⟨s', w', hr, ho, hc, hb⟩ := append_app (ty := ty) ht hi hzs hsz h hA hx h1 hu h63 hbytes
 refine ⟨_, _, hr, hc.noTouch _ (fun b hb hm => ?_), hc.size, k s' w' ho (hc.mono fun b hb => (List.mem_filter.1 hb).1) hb⟩
 have := (List.mem_filter.1 hm).2
 have := hbx b hb
 simp_all
theorem Own.avoid {A A' : List Nat} {w : World} {s : Sl} {size : Nat} {T : TypeId} {vs : List (List Value)} (h : Own A w s size T vs) (hA : ∀ b ∈ s.blk, b ∉ A') : Own A' w s size T vs :=
 ⟨h.len, h.cap, h.most, h.each, h.at_.imp_right fun ⟨g, cur, h1, _, h3⟩ => ⟨g, cur, h1, hA g (by simp [Sl.blk, h1]), h3⟩⟩
theorem Own.less {A A' : List Nat} {w : World} {s : Sl} {size : Nat} {T : TypeId} {vs : List (List Value)} (h : Own A w s size T vs) (hA : ∀ b ∈ A', b ∈ A) : Own A' w s size T vs :=
 h.avoid fun b hb hm => (h.blk b hb).1 (hA b hm)
theorem Own.other {A : List Nat} {w : World} {s : Sl} {size : Nat} {T S : TypeId} {vs : List (List Value)} (h : Own A w s size T vs) {B : Nat} {cs : List Value} (hB : Box w B S cs) (hne : T ≠ S) : B ∉ s.blk := by
 intro hm
 rcases h.at_ with e | ⟨g, cur, h1, _, h3, _⟩
 ·rw [e] at hm; simp [Sl.blk, Sl.nil] at hm
 ·simp [Sl.blk, h1] at hm; subst hm
  unfold Box at h3 hB; rw [h3] at hB; simp at hB; exact hne hB.2
theorem Own.cons {A : List Nat} {w : World} {s : Sl} {size : Nat} {T : TypeId} {vs : List (List Value)} (h : Own A w s size T vs) {B : Nat} (hB : B ∉ s.blk) : Own (B :: A) w s size T vs :=
 h.avoid fun b hb hm => by
  rcases List.mem_cons.1 hm with e | hm
  ·subst e; exact hB hb
  ·exact (h.blk b hb).1 hm
theorem Chg.more' {F G : List Nat} {a b c : World} (h : Chg F a b) (k : Chg G b c) (hG : ∀ x ∈ G, x ∈ F ∨ a.heap.size ≤ x) : Chg F a c :=
 ⟨k.os.trans h.os, k.tape.trans h.tape, k.output.trans h.output, Nat.le_trans h.size k.size, fun i hi hF =>
  (k.block i (Nat.lt_of_lt_of_le hi h.size) fun hm => (hG i hm).elim hF (fun h => by omega)).trans (h.block i hi hF)⟩
theorem Own.keep {A F : List Nat} {w w' : World} {s : Sl} {size : Nat} {T : TypeId} {vs : List (List Value)} (h : Own A w s size T vs) (c : Chg F w w') (hF : ∀ b ∈ s.blk, b ∉ F) : Own A w' s size T vs :=
 ⟨h.len, h.cap, h.most, h.each, h.at_.imp_right fun ⟨g, cur, h1, h2, h3, h4⟩ => ⟨g, cur, h1, h2, h3.keep c (hF g (by simp [Sl.blk, h1])), h4⟩⟩
theorem Row.keep {A F : List Nat} {w w' : World} {s : Sl} {size : Nat} {vs : List (List Value)} (h : Row A w s size vs) (c : Chg F w w') (hF : ∀ b ∈ s.blk, b ∉ F) : Row A w' s size vs :=
 ⟨h.len, h.cap, h.most, fun i hi => by
  obtain ⟨p, h1, h2, h3, h4⟩ := h.at_ i hi
  exact ⟨p, h1, h2, h3.chg c (by rw [Addr.add_block]; exact hF _ (by simp [Sl.blk, h1])), h4⟩⟩
theorem Own.tail {A : List Nat} {w : World} {s : Sl} {size : Nat} {T : TypeId} {vs : List (List Value)} (h : Own A w s size T vs) : ∀ b ∈ s.own, b ∉ A := fun b hb => (h.blk b (Sl.own_blk hb)).1
end
section
open Go.RowKit Go.ChangeShapes Go.WideShapes Go.ChangeAt
theorem Ret.out {R : Value → World → Prop} {e : Ending} {w : World} (h : Ret R e w) : ∃ v, e = .returned v ∧ R v w := by
 cases e with
 |returned v => exact ⟨v, rfl, h⟩
 |_ => exact h.elim
theorem ownKnob0 : ownKnob Tryz.prog.godebug = none := by kernel_rfl
theorem laidOut0 : laidOutB Tryz.prog = true := by kernel_rfl
theorem trodAll_ext {H : Type} {enc : TypeId × Value → H} {P : Program} (hl : laidOutB P = true) {W W' : World} (hE : Ext W W') : ∀ {ts : List TypeId} {vs : List Value} {ds : List (DataW H)} {ps : List MemPlace},
  (∀ t ∈ ts, P.readableRec t = true ∧ t < P.types.size) → DataW.TrodAll enc P W 0 (fun _ => true) true ts vs ds ps → DataW.TrodAll enc P W' 0 (fun b => decide (b < W.heap.size)) true ts vs ds ps
 |[], vs, ds, ps, _, h => by obtain ⟨rfl, rfl, rfl⟩ := trodAll_nil h; exact rfl
 |t :: ts, vs, ds, ps, ht, h => by
  obtain ⟨v, vs', d, ds', p, q, rfl, rfl, rfl, h1, h2⟩ := trodAll_cons h
  have lt0 : ∀ x ∈ p, x.block < W.heap.size := by obtain ⟨m, hm⟩ := h1; exact DataW.trod_lt m _ _ _ hm
  exact trodAll_cons_mk (Below.trod hl (ht t (by simp)).1 (ht t (by simp)).2 h1 hE.below lt0) (trodAll_ext hl hE (fun u hu => ht u (by simp [hu])) h2)
theorem post_ext {H : Type} {enc : TypeId × Value → H} {P : Program} {f : Func} {s : ChangeSpec} {W W' : World} {args : Array Value} {ds gs : List (DataW H)} {before : List MemPlace} {tb : TypeId}
  (hW : DataW.Whole enc P f.params.toList s.vars false W args.toList ds gs before) (hs : s.vars = []) (hr : f.resultTypes = #[tb]) (hb : P.underlying tb = some .bool)
  (hds : s.fn H (ds ++ gs) = { results := [.lit (.bool true)], args := ds }) (hl : laidOutB P = true) (ht : ∀ t ∈ f.params.toList, P.readableRec t = true ∧ t < P.types.size) (hE : Ext W W') :
  s.post enc P f false true false false W args (.bool true) W' := by
 have hW' := hW
 obtain ⟨p, q, hA, hV, rfl, hfz, hnd⟩ := hW
 refine ⟨ds, gs, _, [], p, [], hW', ?_, ?_, ?_, hE.below.frame _, fun h => by cases h⟩
 ·rw [hds, hr]; exact trodAll_mk1 (shut_bool hb _)
 ·rw [hds]; exact trodAll_ext hl hE ht hA
 ·rw [hds, hs]; exact rfl
theorem bulk_one {H : Type} (d : DataW H) : 1 ≤ Rows.uptoBulk d := by
 cases d with
 |lit l => cases l <;> simp [Rows.uptoBulk]
 |nil => simp [Rows.uptoBulk]
 |ptr d => simp [Rows.uptoBulk]
 |slice elems spare => simp [Rows.uptoBulk]
 |agg parts => simp [Rows.uptoBulk]
 |iface t d => simp [Rows.uptoBulk]
 |map entries => simp [Rows.uptoBulk]
 |held h => simp [Rows.uptoBulk]
theorem bulk_len {H : Type} (l : List (DataW H)) : l.length ≤ Rows.uptoBulkAll l := by
 induction l with
 |nil => simp [Rows.uptoBulkAll]
 |cons x r ih => have := bulk_one x; simp only [Rows.uptoBulkAll, List.length_cons]; omega
theorem open_nums {H : Type} {enc : TypeId × Value → H} {P : Program} {t e : TypeId} {k : IntKind} {W : World} {v : Value} {d : DataW H} {ps : List MemPlace} {base : Nat} (ht : P.underlying t = some (.slice e)) (he : P.underlying e = some (.int k)) (hc : P.cellsOf e = 1)
  (hval : Value.okWide P W .any base t v) (h : DataW.Trod enc P W 0 (fun _ => true) true t v d ps) :
  ∃ (s : Sl) (zs : List Int), v = s.v ∧ Row [] W s 1 (zs.map fun z => [.int k z]) ∧ (∀ z ∈ zs, (Lit.int k z).wf = true) ∧ zs.length ≤ Rows.uptoBulk d ∧ s.c ≤ Rows.uptoBulk d := by
 obtain ⟨a, len, cap, rfl⟩ := okWide_slice ht hval
 obtain ⟨fuel, hf⟩ := h
 rcases open_ints ht he hc hf with ⟨hcs, _⟩ | ⟨x, l, c, zs, hcs, _, hl, hm, hz, hx, hcell, hwz⟩
 ·simp [Value.cells] at hcs
  obtain ⟨rfl, rfl, rfl⟩ := hcs
  exact ⟨Sl.nil, [], rfl, Row.nil _ _ _, by simp, Nat.zero_le _, Nat.zero_le _⟩
 ·simp [Value.cells] at hcs
  obtain ⟨rfl, rfl, rfl⟩ := hcs
  have hzl : zs.length = cap := by simpa using hz
  have hb : cap ≤ Rows.uptoBulk d := by
   have e := congrArg Prod.fst hx
   simp only at e
   rw [e]
   have h1 := bulk_len (H := H) (lits k (zs.take len))
   have h2 := bulk_len (H := H) (lits k (zs.drop len))
   have e1 : (lits (H := H) k (zs.take len)).length = (zs.take len).length := by simp [lits]
   have e2 : (lits (H := H) k (zs.drop len)).length = (zs.drop len).length := by simp [lits]
   rw [e1] at h1; rw [e2] at h2
   simp only [List.length_take, List.length_drop] at h1 h2
   simp only [Rows.uptoBulk]; omega
  refine ⟨⟨some x, len, cap⟩, zs.take len, rfl, ⟨by simp; omega, hl, hm, fun i hi => ?_⟩, fun z hz' => hwz z (List.mem_of_mem_take hz'), by simp; omega, hb⟩
  simp only [List.length_map, List.length_take] at hi
  have hg : ((zs.take len).map fun z => [Value.int k z]).getD i [] = [.int k (zs.getD i 0)] := by
   simp [List.getD_eq_getElem?_getD, List.getElem?_take, show i < len by omega, List.getElem?_eq_getElem (show i < zs.length by omega)]
  rw [hg]
  exact ⟨x, rfl, by simp, fun j u hj => by
   cases j with
   |zero => simp only [List.getElem?_cons_zero, Option.some.injEq] at hj; subst hj; rw [Addr.add_add, Nat.mul_one, Nat.add_zero]; exact hcell i (by omega)
   |succ j => simp at hj, rfl⟩
theorem u64_of_wf {n : Int} (h : (Lit.int .u64 n).wf = true) : 0 ≤ n ∧ n < 18446744073709551616 := by
 have hx : 0 ≤ n ∧ n ≤ 18446744073709551615 := by simpa [Lit.wf, IntKind.min, IntKind.max, IntKind.signed, IntKind.bits] using h
 omega
end
section
open Go.RowKit Go.ChangeShapes Go.WideShapes Go.ChangeAt
inductive T where
 |node (kind : Int) (name text : Str) (attrs : List (Str × Str)) (kids : List T)
namespace T
def kind : T → Int | .node k _ _ _ _ => k
def name : T → Str | .node _ n _ _ _ => n
def text : T → Str | .node _ _ x _ _ => x
def attrs : T → List (Str × Str) | .node _ _ _ ats _ => ats
def kids : T → List T | .node _ _ _ _ ks => ks
theorem ind {P : T → Prop} (h : ∀ k n x ats ks, (∀ t ∈ ks, P t) → P (.node k n x ats ks)) : ∀ t, P t
 |.node k n x ats ks => h k n x ats ks fun t _ => ind h t
theorem ind' {P : T → Prop} (h : ∀ t, (∀ u ∈ t.kids, P u) → P t) : ∀ t, P t := ind fun _ _ _ _ _ ih => h _ ih
def nul : T := .node 0 [] [] [] []
def size : T → Nat | .node _ _ _ _ ks => 1 + (ks.attach.map fun ⟨t, _⟩ => size t).sum
def depth : T → Nat | .node _ _ _ _ ks => 1 + (ks.attach.map fun ⟨t, _⟩ => depth t).foldr max 0
def slots : T → Nat | .node _ _ _ ats ks => ats.length + (ks.attach.map fun ⟨t, _⟩ => slots t).sum
def abulk (p : Str × Str) : Nat := p.1.length + p.2.length + 1
def bulk : T → Nat | .node _ n x ats ks => 1 + n.length + x.length + (ats.map abulk).sum + (ks.attach.map fun ⟨t, _⟩ => bulk t).sum
theorem size_eq (t : T) : t.size = 1 + (t.kids.map size).sum := by cases t; rw [size]; simp [kids]
theorem depth_eq (t : T) : t.depth = 1 + (t.kids.map depth).foldr max 0 := by cases t; rw [depth]; simp [kids]
theorem slots_eq (t : T) : t.slots = t.attrs.length + (t.kids.map slots).sum := by cases t; rw [slots]; simp [kids, attrs]
theorem bulk_eq (t : T) : t.bulk = 1 + t.name.length + t.text.length + (t.attrs.map abulk).sum + (t.kids.map bulk).sum := by cases t; rw [bulk]; simp [kids, attrs, name, text]
theorem sum_le {α : Type} (f g : α → Nat) : ∀ l : List α, (∀ x ∈ l, f x ≤ g x) → (l.map f).sum ≤ (l.map g).sum
 |[], _ => Nat.le_refl _
 |x :: r, h => by
  have h1 := h x (by simp)
  have h2 := sum_le f g r (fun y hy => h y (by simp [hy]))
  simp only [List.map_cons, List.sum_cons]; omega
theorem mem_sum {α : Type} (f : α → Nat) : ∀ {l : List α} {x : α}, x ∈ l → f x ≤ (l.map f).sum
 |y :: r, x, h => by
  simp only [List.map_cons, List.sum_cons]
  rcases List.mem_cons.1 h with rfl | h
  ·omega
  ·have := mem_sum f h; omega
theorem size_bulk : ∀ t : T, t.size ≤ t.bulk := ind' fun t ih => by
 rw [size_eq, bulk_eq]
 have := sum_le size bulk t.kids ih
 omega
theorem len_abulk (ats : List (Str × Str)) : ats.length ≤ (ats.map abulk).sum := by
 induction ats with
 |nil => simp
 |cons p r ih => simp only [List.map_cons, List.sum_cons, List.length_cons, abulk]; omega
theorem slots_bulk : ∀ t : T, t.slots ≤ t.bulk := ind' fun t ih => by
 rw [slots_eq, bulk_eq]
 have := sum_le slots bulk t.kids ih
 have := len_abulk t.attrs
 omega
theorem foldr_max_le {l : List Nat} {n : Nat} (h : ∀ x ∈ l, x ≤ n) : l.foldr max 0 ≤ n := by
 induction l with
 |nil => exact Nat.zero_le _
 |cons a r ih => simp only [List.foldr_cons]; have := h a (by simp); have := ih (fun x hx => h x (by simp [hx])); omega
theorem depth_size : ∀ t : T, t.depth ≤ t.size := ind' fun t ih => by
 rw [depth_eq, size_eq]
 have : (t.kids.map depth).foldr max 0 ≤ (t.kids.map size).sum := foldr_max_le fun x hx => by
  obtain ⟨u, hu, rfl⟩ := List.mem_map.1 hx
  exact Nat.le_trans (ih u hu) (mem_sum size hu)
 omega
theorem kid_bulk {t u : T} (h : u ∈ t.kids) : u.bulk < t.bulk := by
 rw [bulk_eq t]; have := mem_sum bulk h; omega
theorem attr_bulk {t : T} {p : Str × Str} (h : p ∈ t.attrs) : p.1.length + p.2.length < t.bulk := by
 rw [bulk_eq t]; have := mem_sum abulk h; have h2 : abulk p = p.1.length + p.2.length + 1 := rfl; omega
theorem kids_len (t : T) : t.kids.length < t.bulk := by
 have h1 : t.kids.length ≤ (t.kids.map bulk).sum := by
  have := sum_le (fun _ => 1) bulk t.kids (fun u _ => by rw [bulk_eq]; omega)
  have e : ∀ l : List T, (l.map fun _ => 1).sum = l.length := fun l => by induction l with
   |nil => rfl
   |cons a r ih => simp only [List.map_cons, List.sum_cons, ih, List.length_cons]; omega
  rw [e] at this; exact this
 rw [bulk_eq t]; omega
end T
def ac (p : Str × Str) : List Value := [.string (Bs p.1), .string (Bs p.2)]
def tc (t : T) (p : Sl × Sl) : List Value := [.int .i64 t.kind, .string (Bs t.name), .string (Bs t.text), p.1.v, p.2.v]
def tv (t : T) (sa sk : Sl) : Value := .agg #[.int .i64 t.kind, .string (Bs t.name), .string (Bs t.text), sa.v, sk.v]
inductive RdT (A : List Nat) (w : World) : T → Sl → Sl → Prop
 |mk {k : Int} {n x : Str} {ats : List (Str × Str)} {ks : List T} {sa sk : Sl} (ps : List (Sl × Sl)) (ha : Row A w sa 2 (ats.map ac)) (hl : ps.length = ks.length) (hk : Row A w sk 5 (List.zipWith tc ks ps))
  (h : ∀ (i : Nat) (t : T) (p : Sl × Sl), ks[i]? = some t → ps[i]? = some p → RdT A w t p.1 p.2) : RdT A w (.node k n x ats ks) sa sk
theorem RdT.attrs {A : List Nat} {w : World} {t : T} {sa sk : Sl} (h : RdT A w t sa sk) : Row A w sa 2 (t.attrs.map ac) := by
 cases h with | mk ps ha hl hk h => exact ha
theorem RdT.nattrs {A : List Nat} {w : World} {t : T} {sa sk : Sl} (h : RdT A w t sa sk) : sa.n = t.attrs.length := by
 have := h.attrs.len; simpa using this
theorem RdT.nkids {A : List Nat} {w : World} {t : T} {sa sk : Sl} (h : RdT A w t sa sk) : sk.n = t.kids.length := by
 cases h with | mk ps ha hl hk h => have := hk.len; simp [hl] at this; exact this
theorem RdT.caps {A : List Nat} {w : World} {t : T} {sa sk : Sl} (h : RdT A w t sa sk) : sa.n ≤ sa.c ∧ sa.c ≤ maxLen ∧ sk.n ≤ sk.c ∧ sk.c ≤ maxLen := by
 cases h with | mk ps ha hl hk h => exact ⟨ha.cap, ha.most, hk.cap, hk.most⟩
theorem RdT.attr {A : List Nat} {w : World} {t : T} {sa sk : Sl} (h : RdT A w t sa sk) {i : Nat} (hi : i < t.attrs.length) :
  ∃ p, sa.a = some p ∧ p.block ∉ A ∧ Cells w (p.add (i * 2)) (ac (t.attrs.getD i ([], []))) := by
 obtain ⟨p, h1, h2, h3, _⟩ := h.attrs.at_ i (by simpa using hi)
 refine ⟨p, h1, h2, ?_⟩
 have e : (t.attrs.map ac).getD i [] = ac (t.attrs.getD i ([], [])) := by simp [List.getD_eq_getElem?_getD, hi]
 rwa [e] at h3
theorem RdT.kid {A : List Nat} {w : World} {t : T} {sa sk : Sl} (h : RdT A w t sa sk) {i : Nat} (hi : i < t.kids.length) :
  ∃ p sa' sk', sk.a = some p ∧ p.block ∉ A ∧ Cells w (p.add (i * 5)) (tc (t.kids.getD i T.nul) (sa', sk')) ∧ RdT A w (t.kids.getD i T.nul) sa' sk' := by
 cases h with
 |@mk k n x ats ks _ _ ps ha hl hk h =>
  simp only [T.kids] at hi ⊢
  have hp : i < ps.length := by omega
  obtain ⟨p, h1, h2, h3, _⟩ := hk.at_ i (by simp; omega)
  have e : (List.zipWith tc ks ps).getD i [] = tc (ks.getD i T.nul) ((ps[i]).1, (ps[i]).2) := by
   simp [List.getD_eq_getElem?_getD, hi, hp, List.getElem?_zipWith]
  rw [e] at h3
  refine ⟨p, (ps[i]).1, (ps[i]).2, h1, h2, h3, h i _ _ ?_ (List.getElem?_eq_getElem hp)⟩
  rw [List.getElem?_eq_getElem hi, List.getD_eq_getElem?_getD, List.getElem?_eq_getElem hi]; rfl
theorem RdT.chg {A F : List Nat} {w w' : World} (c : Chg F w w') (hF : ∀ b ∈ F, b ∈ A) : ∀ {t : T} {sa sk : Sl}, RdT A w t sa sk → RdT A w' t sa sk := by
 intro t sa sk h
 induction h with
 |mk ps ha hl hk h ih => exact .mk ps (ha.chg c hF) hl (hk.chg c hF) ih
theorem RdT.ext {A : List Nat} {w w' : World} {t : T} {sa sk : Sl} (h : RdT A w t sa sk) (c : Ext w w') : RdT A w' t sa sk := RdT.chg c (by simp) h
theorem RdT.less {A A' : List Nat} {w : World} {t : T} {sa sk : Sl} (h : RdT A w t sa sk) (hA : ∀ b ∈ A', b ∈ A) : RdT A' w t sa sk := by
 induction h with
 |mk ps ha hl hk h ih => exact .mk ps (ha.less hA) hl (hk.less hA) ih
theorem RdT.fresh {A : List Nat} {w : World} {t : T} {sa sk : Sl} (h : RdT A w t sa sk) {B : Nat} (hB : w.heap.size ≤ B) : RdT (B :: A) w t sa sk := by
 induction h with
 |mk ps ha hl hk h ih => exact .mk ps (ha.fresh (by decide) hB) hl (hk.fresh (by decide) hB) ih
theorem RdT.nil (A : List Nat) (w : World) (k : Int) (n x : Str) : RdT A w (.node k n x [] []) Sl.nil Sl.nil :=
 .mk [] (Row.nil _ _ _) rfl (Row.nil _ _ _) (by simp)
theorem getD_mem {α : Type} {l : List α} {d : α} {i : Nat} (h : i < l.length) : l.getD i d ∈ l := by
 rw [List.getD_eq_getElem?_getD, List.getElem?_eq_getElem h]; exact List.getElem_mem h
end
section
open Go.RowKit Go.ChangeShapes Go.WideShapes Go.ChangeAt
structure OpT where
 kind : Int
 id : Int
 par : Int
 at_ : Int
 what : Int
 name : Str
 text : Str
def oc (o : OpT) : List Value := [.int .i64 o.kind, .int .i64 o.id, .int .i64 o.par, .int .i64 o.at_, .int .i64 o.what, .string (Bs o.name), .string (Bs o.text)]
def OpT.ok (o : OpT) : Prop := (Lit.int .i64 o.kind).wf = true ∧ (Lit.int .i64 o.id).wf = true ∧ (Lit.int .i64 o.par).wf = true ∧ (Lit.int .i64 o.at_).wf = true ∧ (Lit.int .i64 o.what).wf = true
end
section
open Go.RowKit
def needO (o : OpT) : OpT := ⟨0, 0, if o.kind = 3 then o.par else 0, if o.kind = 3 then o.at_ else 0, 0, if o.kind = 4 ∨ o.kind = 5 then o.name else [], if o.kind = 4 ∨ o.kind = 6 then o.text else []⟩
def rightO (o : OpT) : Bool :=
 if ((o.kind < 1 ∨ 6 < o.kind) ∨ o.id < 0) ∨ 1048576 < o.id then false
 else if o.kind = 1 then decide (1 ≤ o.what) && decide (o.what ≤ 5)
 else decide (o.par = (needO o).par) && decide (o.at_ = (needO o).at_) && decide (o.what = 0) && decide (o.name = (needO o).name) && decide (o.text = (needO o).text)
abbrev FL : List Value := [.nilFunc, .nilFunc, .func (.func 93) #[] #[], .func (.func 95) #[] #[], .func (.func 96) #[] #[], .func (.func 98) #[] #[], .func (.func 99) #[] #[], .func (.func 101) #[] #[], .func (.func 102) #[] #[], .func (.func 104) #[] #[], .func (.func 105) #[] #[], .func (.func 107) #[] #[], .func (.func 108) #[] #[], .func (.func 110) #[] #[]]
def ov (o : OpT) : Value := .agg #[.int .i64 o.kind, .int .i64 o.id, .int .i64 o.par, .int .i64 o.at_, .int .i64 o.what, .string (Bs o.name), .string (Bs o.text)]
theorem callsC (w : World) : Calls Tryz.prog 52 #[] w (Ret fun v w' => Ext w w' ∧ v = .agg FL.toArray) := by
 refine apply_calls.ok ?_
 unfold apply_calls.vc
 exact fun w1 B1 _ hE1 => ⟨hE1, rfl⟩
theorem needCall (o : OpT) (h2 : 2 ≤ o.kind) (h6 : o.kind ≤ 6) : ∃ f, FL.getD (o.kind.toNat * 2 + 1) .nilFunc = .func (.func f) #[] #[] ∧ Body Tryz.prog f ∧
  ∀ w, Calls Tryz.prog f (#[] ++ #[ov o] ++ #[]) w (Ret fun v w' => Ext w w' ∧ v = ov (needO o)) := by
 obtain ⟨k, id, par, at_, what, name, text⟩ := o
 simp only at h2 h6
 have hk : k = 2 ∨ k = 3 ∨ k = 4 ∨ k = 5 ∨ k = 6 := by omega
 rcases hk with rfl | rfl | rfl | rfl | rfl
 ·refine ⟨98, rfl, ⟨_, Tryz.func98, by decide, rfl⟩, fun w => ?_⟩
  refine apply_calls_4.ok _ _ _ _ _ _ _ ?_
  unfold apply_calls_4.vc
  exact fun w1 _ _ _ _ _ hE => ⟨hE, rfl⟩
 ·refine ⟨101, rfl, ⟨_, Tryz.func101, by decide, rfl⟩, fun w => ?_⟩
  refine apply_calls_6.ok _ _ _ _ _ _ _ ?_
  unfold apply_calls_6.vc
  exact fun w1 _ _ _ _ _ hE => ⟨hE, rfl⟩
 ·refine ⟨104, rfl, ⟨_, Tryz.func104, by decide, rfl⟩, fun w => ?_⟩
  refine apply_calls_8.ok _ _ _ _ _ _ _ ?_
  unfold apply_calls_8.vc
  exact fun w1 _ _ _ _ _ hE => ⟨hE, rfl⟩
 ·refine ⟨107, rfl, ⟨_, Tryz.func107, by decide, rfl⟩, fun w => ?_⟩
  refine apply_calls_10.ok _ _ _ _ _ _ _ ?_
  unfold apply_calls_10.vc
  exact fun w1 _ _ _ _ _ hE => ⟨hE, rfl⟩
 ·refine ⟨110, rfl, ⟨_, Tryz.func110, by decide, rfl⟩, fun w => ?_⟩
  refine apply_calls_12.ok _ _ _ _ _ _ _ ?_
  unfold apply_calls_12.vc
  exact fun w1 _ _ _ _ _ hE => ⟨hE, rfl⟩
theorem callRight (o : OpT) {w : World} : Calls Tryz.prog 24 #[ov o] w (Ret fun v w' => Ext w w' ∧ v = .bool (rightO o)) := by
 refine apply_Right.ok _ _ _ _ _ _ _ ?_
 unfold apply_Right.vc
 refine fun w1 B1 hN1 hE1 => CallK.exact (callsC w1) fun w2 hE2 => ⟨rfl, fun hb w3 B3 hN3 hE3 => ⟨(hE1.trans hE2).trans hE3, by unfold rightO; rw [if_pos hb]⟩, fun hg => ?_⟩
 have hg' : ¬ (((o.kind < 1 ∨ 6 < o.kind) ∨ o.id < 0) ∨ 1048576 < o.id) := fun h => by
  rcases h with ((h | h) | h) | h
  ·exact hg.1.1.1 h
  ·exact hg.1.1.2 h
  ·exact hg.1.2 h
  ·exact hg.2 h
 refine ⟨fun h1 w3 B3 hN3 hE3 => ⟨(hE1.trans hE2).trans hE3, by unfold rightO; rw [if_neg hg', if_pos h1]⟩, fun h1 w3 B3 hN3 hE3 => ⟨⟨by omega, by omega⟩, ?_⟩⟩
 obtain ⟨f, hf, hbody, hcall⟩ := needCall o (by omega) (by omega)
 refine ⟨f, #[], #[], hf, hbody, fun k i p a t n x _ => k = 0 ∧ i = 0 ∧ p = (needO o).par ∧ a = (needO o).at_ ∧ t = 0 ∧ n = (needO o).name ∧ x = (needO o).text, fun _ _ _ _ _ _ _ _ _ _ h => h, fun w' _ => Ret.mono (hcall w') ?_, ?_⟩
 ·rintro v w'' ⟨h2, rfl⟩
  exact ⟨h2, _, _, _, _, _, _, _, rfl, rfl, rfl, rfl, rfl, rfl, rfl, rfl⟩
 ·rintro w4 _ _ _ _ _ _ _ B4 hE4 ⟨rfl, rfl, rfl, rfl, rfl, rfl, rfl⟩ hB4 hbox w5 hC5
  refine ⟨Chg.fresh (((hE1.trans hE2).trans hE3).trans hE4) hC5 (by simp only [List.mem_singleton]; rintro b rfl; exact Nat.le_trans ((hE1.trans hE2).trans hE3).size hB4), ?_⟩
  unfold rightO
  rw [if_neg hg', if_neg h1]
theorem right_kind {o : OpT} (h : rightO o = true) : 1 ≤ o.kind ∧ o.kind ≤ 6 := by
 unfold rightO at h
 by_cases hb : ((o.kind < 1 ∨ 6 < o.kind) ∨ o.id < 0) ∨ 1048576 < o.id
 ·rw [if_pos hb] at h; cases h
 ·omega
end
section
namespace Cdc
open Go.RowKit
def textsO (o : OpT) : List Str := if o.kind = 1 ∨ o.kind = 4 then [o.name, o.text] else if o.kind = 5 then [o.name] else if o.kind = 6 then [o.text] else []
def numsO (o : OpT) : List Int := if o.kind = 1 then [o.par, o.at_, o.what] else if o.kind = 3 then [o.par, o.at_] else []
def addS (all : List Str) (s : Str) : List Str := if s ∈ all then all else all ++ [s]
def addO (all : List Str) (o : OpT) : List Str := (textsO o).foldl addS all
def allS (ops : List OpT) : List Str := ops.foldl addO []
def good (o : OpT) : Bool := rightO o && decide (0 ≤ o.par) && decide (0 ≤ o.at_)
def lowB : Nat → Nat → Str
 |0, _ => []
 |n + 1, x => UInt8.ofNat x :: lowB n (x / 256)
theorem lowB_len (n : Nat) : ∀ x, (lowB n x).length = n := by
 induction n with
 |zero => intro x; rfl
 |succ n ih => intro x; rw [lowB, List.length_cons, ih]
def val : List Nat → Nat
 |[] => 0
 |x :: r => x + 256 * val r
theorem val_low (n : Nat) : ∀ x, val ((lowB n x).map fun b => b.toNat) = x % 256 ^ n := by
 induction n with
 |zero => intro x; rw [Nat.pow_zero, Nat.mod_one]; rfl
 |succ n ih =>
  intro x
  rw [lowB, List.map_cons, val, ih]
  have e : (UInt8.ofNat x).toNat = x % 256 := by simp
  rw [e, Nat.pow_succ, Nat.mul_comm (256 ^ n) 256, Nat.mod_mul]
def head (base target : Nat) : Str := [116, 112, 121, 49] ++ (lowB 8 base ++ lowB 8 target)
theorem head_len (x y : Nat) : (head x y).length = 20 := by simp [head, lowB_len]
def putS (s : Str) : Str := Vint.put s.length ++ s
def opB (all : List Str) (o : OpT) : Str := UInt8.ofNat o.kind.toNat :: (Vint.put o.id.toNat ++ ((numsO o).flatMap (fun n => Vint.put n.toNat) ++ (textsO o).flatMap fun s => Vint.put (all.idxOf s)))
def body (base target : Nat) (ops : List OpT) : Str := head base target ++ (Vint.put (allS ops).length ++ ((allS ops).flatMap putS ++ (Vint.put ops.length ++ ops.flatMap (opB (allS ops)))))
def enc (base target : Nat) (ops : List OpT) : Str × Int :=
 if 1500 < ops.length then ([], 2) else if ops.all good = false then ([], 15) else if 65536 < (body base target ops).length + 4 then ([], 2)
 else (body base target ops ++ lowB 4 (Crc.more 0 (body base target ops)), 0)
structure Rs where
 at_ : Nat
 bad : Bool
def numR (b : Str) (r : Rs) : Nat × Rs := if r.bad = true ∨ (Vint.getAt b r.at_).2.2 ≠ 0 then (0, ⟨r.at_, true⟩) else ((Vint.getAt b r.at_).1, ⟨(Vint.getAt b r.at_).2.1, false⟩)
def textR (b : Str) (r : Rs) : Str × Rs := if r.bad = true ∨ (Vint.getText b r.at_ b.length).2.2 ≠ 0 then ([], ⟨r.at_, true⟩) else ((Vint.getText b r.at_ b.length).1, ⟨(Vint.getText b r.at_ b.length).2.1, false⟩)
def byteR (b : Str) (r : Rs) : Nat × Rs := if r.bad = true ∨ b.length ≤ r.at_ then (0, ⟨r.at_, true⟩) else ((b.getD r.at_ 0).toNat, ⟨r.at_ + 1, false⟩)
def ofR (b : Str) (all : List Str) (r : Rs) : Str × Rs := if (numR b r).2.bad = true ∨ all.length ≤ (numR b r).1 then ([], ⟨(numR b r).2.at_, true⟩) else (all.getD (numR b r).1 [], (numR b r).2)
def int (n : Nat) : Int := IntKind.i64.wrap (n : Int)
def opR (b : Str) (all : List Str) (r : Rs) : OpT × Rs :=
 let k := byteR b r
 let i := numR b k.2
 if k.1 = 1 then
  let x := numR b i.2
  let y := numR b x.2
  let z := numR b y.2
  let s := ofR b all z.2
  let t := ofR b all s.2
  (⟨1, int i.1, int x.1, int y.1, int z.1, s.1, t.1⟩, t.2)
 else if k.1 = 3 then
  let x := numR b i.2
  let y := numR b x.2
  (⟨3, int i.1, int x.1, int y.1, 0, [], []⟩, y.2)
 else if k.1 = 4 then
  let s := ofR b all i.2
  let t := ofR b all s.2
  (⟨4, int i.1, 0, 0, 0, s.1, t.1⟩, t.2)
 else if k.1 = 5 then
  let s := ofR b all i.2
  (⟨5, int i.1, 0, 0, 0, s.1, []⟩, s.2)
 else if k.1 = 6 then
  let s := ofR b all i.2
  (⟨6, int i.1, 0, 0, 0, [], s.1⟩, s.2)
 else (⟨(k.1 : Int), int i.1, 0, 0, 0, [], []⟩, i.2)
def bytesR (b : Str) : Nat → Rs → List Nat × Rs
 |0, r => ([], r)
 |n + 1, r => ((byteR b r).1 :: (bytesR b n (byteR b r).2).1, (bytesR b n (byteR b r).2).2)
def hashR (b : Str) (r : Rs) : Nat × Rs := (val (bytesR b 8 r).1, (bytesR b 8 r).2)
def strsR (b : Str) : Nat → List Str → Rs → List Str × Rs
 |0, all, r => (all, r)
 |n + 1, all, r => if r.bad = true then (all, r) else strsR b n (all ++ [(textR b r).1]) (textR b r).2
def opsR (b : Str) (all : List Str) : Nat → List OpT → Rs → List OpT × Rs
 |0, l, r => (l, r)
 |n + 1, l, r => if r.bad = true ∨ 1500 < l.length then (l, r) else opsR b all n (l ++ [(opR b all r).1]) (opR b all r).2
def parse (b : Str) : (Nat × Nat × List OpT) × Bool :=
 let h := hashR b ⟨4, false⟩
 let g := hashR b h.2
 let n := numR b g.2
 let A := strsR b n.1 [] n.2
 let m := numR b A.2
 let L := opsR b A.1 m.1 [] m.2
 ((h.1, g.1, L.1), L.2.bad)
def dec (p : Str) : (Nat × Nat × List OpT) × Int :=
 if 65536 < p.length then ((0, 0, []), 2) else if p.length < 26 then ((0, 0, []), 9)
 else if lowB 4 (Crc.more 0 (p.take (p.length - 4))) ≠ p.drop (p.length - 4) then ((0, 0, []), 11)
 else if (parse (p.take (p.length - 4))).2 = true then ((0, 0, []), 10)
 else if enc (parse (p.take (p.length - 4))).1.1 (parse (p.take (p.length - 4))).1.2.1 (parse (p.take (p.length - 4))).1.2.2 = (p, 0) then ((parse (p.take (p.length - 4))).1, 0) else ((0, 0, []), 10)
theorem num_put (a r : Str) {v : Nat} (hv : v < 18446744073709551616) : numR (a ++ (Vint.put v ++ r)) ⟨a.length, false⟩ = (v, ⟨(a ++ Vint.put v).length, false⟩) := by
 have h := Vint.getAt_put a r hv
 unfold numR
 simp only
 rw [h, if_neg (by simp), List.length_append]
theorem text_put (a r s : Str) (hs : s.length < 18446744073709551616) : textR (a ++ (putS s ++ r)) ⟨a.length, false⟩ = (s, ⟨(a ++ putS s).length, false⟩) := by
 have hl : (a ++ (putS s ++ r)).length = a.length + ((Vint.put s.length).length + s.length + r.length) := by simp [putS]; omega
 have h : Vint.getText (a ++ (putS s ++ r)) (a.length : Int) ((a ++ (putS s ++ r)).length : Int) = (s, a.length + (Vint.put s.length).length + s.length, 0) := by
  rw [hl]
  unfold putS Vint.getText
  rw [List.append_assoc, Vint.getAt_put _ _ hs]
  dsimp only
  rw [if_neg (by omega), if_neg (by omega), if_neg (by simp; omega)]
  have e : (a ++ (Vint.put s.length ++ (s ++ r))).drop (a.length + (Vint.put s.length).length) = s ++ r := by
   rw [← List.append_assoc, ← List.length_append, List.drop_left]
  rw [e, List.take_left]
 unfold textR
 simp only
 rw [h, if_neg (by simp)]
 simp only [putS, List.length_append]
 rw [Nat.add_assoc]
theorem byte_put (a r : Str) (x : UInt8) : byteR (a ++ x :: r) ⟨a.length, false⟩ = (x.toNat, ⟨(a ++ [x]).length, false⟩) := by
 unfold byteR
 simp only
 rw [if_neg (by simp), List.length_append, List.length_singleton]
 have : (a ++ x :: r).getD a.length 0 = x := by rw [List.getD_eq_getElem?_getD, List.getElem?_append_right (Nat.le_refl _), Nat.sub_self]; rfl
 rw [this]
theorem of_put (a r : Str) {all : List Str} {s : Str} (hs : s ∈ all) (hl : all.length < 18446744073709551616) : ofR (a ++ (Vint.put (all.idxOf s) ++ r)) all ⟨a.length, false⟩ = (s, ⟨(a ++ Vint.put (all.idxOf s)).length, false⟩) := by
 have hi : all.idxOf s < all.length := List.idxOf_lt_length_of_mem hs
 unfold ofR
 rw [num_put _ _ (by omega)]
 simp only
 rw [if_neg (by simp; omega)]
 have : all.getD (all.idxOf s) [] = s := by
  rw [List.getD_eq_getElem?_getD, List.getElem?_eq_getElem hi, Option.getD_some]
  exact List.getElem_idxOf hi
 rw [this]
theorem int_small {n : Int} (h0 : 0 ≤ n) (h : n ≤ 9223372036854775807) : int n.toNat = n := by
 unfold int
 rw [Int.toNat_of_nonneg h0, IntKind.wrap_i64]
 omega
theorem app3 (a b c : Str) : a ++ (b ++ c) = (a ++ b) ++ c := (List.append_assoc a b c).symm
theorem good_iff {o : OpT} (h : good o = true) : rightO o = true ∧ 0 ≤ o.par ∧ 0 ≤ o.at_ := by
 unfold good at h
 simp only [Bool.and_eq_true, decide_eq_true_eq] at h
 exact ⟨h.1.1, h.1.2, h.2⟩
theorem right_cases {o : OpT} (h : rightO o = true) : 0 ≤ o.id ∧ o.id ≤ 1048576 ∧ ((o.kind = 1 ∧ 1 ≤ o.what ∧ o.what ≤ 5) ∨ o = ⟨2, o.id, 0, 0, 0, [], []⟩ ∨ o = ⟨3, o.id, o.par, o.at_, 0, [], []⟩ ∨ o = ⟨4, o.id, 0, 0, 0, o.name, o.text⟩ ∨ o = ⟨5, o.id, 0, 0, 0, o.name, []⟩ ∨ o = ⟨6, o.id, 0, 0, 0, [], o.text⟩) := by
 have hk := right_kind h
 unfold rightO at h
 by_cases hb : ((o.kind < 1 ∨ 6 < o.kind) ∨ o.id < 0) ∨ 1048576 < o.id
 ·rw [if_pos hb] at h; cases h
 rw [if_neg hb] at h
 refine ⟨by omega, by omega, ?_⟩
 by_cases h1 : o.kind = 1
 ·rw [if_pos h1] at h
  simp only [Bool.and_eq_true, decide_eq_true_eq] at h
  exact .inl ⟨h1, h.1, h.2⟩
 rw [if_neg h1] at h
 simp only [Bool.and_eq_true, decide_eq_true_eq] at h
 obtain ⟨⟨⟨⟨e1, e2⟩, e3⟩, e4⟩, e5⟩ := h
 obtain ⟨k, id, p, a, t, n, x⟩ := o
 simp only at *
 subst e3
 have hk' : k = 2 ∨ k = 3 ∨ k = 4 ∨ k = 5 ∨ k = 6 := by omega
 unfold needO at e1 e2 e4 e5
 rcases hk' with rfl | rfl | rfl | rfl | rfl <;> simp at e1 e2 e4 e5
 ·subst e1; subst e2; subst e4; subst e5; exact .inr (.inl rfl)
 ·subst e4; subst e5; exact .inr (.inr (.inl rfl))
 ·subst e1; subst e2; exact .inr (.inr (.inr (.inl rfl)))
 ·subst e1; subst e2; subst e5; exact .inr (.inr (.inr (.inr (.inl rfl))))
 ·subst e1; subst e2; subst e4; exact .inr (.inr (.inr (.inr (.inr rfl))))
theorem op_put (a r : Str) {all : List Str} {o : OpT} (hg : good o = true) (hp : o.par ≤ 9223372036854775807 ∧ o.at_ ≤ 9223372036854775807) (ht : ∀ s ∈ textsO o, s ∈ all) (hl : all.length < 18446744073709551616) : opR (a ++ (opB all o ++ r)) all ⟨a.length, false⟩ = (o, ⟨(a ++ opB all o).length, false⟩) := by
 obtain ⟨hr, hp0, ha0⟩ := good_iff hg
 obtain ⟨hi0, hi1, hc⟩ := right_cases hr
 have hid : o.id.toNat < 18446744073709551616 := by omega
 have hin := int_small hi0 (by omega)
 rcases hc with ⟨k1, w0, w1⟩ | hc
 ·have hop : opB all o = 1 :: (Vint.put o.id.toNat ++ ((Vint.put o.par.toNat ++ (Vint.put o.at_.toNat ++ Vint.put o.what.toNat)) ++ (Vint.put (all.idxOf o.name) ++ Vint.put (all.idxOf o.text)))) := by
   unfold opB numsO textsO; rw [k1]; simp
  have hn : o.name ∈ all := ht _ (by unfold textsO; rw [k1]; simp)
  have hx : o.text ∈ all := ht _ (by unfold textsO; rw [k1]; simp)
  rw [hop]
  simp only [List.cons_append, List.append_assoc]
  unfold opR
  rw [byte_put]
  simp only
  rw [if_pos (by decide), List.append_cons, num_put _ _ hid]
  simp only
  rw [app3 _ (Vint.put o.id.toNat), num_put _ _ (by omega)]
  simp only
  rw [app3 _ (Vint.put o.par.toNat), num_put _ _ (by omega)]
  simp only
  rw [app3 _ (Vint.put o.at_.toNat), num_put _ _ (by omega)]
  simp only
  rw [app3 _ (Vint.put o.what.toNat), of_put _ _ hn hl]
  simp only
  rw [app3 _ (Vint.put (all.idxOf o.name)), of_put _ _ hx hl]
  simp only
  rw [hin, int_small hp0 hp.1, int_small ha0 hp.2, int_small (by omega) (by omega)]
  obtain ⟨k, id, p, a', t, n, x⟩ := o
  simp only at k1
  subst k1
  simp
 rcases hc with hc | hc | hc | hc | hc
 ·have hop : opB all o = 2 :: Vint.put o.id.toNat := by rw [hc]; simp [opB, numsO, textsO]
  rw [hop]
  simp only [List.cons_append]
  unfold opR
  rw [byte_put]
  simp only
  rw [if_neg (by decide), if_neg (by decide), if_neg (by decide), if_neg (by decide), if_neg (by decide), List.append_cons, num_put _ _ hid]
  simp only
  rw [hin]
  have e : (⟨((2 : UInt8).toNat : Int), o.id, 0, 0, 0, [], []⟩ : OpT) = o := hc.symm
  rw [e]
  simp
 ·have hop : opB all o = 3 :: (Vint.put o.id.toNat ++ (Vint.put o.par.toNat ++ Vint.put o.at_.toNat)) := by
   have k3 : o.kind = 3 := by rw [hc]
   unfold opB numsO textsO; rw [k3]; simp
  rw [hop]
  simp only [List.cons_append, List.append_assoc]
  unfold opR
  rw [byte_put]
  simp only
  rw [if_neg (by decide), if_pos (by decide), List.append_cons, num_put _ _ hid]
  simp only
  rw [app3 _ (Vint.put o.id.toNat), num_put _ _ (by omega)]
  simp only
  rw [app3 _ (Vint.put o.par.toNat), num_put _ _ (by omega)]
  simp only
  rw [hin, int_small hp0 hp.1, int_small ha0 hp.2, ← hc]
  simp
 ·have k4 : o.kind = 4 := by rw [hc]
  have hop : opB all o = 4 :: (Vint.put o.id.toNat ++ (Vint.put (all.idxOf o.name) ++ Vint.put (all.idxOf o.text))) := by
   unfold opB numsO textsO; rw [k4]; simp
  have hn : o.name ∈ all := ht _ (by unfold textsO; rw [k4]; simp)
  have hx : o.text ∈ all := ht _ (by unfold textsO; rw [k4]; simp)
  rw [hop]
  simp only [List.cons_append, List.append_assoc]
  unfold opR
  rw [byte_put]
  simp only
  rw [if_neg (by decide), if_neg (by decide), if_pos (by decide), List.append_cons, num_put _ _ hid]
  simp only
  rw [app3 _ (Vint.put o.id.toNat), of_put _ _ hn hl]
  simp only
  rw [app3 _ (Vint.put (all.idxOf o.name)), of_put _ _ hx hl]
  simp only
  rw [hin, ← hc]
  simp
 ·have k5 : o.kind = 5 := by rw [hc]
  have hop : opB all o = 5 :: (Vint.put o.id.toNat ++ Vint.put (all.idxOf o.name)) := by
   unfold opB numsO textsO; rw [k5]; simp
  have hn : o.name ∈ all := ht _ (by unfold textsO; rw [k5]; simp)
  rw [hop]
  simp only [List.cons_append, List.append_assoc]
  unfold opR
  rw [byte_put]
  simp only
  rw [if_neg (by decide), if_neg (by decide), if_neg (by decide), if_pos (by decide), List.append_cons, num_put _ _ hid]
  simp only
  rw [app3 _ (Vint.put o.id.toNat), of_put _ _ hn hl]
  simp only
  rw [hin, ← hc]
  simp
 ·have k6 : o.kind = 6 := by rw [hc]
  have hop : opB all o = 6 :: (Vint.put o.id.toNat ++ Vint.put (all.idxOf o.text)) := by
   unfold opB numsO textsO; rw [k6]; simp
  have hx : o.text ∈ all := ht _ (by unfold textsO; rw [k6]; simp)
  rw [hop]
  simp only [List.cons_append, List.append_assoc]
  unfold opR
  rw [byte_put]
  simp only
  rw [if_neg (by decide), if_neg (by decide), if_neg (by decide), if_neg (by decide), if_pos (by decide), List.append_cons, num_put _ _ hid]
  simp only
  rw [app3 _ (Vint.put o.id.toNat), of_put _ _ hx hl]
  simp only
  rw [hin, ← hc]
  simp
theorem bytes_put (n : Nat) : ∀ (a r : Str) (x : Nat), bytesR (a ++ (lowB n x ++ r)) n ⟨a.length, false⟩ = ((lowB n x).map fun b => b.toNat, ⟨(a ++ lowB n x).length, false⟩) := by
 induction n with
 |zero => intro a r x; simp [bytesR, lowB]
 |succ n ih =>
  intro a r x
  rw [lowB, List.cons_append, bytesR, byte_put]
  simp only
  have := ih (a ++ [UInt8.ofNat x]) r (x / 256)
  rw [List.append_assoc, List.singleton_append] at this
  rw [this]
  simp
theorem hash_put (a r : Str) {x : Nat} (hx : x < 18446744073709551616) : hashR (a ++ (lowB 8 x ++ r)) ⟨a.length, false⟩ = (x, ⟨(a ++ lowB 8 x).length, false⟩) := by
 unfold hashR
 rw [bytes_put]
 simp only
 rw [val_low, Nat.mod_eq_of_lt (show x < 256 ^ 8 by omega)]
theorem strs_put : ∀ (L : List Str) (a r : Str) (acc : List Str), (∀ s ∈ L, s.length < 18446744073709551616) → strsR (a ++ (L.flatMap putS ++ r)) L.length acc ⟨a.length, false⟩ = (acc ++ L, ⟨(a ++ L.flatMap putS).length, false⟩)
 |[], a, r, acc, _ => by simp [strsR]
 |s :: L, a, r, acc, h => by
  rw [List.length_cons, strsR, if_neg (by simp), List.flatMap_cons, List.append_assoc, text_put _ _ _ (h s (by simp))]
  simp only
  rw [app3 a (putS s), strs_put L (a ++ putS s) r _ fun x hx => h x (by simp [hx])]
  simp
theorem ops_put {all : List Str} (hl : all.length < 18446744073709551616) : ∀ (L : List OpT) (a r : Str) (acc : List OpT), acc.length + L.length ≤ 1500 → (∀ o ∈ L, good o = true ∧ (o.par ≤ 9223372036854775807 ∧ o.at_ ≤ 9223372036854775807) ∧ ∀ s ∈ textsO o, s ∈ all) → opsR (a ++ (L.flatMap (opB all) ++ r)) all L.length acc ⟨a.length, false⟩ = (acc ++ L, ⟨(a ++ L.flatMap (opB all)).length, false⟩)
 |[], a, r, acc, _, _ => by simp [opsR]
 |o :: L, a, r, acc, hn, h => by
  rw [List.length_cons] at hn
  obtain ⟨h1, h2, h3⟩ := h o (by simp)
  rw [List.length_cons, opsR, if_neg (by simp; omega), List.flatMap_cons, List.append_assoc, op_put _ _ h1 h2 h3 hl]
  simp only
  rw [app3 a (opB all o), ops_put hl L (a ++ opB all o) r _ (by simp; omega) fun x hx => h x (by simp [hx])]
  simp
theorem addS_mem {all : List Str} {s x : Str} : x ∈ addS all s ↔ x ∈ all ∨ x = s := by
 unfold addS
 split
 ·rename_i h; exact ⟨.inl, fun h2 => h2.elim id fun e => e ▸ h⟩
 ·simp
theorem addL_mem : ∀ (l : List Str) (all : List Str) (x : Str), x ∈ l.foldl addS all ↔ x ∈ all ∨ x ∈ l
 |[], all, x => by simp
 |s :: r, all, x => by rw [List.foldl_cons, addL_mem r, addS_mem, List.mem_cons]; simp [or_assoc]
theorem allO_mem : ∀ (ops : List OpT) (all : List Str) (x : Str), x ∈ ops.foldl addO all ↔ x ∈ all ∨ ∃ o ∈ ops, x ∈ textsO o
 |[], all, x => by simp
 |o :: r, all, x => by
  rw [List.foldl_cons, allO_mem r]
  unfold addO
  rw [addL_mem]
  simp [or_assoc]
theorem all_mem {ops : List OpT} {x : Str} : x ∈ allS ops ↔ ∃ o ∈ ops, x ∈ textsO o := by
 unfold allS; rw [allO_mem]; simp
theorem put_pos (v : Nat) : 1 ≤ (Vint.put v).length := by
 have := Vint.put_ne v
 cases h : Vint.put v with
 |nil => exact absurd h this
 |cons a r => simp
theorem putS_len (s : Str) : s.length + 1 ≤ (putS s).length := by unfold putS; rw [List.length_append]; have := put_pos s.length; omega
theorem flat_len (L : List Str) : L.length ≤ (L.flatMap putS).length ∧ ∀ s ∈ L, s.length ≤ (L.flatMap putS).length := by
 induction L with
 |nil => simp
 |cons s r ih =>
  have := putS_len s
  rw [List.flatMap_cons, List.length_append, List.length_cons]
  refine ⟨by omega, fun x hx => ?_⟩
  rcases List.mem_cons.1 hx with rfl | hx
  ·omega
  ·have := ih.2 x hx; omega
theorem dec_enc {x y : Nat} {ops : List OpT} (hx : x < 18446744073709551616) (hy : y < 18446744073709551616) (hb : ∀ o ∈ ops, o.par ≤ 9223372036854775807 ∧ o.at_ ≤ 9223372036854775807) (h : (enc x y ops).2 = 0) : dec (enc x y ops).1 = ((x, y, ops), 0) := by
 have henc := h
 unfold enc at h
 by_cases h1 : 1500 < ops.length
 ·rw [if_pos h1] at h; cases h
 rw [if_neg h1] at h
 by_cases h2 : ops.all good = false
 ·rw [if_pos h2] at h; cases h
 rw [if_neg h2] at h
 by_cases h3 : 65536 < (body x y ops).length + 4
 ·rw [if_pos h3] at h; cases h
 have he : enc x y ops = (body x y ops ++ lowB 4 (Crc.more 0 (body x y ops)), 0) := by unfold enc; rw [if_neg h1, if_neg h2, if_neg h3]
 have hg : ∀ o ∈ ops, good o = true := by
  have : ops.all good = true := by simpa using h2
  exact List.all_eq_true.1 this
 have hA := flat_len (allS ops)
 have hbl : (body x y ops).length = 20 + ((Vint.put (allS ops).length).length + (((allS ops).flatMap putS).length + ((Vint.put ops.length).length + (ops.flatMap (opB (allS ops))).length))) := by
  unfold body
  simp only [List.length_append, head_len]
 have hp1 := put_pos (allS ops).length
 have hp2 := put_pos ops.length
 have hparse : parse (body x y ops) = ((x, y, ops), false) := by
  have e : body x y ops = [116, 112, 121, 49] ++ (lowB 8 x ++ (lowB 8 y ++ (Vint.put (allS ops).length ++ ((allS ops).flatMap putS ++ (Vint.put ops.length ++ (ops.flatMap (opB (allS ops)) ++ [])))))) := by
   unfold body head; simp only [List.append_assoc, List.append_nil]
  unfold parse
  rw [e]
  have e4 : (4 : Nat) = ([116, 112, 121, 49] : Str).length := rfl
  rw [e4, hash_put _ _ hx]
  simp only
  rw [app3 _ (lowB 8 x), hash_put _ _ hy]
  simp only
  rw [app3 _ (lowB 8 y), num_put _ _ (by omega)]
  simp only
  rw [app3 _ (Vint.put (allS ops).length), strs_put _ _ _ _ fun s hs => by have := hA.2 s hs; omega]
  simp only
  rw [app3 _ ((allS ops).flatMap putS), num_put _ _ (by omega)]
  simp only
  rw [app3 _ (Vint.put ops.length), List.nil_append, ops_put (by omega) _ _ _ _ (by simp; omega) fun o ho => ⟨hg o ho, hb o ho, fun s hs => all_mem.2 ⟨o, ho, hs⟩⟩]
  simp only [List.nil_append]
 have hlen : (body x y ops ++ lowB 4 (Crc.more 0 (body x y ops))).length = (body x y ops).length + 4 := by rw [List.length_append, lowB_len]
 rw [he]
 unfold dec
 simp only
 have ht : (body x y ops ++ lowB 4 (Crc.more 0 (body x y ops))).take ((body x y ops ++ lowB 4 (Crc.more 0 (body x y ops))).length - 4) = body x y ops := by
  rw [hlen, Nat.add_sub_cancel, List.take_left]
 have hd : (body x y ops ++ lowB 4 (Crc.more 0 (body x y ops))).drop ((body x y ops ++ lowB 4 (Crc.more 0 (body x y ops))).length - 4) = lowB 4 (Crc.more 0 (body x y ops)) := by
  rw [hlen, Nat.add_sub_cancel, List.drop_left]
 rw [ht, hd, hlen, if_neg (by omega), if_neg (by omega), if_neg (by simp), hparse]
 simp only
 rw [if_neg (by decide), he, if_pos rfl]
theorem enc_nil (x y : Nat) : enc x y [] = (head x y ++ [0, 0] ++ lowB 4 (Crc.more 0 (head x y ++ [0, 0])), 0) := by
 have hb : body x y [] = head x y ++ [0, 0] := by
  have e : Vint.put 0 = [0] := Vint.put_small (by decide)
  unfold body allS
  simp [e]
 unfold enc
 rw [if_neg (by simp), if_neg (by simp), hb, if_neg (by simp [head_len])]
end Cdc
end
section
open Go.RowKit Cdc
def wc (x : Str) : List Value := [.string (Bs x)]
def zc (z : Int) : List Value := [.int .i64 z]
theorem ones_wc (x : Str) : ∀ u ∈ [wc x].flatten, u.oneCell' = true := by intro u hu; simp [wc] at hu; subst hu; rfl
theorem Own.many {A : List Nat} {w : World} {B size : Nat} {S : TypeId} {us : List (List Value)} (h : Box w B S us.flatten) (hu : ∀ u ∈ us, u.length = size) (hn : us.length ≤ maxLen) (hA : B ∉ A) : Own A w ⟨some ⟨B, 0, none⟩, us.length, us.length⟩ size S us :=
 ⟨rfl, Nat.le_refl _, hn, hu, .inr ⟨B, us.flatten, rfl, hA, h, flatten_len us hu, by rw [← flatten_len us hu, List.take_length]⟩⟩
theorem Row.wAt {A : List Nat} {w : World} {s : Sl} {xs : List Str} (h : Row A w s 1 (xs.map wc)) {k : Nat} (hk : k < xs.length) : ∃ p, s.a = some p ∧ w.cell? (p.add (k * 1)) = some (.string (Bs (xs.getD k []))) := by
 obtain ⟨p, h1, _, h3, _⟩ := h.at_ k (by simpa using hk)
 refine ⟨p, h1, ?_⟩
 have := h3 0 (.string (Bs (xs.getD k []))) (by simp [List.getD_eq_getElem?_getD, hk, wc])
 rwa [Addr.add_zero'] at this
theorem Row.zAt {A : List Nat} {w : World} {s : Sl} {xs : List Int} (h : Row A w s 1 (xs.map zc)) {k : Nat} (hk : k < xs.length) : ∃ p, s.a = some p ∧ w.cell? (p.add (k * 1)) = some (.int .i64 (xs.getD k 0)) := by
 obtain ⟨p, h1, _, h3, _⟩ := h.at_ k (by simpa using hk)
 refine ⟨p, h1, ?_⟩
 have := h3 0 (.int .i64 (xs.getD k 0)) (by simp [List.getD_eq_getElem?_getD, hk, zc])
 rwa [Addr.add_zero'] at this
theorem cdcTexts (o : OpT) {w : World} : Calls Tryz.prog 25 #[ov o] w (Ret fun v w' => Ext w w' ∧ ∃ s : Sl, v = s.v ∧ Own [] w' s 1 9 ((textsO o).map wc) ∧ ∀ b ∈ s.blk, w.heap.size ≤ b) := by
 refine codec_texts.ok _ _ _ _ _ _ _ ?_
 unfold codec_texts.vc
 refine ⟨fun h w1 B1 B2 _ hN _ hE hB => ⟨hE, _, rfl, ?_, by simpa [Sl.blk] using hN.ge⟩, fun h => ⟨fun h5 w1 B1 B2 _ hN _ hE hB => ⟨hE, _, rfl, ?_, by simpa [Sl.blk] using hN.ge⟩, fun h5 => ⟨fun h6 w1 B1 B2 _ hN _ hE hB => ⟨hE, _, rfl, ?_, by simpa [Sl.blk] using hN.ge⟩, fun h6 w1 B1 _ hE => ⟨hE, _, rfl, ?_, by simp [Sl.blk]⟩⟩⟩⟩
 ·have e : textsO o = [o.name, o.text] := if_pos h
  rw [e]; exact Own.many (us := [wc o.name, wc o.text]) hB (by simp [wc]) (by simp [maxLen]) (by simp)
 ·have e : textsO o = [o.name] := by unfold textsO; rw [if_neg (by omega), if_pos h5]
  rw [e]; exact Own.many (us := [wc o.name]) hB (by simp [wc]) (by simp [maxLen]) (by simp)
 ·have e : textsO o = [o.text] := by unfold textsO; rw [if_neg (by omega), if_neg h5, if_pos h6]
  rw [e]; exact Own.many (us := [wc o.text]) hB (by simp [wc]) (by simp [maxLen]) (by simp)
 ·have e : textsO o = [] := by unfold textsO; rw [if_neg (by omega), if_neg h5, if_neg h6]
  rw [e]; exact Own.nil _ _ _ _
theorem cdcNumbers (o : OpT) {w : World} : Calls Tryz.prog 29 #[ov o] w (Ret fun v w' => Ext w w' ∧ ∃ s : Sl, v = s.v ∧ Own [] w' s 1 3 ((numsO o).map zc)) := by
 refine codec_numbers.ok _ _ _ _ _ _ _ ?_
 unfold codec_numbers.vc
 refine ⟨fun h w1 B1 B2 _ _ _ hE hB => ⟨hE, _, rfl, ?_⟩, fun h => ⟨fun h5 w1 B1 B2 _ _ _ hE hB => ⟨hE, _, rfl, ?_⟩, fun h6 w1 B1 _ hE => ⟨hE, _, rfl, ?_⟩⟩⟩
 ·have e : numsO o = [o.par, o.at_, o.what] := if_pos h
  rw [e]; exact Own.many (us := [zc o.par, zc o.at_, zc o.what]) hB (by simp [zc]) (by simp [maxLen]) (by simp)
 ·have e : numsO o = [o.par, o.at_] := by unfold numsO; rw [if_neg h, if_pos h5]
  rw [e]; exact Own.many (us := [zc o.par, zc o.at_]) hB (by simp [zc]) (by simp [maxLen]) (by simp)
 ·have e : numsO o = [] := by unfold numsO; rw [if_neg h, if_neg h6]
  rw [e]; exact Own.nil _ _ _ _
theorem list8 {l : List Int} (h : l.length = 8) : [l.getD 0 0, l.getD 1 0, l.getD 2 0, l.getD 3 0, l.getD 4 0, l.getD 5 0, l.getD 6 0, l.getD 7 0] = l := by
 match l, h with
 |[_, _, _, _, _, _, _, _], _ => rfl
def first8 (f : Nat → Nat) (n : Nat) : List Int := (List.range 8).map fun i => if i < n then ((f i : Nat) : Int) else 0
theorem first8_set (f : Nat → Nat) {n : Nat} (hn : n < 8) : (first8 f n).set n ((f n : Nat) : Int) = first8 f (n + 1) := by
 apply List.ext_getElem?
 intro i
 unfold first8
 rw [List.getElem?_set]
 by_cases hi : i < 8
 ·by_cases he : n = i
  ·subst he; simp [hi]
  ·have h1 : (i < n) ↔ (i < n + 1) := by omega
   simp [hi, he, h1]
 ·have he : ¬ n = i := by omega
  simp [hi, he]
theorem low8 (v : Nat) : first8 (fun i => v / 2 ^ (8 * i) % 256) 8 = (lowB 8 v).map fun b => ((b.toNat : Nat) : Int) := by
 simp only [lowB, List.map_cons, List.map_nil, Nat.div_div_eq_div_mul]
 unfold first8
 simp [List.range, List.range.loop]
theorem bitsBytes (v : Nat) {w : World} : Calls Tryz.prog 26 #[.int .u64 (v : Int)] w (Ret fun u w' => Ext w w' ∧
  ∃ c0 c1 c2 c3 c4 c5 c6 c7 : Int, u = .agg #[.int .u8 c0, .int .u8 c1, .int .u8 c2, .int .u8 c3, .int .u8 c4, .int .u8 c5, .int .u8 c6, .int .u8 c7] ∧ [c0, c1, c2, c3, c4, c5, c6, c7] = (lowB 8 v).map fun b => ((b.toNat : Nat) : Int)) := by
 refine bits_Bytes.ok _ ?_
 unfold bits_Bytes.vc
 intro w1 B1 B2 hN1 hN2 _ hE1
 refine ⟨fun x c0 c1 c2 c3 c4 c5 c6 c7 w' => ∃ n : Nat, n ≤ 8 ∧ x = (n : Int) ∧ Ext w w' ∧ [c0, c1, c2, c3, c4, c5, c6, c7] = first8 (fun i => v / 2 ^ (8 * i) % 256) n, fun x _ _ _ _ _ _ _ _ _ => 8 - x.toNat, ⟨0, by omega, rfl, hE1, rfl⟩, ?_⟩
 rintro _ c0 c1 c2 c3 c4 c5 c6 c7 w2 ⟨n, hn, rfl, hE2, hc⟩
 rw [hc]
 refine ⟨fun hlt => ⟨⟨by omega, by omega⟩, ⟨by omega, by omega⟩, ⟨by omega, by omega⟩, ⟨by omega, by omega⟩, fun w3 hC => ?_⟩, fun hge w3 hC => ?_⟩
 ·have ev : IntKind.u8.wrap ((v : Int) / 2 ^ (8 * (n : Int)).toNat) = ((v / 2 ^ (8 * n) % 256 : Nat) : Int) := by
   rw [show (8 * (n : Int)).toNat = 8 * n by omega, show ((v : Int) / 2 ^ (8 * n)) = ((v / 2 ^ (8 * n) : Nat) : Int) by push_cast; rfl, IntKind.wrap_u8]
   omega
  rw [Int.toNat_natCast, ev]
  have hs := first8_set (fun i => v / 2 ^ (8 * i) % 256) (n := n) (by omega)
  rw [hs]
  exact ⟨⟨n + 1, by omega, by omega, Chg.fresh hE2 hC (by simpa using hN2.ge), list8 (by simp [first8])⟩, by dsimp only; omega⟩
 ·have hn8 : n = 8 := by omega
  subst hn8
  refine ⟨Chg.fresh hE2 hC (by simpa using hN1.ge), c0, c1, c2, c3, c4, c5, c6, c7, rfl, ?_⟩
  rw [hc, low8]
theorem val_take (l : List Nat) {n : Nat} (h : n < l.length) : val (l.take (n + 1)) = val (l.take n) + l.getD n 0 * 2 ^ (8 * n) := by
 induction l generalizing n with
 |nil => simp at h
 |cons x r ih =>
  cases n with
  |zero => simp [val]
  |succ n =>
   simp only [List.length_cons] at h
   have := ih (n := n) (by omega)
   rw [List.take_succ_cons, val, this, List.take_succ_cons, val, List.getD_cons_succ, show 8 * (n + 1) = 8 * n + 8 by omega, Nat.pow_add]
   rw [Nat.mul_add, Nat.mul_left_comm, ← Nat.add_assoc, show (2 : Nat) ^ 8 = 256 from rfl]
   congr 1
   rw [Nat.mul_comm 256]
theorem val_take_lt (l : List Nat) (hl : ∀ x ∈ l, x < 256) (n : Nat) : val (l.take n) < 2 ^ (8 * n) := by
 induction l generalizing n with
 |nil => simp [val]; exact Nat.two_pow_pos _
 |cons x r ih =>
  cases n with
  |zero => simp [val]
  |succ n =>
   have := ih (fun y hy => hl y (by simp [hy])) n
   have hx := hl x (by simp)
   rw [List.take_succ_cons, val, show 8 * (n + 1) = 8 * n + 8 by omega, Nat.pow_add, show (2 : Nat) ^ 8 = 256 from rfl]
   omega
theorem bitsOf {ns : List Nat} (hn : ns.length = 8) (hb : ∀ x ∈ ns, x < 256) {c0 c1 c2 c3 c4 c5 c6 c7 : Int} (hc : [c0, c1, c2, c3, c4, c5, c6, c7] = ns.map fun n => ((n : Nat) : Int)) {w : World} :
  Calls Tryz.prog 55 #[.agg #[.int .u8 c0, .int .u8 c1, .int .u8 c2, .int .u8 c3, .int .u8 c4, .int .u8 c5, .int .u8 c6, .int .u8 c7]] w (Ret fun u w' => Ext w w' ∧ u = .int .u64 ((val ns : Nat) : Int)) := by
 refine bits_Of.ok _ _ _ _ _ _ _ _ ?_
 unfold bits_Of.vc
 rw [hc]
 intro w1 B1 _ hE1
 refine ⟨fun v x w' => ∃ n : Nat, n ≤ 8 ∧ x = (n : Int) ∧ Ext w w' ∧ v = ((val (ns.take n) : Nat) : Int), fun _ x _ => 8 - x.toNat, ⟨0, by omega, rfl, hE1, rfl⟩, ?_⟩
 rintro _ _ w2 ⟨n, hn8, rfl, hE2, rfl⟩
 refine ⟨fun hlt => ⟨⟨by omega, by omega⟩, ⟨by omega, by omega⟩, ⟨by omega, by omega⟩, ⟨by omega, by omega⟩, ?_⟩, fun hge => ⟨hE2, ?_⟩⟩
 ·have hlt' : n < ns.length := by omega
  have hv := val_take_lt ns hb n
  have hx : ns.getD n 0 < 256 := hb _ (by rw [List.getD_eq_getElem?_getD, List.getElem?_eq_getElem hlt']; exact List.getElem_mem hlt')
  have hp : 2 ^ (8 * n) ≤ 2 ^ 56 := Nat.pow_le_pow_right (by decide) (by omega)
  have hfit : ns.getD n 0 * 2 ^ (8 * n) ≤ 255 * 2 ^ (8 * n) := Nat.mul_le_mul_right _ (by omega)
  have eg : (ns.map fun n => ((n : Nat) : Int)).getD n 0 = ((ns.getD n 0 : Nat) : Int) := by simp [List.getD_eq_getElem?_getD, hlt']
  rw [Int.toNat_natCast, eg, show (8 * (n : Int)).toNat = 8 * n by omega]
  generalize hy : ns.getD n 0 = y at *
  have e1 : IntKind.u64.wrap (y : Int) = (y : Int) := by rw [IntKind.wrap_u64]; omega
  have e2 : IntKind.u64.wrap ((y : Int) * 2 ^ (8 * n)) = ((y * 2 ^ (8 * n) : Nat) : Int) := by
   rw [show ((y : Int) * 2 ^ (8 * n)) = ((y * 2 ^ (8 * n) : Nat) : Int) by push_cast; rfl, IntKind.wrap_u64]; omega
  rw [e1, e2, Go.u64_or_nat _ _ (by omega) (by omega)]
  refine ⟨⟨n + 1, by omega, by omega, hE2, ?_⟩, by dsimp only; omega⟩
  rw [val_take ns hlt', hy, Nat.or_comm, Nat.mul_comm y, ← Nat.two_pow_add_eq_or_of_lt hv, Nat.add_comm]
 ·rw [show n = 8 by omega, List.take_of_length_le (by omega)]
theorem low4 (x : Nat) {n : Nat} (h : n < 4) : (lowB 4 x).take (n + 1) = (lowB 4 x).take n ++ [UInt8.ofNat (x / 2 ^ (8 * n))] := by
 have hn : n = 0 ∨ n = 1 ∨ n = 2 ∨ n = 3 := by omega
 rcases hn with rfl | rfl | rfl | rfl <;> simp [lowB, Nat.div_div_eq_div_mul]
theorem cdcSums {A : List Nat} {w : World} {b : Sl} {xs : List UInt8} (h : RdB A w b xs) :
  Calls Tryz.prog 30 #[b.v] w (Ret fun v w' => Ext w w' ∧ ∃ s : Sl, v = s.v ∧ OwnB [] w' s 5 (lowB 4 (Crc.more 0 xs)) ∧ ∀ x ∈ s.blk, w.heap.size ≤ x) := by
 refine codec_sums.ok _ ?_
 unfold codec_sums.vc
 refine CallK.exact (crcOf h) fun w1 hE1 => ⟨_, rfl, ?_⟩
 generalize hx : Crc.more 0 xs = x
 refine ⟨fun s i w' => ∃ n : Nat, n ≤ 4 ∧ i = (n : Int) ∧ OwnB [] w' s 5 ((lowB 4 x).take n) ∧ Ext w w' ∧ ∀ b ∈ s.blk, w.heap.size ≤ b, fun _ i _ => 4 - i.toNat, ⟨0, by omega, rfl, Own.nil _ _ _ _, hE1, by simp [Sl.blk]⟩, ?_⟩
 rintro s _ w2 ⟨n, hn, rfl, hO, hE2, hbl⟩
 refine ⟨fun hlt => ⟨⟨by omega, by omega⟩, ⟨by omega, by omega⟩, fun w3 B hN hE3 hB => ?_⟩, fun hge => ⟨hE2, s, rfl, ?_, hbl⟩⟩
 ·have hv : IntKind.u8.wrap ((x : Int) / 2 ^ (8 * (n : Int)).toNat) = (((UInt8.ofNat (x / 2 ^ (8 * n))).toNat : Nat) : Int) := by
   rw [show (8 * (n : Int)).toNat = 8 * n by omega, show ((x : Int) / 2 ^ (8 * n)) = ((x / 2 ^ (8 * n) : Nat) : Int) by push_cast; rfl, IntKind.wrap_u8]
   simp
  obtain ⟨s', w4, hr, ho, hsz, hc, hb4⟩ := appendOne _ hO.app hE3 hB hv (by rw [List.length_take]; omega)
  refine ⟨_, _, hr, (fun _ hb => by cases hb), hsz, s', rfl, ⟨by omega, by omega⟩, ⟨n + 1, by omega, by omega, ?_, Chg.fresh hE2 hc (fun b hb => hbl b (Sl.own_blk hb)), fun b hb => (hb4 b hb).elim (fun h => hbl b (Sl.own_blk h)) (fun h => Nat.le_trans hE2.size h)⟩, by dsimp only; omega⟩
  rw [low4 x (by omega)]; exact ho
 ·have hn4 : n = 4 := by omega
  rw [hn4, List.take_of_length_le (by rw [lowB_len]; exact Nat.le_refl _)] at hO
  exact hO
structure Rdr (w0 w : World) (B : Nat) (T : TypeId) (b : Sl) (bs : Str) (r : Rs) : Prop where
 chg : Chg [B] w0 w
 old : B < w0.heap.size
 box : Box w B T [b.v, .int .i64 (r.at_ : Int), .bool r.bad]
 rd0 : RdB [B] w0 b bs
section
variable {w0 w w' : World} {B : Nat} {T : TypeId} {b : Sl} {bs : Str} {r : Rs}
theorem Rdr.rd (h : Rdr w0 w B T b bs r) : RdB [B] w b bs := h.rd0.chg h.chg (by simp)
theorem Rdr.ext (h : Rdr w0 w B T b bs r) (c : Ext w w') : Rdr w0 w' B T b bs r := ⟨h.chg.trans c.ext, h.old, h.box.ext c, h.rd0⟩
theorem Rdr.new {F : List Nat} (h : Rdr w0 w B T b bs r) (c : Chg F w w') (hF : ∀ x ∈ F, w0.heap.size ≤ x) : Rdr w0 w' B T b bs r := by
 have hB : B ∉ F := fun hm => by have := hF B hm; have := h.old; omega
 exact ⟨h.chg.more' c fun x hx => .inr (hF x hx), h.old, h.box.keep c hB, h.rd0⟩
theorem Rdr.row {A : List Nat} {s : Sl} {size : Nat} {vs : List (List Value)} (h : Rdr w0 w B T b bs r) (hr : Row A w0 s size vs) (hA : B ∈ A) : Row A w s size vs := hr.chg h.chg (by simpa using hA)
theorem Rdr.call {f : FuncId} {args : Array Value} {bx : List Nat} {v : Value} {r' : Rs} {K : Value → World → Prop} (h : Rdr w0 w B T b bs r) (hbx : ∀ x ∈ bx, w0.heap.size ≤ x)
  (hc : Calls Tryz.prog f args w (Ret fun u w' => Chg [B] w w' ∧ u = v ∧ Box w' B T [b.v, .int .i64 (r'.at_ : Int), .bool r'.bad]))
  (k : ∀ w', Rdr w0 w' B T b bs r' → Chg [B] w w' → K v w') : CallK Tryz.prog f args w bx K :=
 CallK.chg hc (fun x hx hm => by have := hbx x hx; have := h.old; simp at hm; omega) fun u w' hC ⟨hu, hB⟩ => hu ▸ k w' ⟨h.chg.trans hC, h.old, hB, h.rd0⟩ hC
theorem Rdr.numberC (h : Rdr w0 w B T b bs r) : Calls Tryz.prog 32 #[.pointer (some ⟨B, 0, none⟩)] w (Ret fun u w' => Chg [B] w w' ∧ u = .int .u64 (((numR bs r).1 : Nat) : Int) ∧ Box w' B T [b.v, .int .i64 ((numR bs r).2.at_ : Int), .bool (numR bs r).2.bad]) := by
 refine codec_reader_number.ok _ ?_
 unfold codec_reader_number.vc
 intro w1 hE1
 have h1 := h.box.ext hE1
 refine ⟨b, h1.cell 0 _ rfl, _, h1.cell 1 _ rfl, _, _, _, fun w' hE => vintGet (r.at_ : Int) ((h.rd.ext hE1).ext hE), fun w2 hE2 => ?_⟩
 have h2 := h1.ext hE2
 have hE := hE1.trans hE2
 refine ⟨r.bad, h2.cell 2 _ rfl, fun hc => ⟨B, 2, T, _, rfl, h2, by simp, (fun _ hb => by cases hb), fun w3 hC hB => ?_⟩, fun hc => ⟨B, 1, T, _, rfl, h2, by simp, (fun _ hb => by cases hb), fun w3 hC hB => ?_⟩⟩
 ·have e : numR bs r = (0, ⟨r.at_, true⟩) := if_pos (hc.imp_right fun h => by omega)
  rw [e]; exact ⟨hE.ext.trans hC, rfl, hB⟩
 ·have e : numR bs r = ((Vint.getAt bs r.at_).1, ⟨(Vint.getAt bs r.at_).2.1, false⟩) := if_neg fun h => h.elim (fun h => by rw [hc.1] at h; cases h) (fun h => hc.2 (by omega))
  rw [e]
  rw [hc.1] at hB
  exact ⟨hE.ext.trans hC, rfl, hB⟩
theorem Rdr.number {bx : List Nat} {K : Value → World → Prop} (h : Rdr w0 w B T b bs r) (hbx : ∀ x ∈ bx, w0.heap.size ≤ x) (k : ∀ w', Rdr w0 w' B T b bs (numR bs r).2 → Chg [B] w w' → K (.int .u64 (((numR bs r).1 : Nat) : Int)) w') :
  CallK Tryz.prog 32 #[.pointer (some ⟨B, 0, none⟩)] w bx K := h.call hbx h.numberC k
theorem Rdr.textC (h : Rdr w0 w B T b bs r) : Calls Tryz.prog 33 #[.pointer (some ⟨B, 0, none⟩)] w (Ret fun u w' => Chg [B] w w' ∧ u = .string (Bs (textR bs r).1) ∧ Box w' B T [b.v, .int .i64 ((textR bs r).2.at_ : Int), .bool (textR bs r).2.bad]) := by
 refine codec_reader_text.ok _ ?_
 unfold codec_reader_text.vc
 intro w1 hE1
 have h1 := h.box.ext hE1
 have hl := h.rd.len
 have hm := h.rd.most
 refine ⟨b, h1.cell 0 _ rfl, _, h1.cell 1 _ rfl, b, h1.cell 0 _ rfl, _, _, _, fun w' hE => vintGetText (r.at_ : Int) (b.n : Int) (by omega) ((h.rd.ext hE1).ext hE), fun w2 hE2 => ?_⟩
 rw [hl]
 have h2 := h1.ext hE2
 have hE := hE1.trans hE2
 refine ⟨r.bad, h2.cell 2 _ rfl, fun hc => ⟨B, 2, T, _, rfl, h2, by simp, (fun _ hb => by cases hb), fun w3 hC hB => ?_⟩, fun hc => ⟨B, 1, T, _, rfl, h2, by simp, (fun _ hb => by cases hb), fun w3 hC hB => ?_⟩⟩
 ·have e : textR bs r = ([], ⟨r.at_, true⟩) := if_pos (hc.imp_right fun h => by omega)
  rw [e]; exact ⟨hE.ext.trans hC, rfl, hB⟩
 ·have e : textR bs r = ((Vint.getText bs r.at_ bs.length).1, ⟨(Vint.getText bs r.at_ bs.length).2.1, false⟩) := if_neg fun h => h.elim (fun h => by rw [hc.1] at h; cases h) (fun h => hc.2 (by omega))
  rw [e]
  rw [hc.1] at hB
  exact ⟨hE.ext.trans hC, rfl, hB⟩
theorem Rdr.text {bx : List Nat} {K : Value → World → Prop} (h : Rdr w0 w B T b bs r) (hbx : ∀ x ∈ bx, w0.heap.size ≤ x) (k : ∀ w', Rdr w0 w' B T b bs (textR bs r).2 → Chg [B] w w' → K (.string (Bs (textR bs r).1)) w') :
  CallK Tryz.prog 33 #[.pointer (some ⟨B, 0, none⟩)] w bx K := h.call hbx h.textC k
theorem Rdr.byteC (h : Rdr w0 w B T b bs r) : Calls Tryz.prog 54 #[.pointer (some ⟨B, 0, none⟩)] w (Ret fun u w' => Chg [B] w w' ∧ u = .int .u8 (((byteR bs r).1 : Nat) : Int) ∧ Box w' B T [b.v, .int .i64 ((byteR bs r).2.at_ : Int), .bool (byteR bs r).2.bad]) := by
 refine codec_reader_byte.ok _ ?_
 unfold codec_reader_byte.vc
 intro w1 hE1
 have h1 := h.box.ext hE1
 have hl := h.rd.len
 have hm := h.rd.most
 refine ⟨r.bad, h1.cell 2 _ rfl, _, fun _ => h1.cell 1 _ rfl, b, fun _ => h1.cell 0 _ rfl, fun hc w2 hE2 => ⟨B, 2, T, _, rfl, h1.ext hE2, by simp, (fun _ hb => by cases hb), fun w3 hC hB => ?_⟩,
  fun hc w2 hE2 => ⟨_, (h1.ext hE2).cell 1 _ rfl, ⟨by omega, by omega⟩, B, 1, T, _, rfl, h1.ext hE2, by simp, (fun _ hb => by cases hb), fun w3 hC hB w4 hE4 => ?_⟩⟩
 ·have e : byteR bs r = (0, ⟨r.at_, true⟩) := if_pos (hc.imp_right fun h => by omega)
  rw [e]; exact ⟨(hE1.trans hE2).ext.trans hC, rfl, hB⟩
 ·have e : byteR bs r = ((bs.getD r.at_ 0).toNat, ⟨r.at_ + 1, false⟩) := if_neg fun h => h.elim (fun h => by rw [hc.1] at h; cases h) (fun h => hc.2 (by omega))
  have hB4 := hB.ext hE4
  have hC3 : Chg [B] w w4 := ((hE1.trans hE2).ext.trans hC).trans hE4.ext
  obtain ⟨p, hp, _, hcell⟩ := (h.rd.chg hC3 (by simp)).at (i := (r.at_ : Int)) (by omega) (by omega)
  have e1 : (r.at_ : Int) + 1 - 1 = (r.at_ : Int) := by omega
  refine ⟨b, hB4.cell 0 _ rfl, (r.at_ : Int) + 1, hB4.cell 1 _ rfl, ⟨by omega, by omega⟩, p, ⟨⟨by omega, by omega⟩, hp⟩, _, by rw [e1]; exact hcell, fun w5 hE5 => ?_⟩
  rw [e]
  refine ⟨hC3.trans hE5.ext, by rw [Int.toNat_natCast], ?_⟩
  have := hB4.ext hE5
  rw [hc.1] at this
  exact this
theorem Rdr.byte {bx : List Nat} {K : Value → World → Prop} (h : Rdr w0 w B T b bs r) (hbx : ∀ x ∈ bx, w0.heap.size ≤ x) (k : ∀ w', Rdr w0 w' B T b bs (byteR bs r).2 → Chg [B] w w' → K (.int .u8 (((byteR bs r).1 : Nat) : Int)) w') :
  CallK Tryz.prog 54 #[.pointer (some ⟨B, 0, none⟩)] w bx K := h.call hbx h.byteC k
theorem Rdr.ofC (h : Rdr w0 w B T b bs r) {sa : Sl} {all : List Str} (ha : Row [B] w0 sa 1 (all.map wc)) : Calls Tryz.prog 58 #[.pointer (some ⟨B, 0, none⟩), sa.v] w (Ret fun u w' => Chg [B] w w' ∧ u = .string (Bs (ofR bs all r).1) ∧ Box w' B T [b.v, .int .i64 ((ofR bs all r).2.at_ : Int), .bool (ofR bs all r).2.bad]) := by
 refine codec_reader_of.ok _ _ ?_
 unfold codec_reader_of.vc
 have hl := ha.len
 rw [List.length_map] at hl
 have hm : sa.n ≤ 9223372036854775807 := by have h1 := ha.cap; have h2 := ha.most; unfold maxLen at h2; omega
 have ew : IntKind.u64.wrap (sa.n : Int) = (all.length : Int) := by rw [IntKind.wrap_u64]; omega
 rw [ew]
 refine h.number (by simp) fun w1 h1 hC1 => ⟨_, rfl, _, h1.box.cell 2 _ rfl, fun hc => ⟨B, 2, T, _, rfl, h1.box, by simp, (fun _ hb => by cases hb), fun w2 hC hB => ?_⟩, fun hc => ?_⟩
 ·have e : ofR bs all r = ([], ⟨(numR bs r).2.at_, true⟩) := if_pos (hc.imp_right fun h => by omega)
  rw [e]; exact ⟨hC1.trans hC, rfl, hB⟩
 ·have e : ofR bs all r = (all.getD (numR bs r).1 [], (numR bs r).2) := if_neg fun h => h.elim (fun h => by rw [hc.1] at h; cases h) (fun h => hc.2 (by omega))
  obtain ⟨p, hp, hcell⟩ := (h1.row ha (by simp)).wAt (k := (numR bs r).1) (by omega)
  rw [e, Int.toNat_natCast]
  exact ⟨⟨by omega, by omega⟩, p, hp, _, hcell, hC1, rfl, h1.box⟩
theorem Rdr.of {sa : Sl} {all : List Str} {bx : List Nat} {K : Value → World → Prop} (h : Rdr w0 w B T b bs r) (ha : Row [B] w0 sa 1 (all.map wc)) (hbx : ∀ x ∈ bx, w0.heap.size ≤ x) (k : ∀ w', Rdr w0 w' B T b bs (ofR bs all r).2 → Chg [B] w w' → K (.string (Bs (ofR bs all r).1)) w') :
  CallK Tryz.prog 58 #[.pointer (some ⟨B, 0, none⟩), sa.v] w bx K := h.call hbx (h.ofC ha) k
theorem bytesR_snoc (b : Str) (n : Nat) : ∀ r, bytesR b (n + 1) r = ((bytesR b n r).1 ++ [(byteR b (bytesR b n r).2).1], (byteR b (bytesR b n r).2).2) := by
 induction n with
 |zero => intro r; rfl
 |succ n ih =>
  intro r
  rw [bytesR, ih, bytesR]
  rfl
theorem byteR_lt (b : Str) (r : Rs) : (byteR b r).1 < 256 := by
 unfold byteR
 split
 ·exact (by decide : (0 : Nat) < 256)
 ·exact (b.getD r.at_ 0).toNat_lt
theorem bytesR_ok (b : Str) (n : Nat) : ∀ r, (bytesR b n r).1.length = n ∧ ∀ x ∈ (bytesR b n r).1, x < 256 := by
 induction n with
 |zero => intro r; exact ⟨rfl, by simp [bytesR]⟩
 |succ n ih =>
  intro r
  obtain ⟨h1, h2⟩ := ih r
  rw [bytesR_snoc]
  refine ⟨by simp [h1], fun x hx => ?_⟩
  rcases List.mem_append.1 hx with h | h
  ·exact h2 x h
  ·simp at h; subst h; exact byteR_lt _ _
theorem first8_at (l : List Nat) {n : Nat} (h : l.length = n) (x : Nat) : first8 (fun i => (l ++ [x]).getD i 0) n = first8 (fun i => l.getD i 0) n := by
 unfold first8
 apply List.map_congr_left
 intro i hi
 by_cases hin : i < n
 ·simp [hin, List.getD_eq_getElem?_getD, List.getElem?_append_left (show i < l.length by omega)]
 ·simp [hin]
theorem Rdr.hashC (h : Rdr w0 w B T b bs r) : Calls Tryz.prog 31 #[.pointer (some ⟨B, 0, none⟩)] w (Ret fun u w' => Chg [B] w w' ∧ u = .int .u64 (((hashR bs r).1 : Nat) : Int) ∧ Box w' B T [b.v, .int .i64 ((hashR bs r).2.at_ : Int), .bool (hashR bs r).2.bad]) := by
 refine codec_reader_hash.ok _ ?_
 unfold codec_reader_hash.vc
 intro w1 B1 hN1 hE1
 have h0 : Rdr w w1 B T b bs r := ⟨hE1.ext, h.box.lt, h.box.ext hE1, h.rd⟩
 refine ⟨fun x c0 c1 c2 c3 c4 c5 c6 c7 w' => ∃ n : Nat, n ≤ 8 ∧ x = (n : Int) ∧ Rdr w w' B T b bs (bytesR bs n r).2 ∧ [c0, c1, c2, c3, c4, c5, c6, c7] = first8 (fun i => (bytesR bs n r).1.getD i 0) n, fun x _ _ _ _ _ _ _ _ _ => 8 - x.toNat, ⟨0, by omega, rfl, h0, rfl⟩, ?_⟩
 rintro _ c0 c1 c2 c3 c4 c5 c6 c7 w2 ⟨n, hn, rfl, h2, hc⟩
 rw [hc]
 obtain ⟨hbl, hb2⟩ := bytesR_ok bs n r
 refine ⟨fun hlt => h2.byte (by simpa using hN1.ge) fun w3 h3 _ => ⟨_, rfl, ⟨by omega, by omega⟩, ⟨by omega, by omega⟩, fun w4 hC4 => ?_⟩, fun hge => ?_⟩
 ·have hs := first8_set (fun i => ((bytesR bs n r).1 ++ [(byteR bs (bytesR bs n r).2).1]).getD i 0) (n := n) (by omega)
  rw [first8_at _ hbl, show ((bytesR bs n r).1 ++ [(byteR bs (bytesR bs n r).2).1]).getD n 0 = (byteR bs (bytesR bs n r).2).1 by rw [List.getD_eq_getElem?_getD, List.getElem?_append_right (by omega), hbl, Nat.sub_self]; rfl] at hs
  rw [Int.toNat_natCast, hs]
  refine ⟨⟨n + 1, by omega, by omega, ?_, ?_⟩, by dsimp only; omega⟩
  ·rw [bytesR_snoc]; exact h3.new hC4 (by simpa using hN1.ge)
  ·rw [bytesR_snoc]; exact list8 (by simp [first8])
 ·have hn8 : n = 8 := by omega
  subst hn8
  have e : first8 (fun i => (bytesR bs 8 r).1.getD i 0) 8 = (bytesR bs 8 r).1.map fun n => ((n : Nat) : Int) := by
   generalize (bytesR bs 8 r).1 = l at hbl
   match l, hbl with
   |[_, _, _, _, _, _, _, _], _ => rfl
  rw [e] at hc
  refine CallK.exact (bitsOf hbl hb2 hc) fun w3 hE3 => ⟨_, rfl, h2.chg.trans hE3.ext, rfl, h2.box.ext hE3⟩
theorem Rdr.hash {bx : List Nat} {K : Value → World → Prop} (h : Rdr w0 w B T b bs r) (hbx : ∀ x ∈ bx, w0.heap.size ≤ x) (k : ∀ w', Rdr w0 w' B T b bs (hashR bs r).2 → Chg [B] w w' → K (.int .u64 (((hashR bs r).1 : Nat) : Int)) w') :
  CallK Tryz.prog 31 #[.pointer (some ⟨B, 0, none⟩)] w bx K := h.call hbx h.hashC k
theorem Rdr.opC (h : Rdr w0 w B T b bs r) {sa : Sl} {all : List Str} (ha : Row [B] w0 sa 1 (all.map wc)) : Calls Tryz.prog 34 #[.pointer (some ⟨B, 0, none⟩), sa.v] w (Ret fun u w' => Chg [B] w w' ∧ u = ov (opR bs all r).1 ∧ Box w' B T [b.v, .int .i64 ((opR bs all r).2.at_ : Int), .bool (opR bs all r).2.bad]) := by
 refine codec_reader_op.ok _ _ ?_
 unfold codec_reader_op.vc
 have ha1 : Row [B] w sa 1 (all.map wc) := h.row ha (by simp)
 intro w1 B1 hN1 hE1
 have h0 : Rdr w w1 B T b bs r := ⟨hE1.ext, h.box.lt, h.box.ext hE1, h.rd⟩
 have hbx1 : ∀ x ∈ [B1], w.heap.size ≤ x := by simpa using hN1.ge
 have hk := byteR_lt bs r
 refine h0.byte hbx1 fun w2 h2 hC2 => ⟨_, rfl, ⟨by omega, by omega⟩, h2.number hbx1 fun w3 h3 hC3 => ⟨_, rfl, ?_⟩⟩
 have s1 := hE1.size
 have s2 := hC2.size
 have s3 := hC3.size
 have hbx2 : ∀ {w' : World} {B2 : Nat}, New w3 B2 w' → ∀ x ∈ [B1, B2], w.heap.size ≤ x := fun hN x hx => by
  have := hN1.ge; have := hN.ge
  simp at hx; rcases hx with rfl | rfl <;> omega
 refine ⟨fun hk1 w4 B2 hN4 hE4 => ?_, fun hk1 => ⟨fun hk3 w4 B2 hN4 hE4 => ?_, fun hk3 => ⟨fun hk4 w4 B2 hN4 hE4 => ?_, fun hk4 => ⟨fun hk5 w4 B2 hN4 hE4 => ?_, fun hk5 => ⟨fun hk6 w4 B2 hN4 hE4 => ?_, fun hk6 w4 B2 hN4 hC4 => ?_⟩⟩⟩⟩⟩
 ·have hk' : (byteR bs r).1 = 1 := by omega
  have bxs := hbx2 hN4
  refine (h3.ext hE4).number bxs fun w5 h5 _ => ⟨_, rfl, h5.number bxs fun w6 h6 _ => ⟨_, rfl, h6.number bxs fun w7 h7 _ => ⟨_, rfl, fun w8 hC8 => ?_⟩⟩⟩
  have h8 := h7.new hC8 fun x hx => bxs x (by simp at hx; simp [hx])
  refine h8.of ha1 bxs fun w9 h9 _ => ⟨_, rfl, h9.of ha1 bxs fun w10 h10 _ => ⟨_, rfl, fun w11 hC11 => ?_⟩⟩
  have h11 := h10.new hC11 bxs
  unfold opR
  simp only [hk', if_true]
  exact ⟨h11.chg, rfl, h11.box⟩
 ·have hk' : (byteR bs r).1 = 3 := by omega
  have bxs := hbx2 hN4
  refine (h3.ext hE4).number bxs fun w5 h5 _ => ⟨_, rfl, h5.number bxs fun w6 h6 _ => ⟨_, rfl, fun w7 hC7 => ?_⟩⟩
  have h7 := h6.new hC7 bxs
  unfold opR
  simp only [hk', if_neg (show ¬ (3 : Nat) = 1 by decide), if_true]
  exact ⟨h7.chg, rfl, h7.box⟩
 ·have hk' : (byteR bs r).1 = 4 := by omega
  have bxs := hbx2 hN4
  refine (h3.ext hE4).of ha1 bxs fun w5 h5 _ => ⟨_, rfl, h5.of ha1 bxs fun w6 h6 _ => ⟨_, rfl, fun w7 hC7 => ?_⟩⟩
  have h7 := h6.new hC7 bxs
  unfold opR
  simp only [hk', if_neg (show ¬ (4 : Nat) = 1 by decide), if_neg (show ¬ (4 : Nat) = 3 by decide), if_true]
  exact ⟨h7.chg, rfl, h7.box⟩
 ·have hk' : (byteR bs r).1 = 5 := by omega
  have bxs := hbx2 hN4
  refine (h3.ext hE4).of ha1 bxs fun w5 h5 _ => ⟨_, rfl, fun w7 hC7 => ?_⟩
  have h7 := h5.new hC7 bxs
  unfold opR
  simp only [hk', if_neg (show ¬ (5 : Nat) = 1 by decide), if_neg (show ¬ (5 : Nat) = 3 by decide), if_neg (show ¬ (5 : Nat) = 4 by decide), if_true]
  exact ⟨h7.chg, rfl, h7.box⟩
 ·have hk' : (byteR bs r).1 = 6 := by omega
  have bxs := hbx2 hN4
  refine (h3.ext hE4).of ha1 bxs fun w5 h5 _ => ⟨_, rfl, fun w7 hC7 => ?_⟩
  have h7 := h5.new hC7 bxs
  unfold opR
  simp only [hk', if_neg (show ¬ (6 : Nat) = 1 by decide), if_neg (show ¬ (6 : Nat) = 3 by decide), if_neg (show ¬ (6 : Nat) = 4 by decide), if_neg (show ¬ (6 : Nat) = 5 by decide), if_true]
  exact ⟨h7.chg, rfl, h7.box⟩
 ·have h4 := h3.new hC4 hbx1
  unfold opR
  simp only [if_neg (show ¬ (byteR bs r).1 = 1 by omega), if_neg (show ¬ (byteR bs r).1 = 3 by omega), if_neg (show ¬ (byteR bs r).1 = 4 by omega), if_neg (show ¬ (byteR bs r).1 = 5 by omega), if_neg (show ¬ (byteR bs r).1 = 6 by omega)]
  exact ⟨h4.chg, rfl, h4.box⟩
theorem Rdr.op {sa : Sl} {all : List Str} {bx : List Nat} {K : Value → World → Prop} (h : Rdr w0 w B T b bs r) (ha : Row [B] w0 sa 1 (all.map wc)) (hbx : ∀ x ∈ bx, w0.heap.size ≤ x) (k : ∀ w', Rdr w0 w' B T b bs (opR bs all r).2 → Chg [B] w w' → K (ov (opR bs all r).1) w') :
  CallK Tryz.prog 34 #[.pointer (some ⟨B, 0, none⟩), sa.v] w bx K := h.call hbx (h.opC ha) k
end
end
section
open Go.RowKit Go.MapKept
structure MapIs {κ : Type} (f : κ → Value) (d : TypeDesc) (w : World) (B : Nat) (m : List (κ × Value)) : Prop where
 at_ : ∃ es clock, w.heap[B]? = some (.map es clock) ∧ es.toList.map (fun e => (e.key, e.val)) = m.map fun p => (f p.1, p.2)
theorem MapIs.lt {κ : Type} {f : κ → Value} {d : TypeDesc} {w : World} {B : Nat} {m : List (κ × Value)} (h : MapIs f d w B m) : B < w.heap.size := by
 obtain ⟨es, clock, h1, _⟩ := h.at_
 exact (Array.getElem?_eq_some_iff.1 h1).1
theorem MapIs.chg {κ : Type} {f : κ → Value} {d : TypeDesc} {w w' : World} {F : List Nat} {B : Nat} {m : List (κ × Value)} (h : MapIs f d w B m) (c : Chg F w w') (hB : B ∉ F) : MapIs f d w' B m := by
 have hl := h.lt
 obtain ⟨es, clock, h1, h2⟩ := h.at_
 exact ⟨es, clock, by rw [c.block B hl hB]; exact h1, h2⟩
theorem MapIs.ext {κ : Type} {f : κ → Value} {d : TypeDesc} {w w' : World} {B : Nat} {m : List (κ × Value)} (h : MapIs f d w B m) (c : Ext w w') : MapIs f d w' B m := h.chg c (by simp)
theorem makeMap_run {κ : Type} {P : Program} {w : World} {bx : List Nat} {t : TypeId} {K : Value → World → Prop} (f : κ → Value) (d : TypeDesc) (k : ∀ B w', Ext w w' → w.heap.size ≤ B → MapIs f d w' B [] → K (.map (some B)) w') : RunK P (Instr.makeMap t none) w bx K := by
 have hr : (Instr.makeMap t none).run P w = .ok (.map (some w.heap.size)) (w.alloc (.map #[] 0)) := by
  simp [Instr.makeMap, Result.andThen]
 exact ⟨_, _, hr, (Ext.alloc _ _).noTouch _, (Ext.alloc _ _).size, k _ _ (Ext.alloc _ _) (Nat.le_refl _) ⟨#[], 0, heap_alloc_new w _, rfl⟩⟩
variable {κ : Type} [DecidableEq κ]
def mget (m : List (κ × Value)) (k : κ) : Option Value := (m.find? fun p => decide (p.1 = k)).map (·.2)
def mput (m : List (κ × Value)) (k : κ) (v : Value) : List (κ × Value) :=
 match m with
 |[] => [(k, v)]
 |p :: r => if p.1 = k then (k, v) :: r else p :: mput r k v
theorem mget_put (m : List (κ × Value)) (k j : κ) (v : Value) : mget (mput m k v) j = if j = k then some v else mget m j := by
 induction m with
 |nil =>
  by_cases h : j = k
  ·subst h; simp [mput, mget]
  ·have : ¬ k = j := fun e => h e.symm
   simp [mput, mget, h, this]
 |cons p r ih =>
  by_cases hp : p.1 = k
  ·rw [mput, if_pos hp]
   by_cases h : j = k
   ·subst h; simp [mget]
   ·have h1 : ¬ k = j := fun e => h e.symm
    have h2 : ¬ p.1 = j := fun e => h (e.symm.trans hp)
    simp [mget, h, h1, h2]
  ·rw [mput, if_neg hp]
   by_cases h : p.1 = j
   ·have h1 : ¬ j = k := fun e => hp (h.trans e)
    simp [mget, h, h1]
   ·have e1 : mget (p :: mput r k v) j = mget (mput r k v) j := by simp [mget, h]
    have e2 : mget (p :: r) j = mget r j := by simp [mget, h]
    rw [e1, e2, ih]
theorem find_of {f : κ → Value} {d : TypeDesc} (hf : ∀ x, IsKey d (f x)) (hi : ∀ x y, f x = f y → x = y) (k : κ) : ∀ (es : List MapEntry) (m : List (κ × Value)) (i : Nat), es.map (fun e => (e.key, e.val)) = m.map (fun p => (f p.1, p.2)) →
  (Instr.findNow d (f k) es i = some none ∧ mget m k = none ∧ (∀ v, m ++ [(k, v)] = mput m k v)) ∨ ∃ j v, Instr.findNow d (f k) es i = some (some (i + j, v)) ∧ mget m k = some v ∧ j < es.length ∧ (∃ e, es[j]? = some e ∧ e.key = f k) ∧ ∀ u, (es.modify j fun e => { e with key := f k, val := u }).map (fun e => (e.key, e.val)) = (mput m k u).map fun p => (f p.1, p.2)
 |[], [], i, _ => .inl ⟨rfl, rfl, fun _ => rfl⟩
 |[], _ :: _, i, h => by cases h
 |_ :: _, [], i, h => by cases h
 |e :: es, p :: m, i, h => by
  simp only [List.map_cons, List.cons.injEq, Prod.mk.injEq] at h
  obtain ⟨⟨hk, hv⟩, hr⟩ := h
  obtain ⟨r, hs, hiff⟩ := sameNow_of_keys (hf k) (hk ▸ hf p.1 : IsKey d e.key)
  cases r with
  |true =>
   have e1 : p.1 = k := hi _ _ (by rw [← hk]; exact (hiff.1 rfl).symm)
   refine .inr ⟨0, e.val, by simp [Instr.findNow, hs], by simp [mget, e1, hv], by simp, ⟨e, rfl, by rw [hk, e1]⟩, fun u => ?_⟩
   simp [mput, e1, hr]
  |false =>
   have e1 : ¬ p.1 = k := fun q => by have := hiff.2 (by rw [hk, q]); cases this
   rcases find_of hf hi k es m (i + 1) hr with ⟨h1, h2, h3⟩ | ⟨j, v, h1, h2, h3, h4, h5⟩
   ·refine .inl ⟨by simp [Instr.findNow, hs, h1], ?_, fun v => ?_⟩
    ·have : mget (p :: m) k = mget m k := by simp [mget, e1]
     rw [this, h2]
    ·rw [mput, if_neg e1, ← h3 v]; rfl
   ·refine .inr ⟨j + 1, v, by simp [Instr.findNow, hs, h1]; omega, ?_, by simp; omega, by simpa using h4, fun u => ?_⟩
    ·have : mget (p :: m) k = mget m k := by simp [mget, e1]
     rw [this, h2]
    ·rw [mput, if_neg e1]
     simp only [List.modify_succ_cons, List.map_cons]
     rw [h5 u, hk, hv]
theorem lookup_run {P : Program} {w : World} {B : Nat} {t kt et : TypeId} {d : TypeDesc} {f : κ → Value} {m : List (κ × Value)} {z : Value} (hf : ∀ x, IsKey d (f x)) (hi : ∀ x y, f x = f y → x = y) (ht : P.underlying t = some (.map kt et)) (hk : P.underlying kt = some d) (hz : (zeroValue et).run P w = .ok z w)
  (h : MapIs f d w B m) (k : κ) : (Instr.lookup t (.map (some B)) (f k) true).run P w = .ok (.tuple #[(mget m k).getD z, .bool (mget m k).isSome]) w ∧ (Instr.lookup t (.map (some B)) (f k) false).run P w = .ok ((mget m k).getD z) w := by
 obtain ⟨es, clock, hb, he⟩ := h.at_
 rcases find_of hf hi k es.toList m 0 he with ⟨h1, h2, _⟩ | ⟨j, v, h1, h2, _⟩
 ·rw [h2]
  constructor <;> simp [Instr.lookup, run_underlying ht, Go.MapKept.run_getObj_map hb, Go.MapKept.run_checkKey hk (hf k), Go.MapKept.run_findKey hk h1, hz, Result.andThen]
 ·rw [h2]
  constructor <;> simp [Instr.lookup, run_underlying ht, Go.MapKept.run_getObj_map hb, Go.MapKept.run_checkKey hk (hf k), Go.MapKept.run_findKey hk h1, Result.andThen]
theorem mapUpdate_run {P : Program} {w : World} {bx : List Nat} {B : Nat} {t kt et : TypeId} {d : TypeDesc} {f : κ → Value} {m : List (κ × Value)} {K : World → Prop} (hf : ∀ x, IsKey d (f x)) (hi : ∀ x y, f x = f y → x = y) (ht : P.underlying t = some (.map kt et)) (hk : P.underlying kt = some d)
  (h : MapIs f d w B m) (k : κ) (v : Value) (hbx : B ∉ bx) (kk : ∀ w', Chg [B] w w' → MapIs f d w' B (mput m k v) → K w') : RunU P (Instr.mapUpdate t (.map (some B)) (f k) v) w bx K := by
 obtain ⟨es, clock, hb, he⟩ := h.at_
 have chg : ∀ o, Chg [B] w { w with heap := w.heap.setIfInBounds B o } := fun o => ⟨rfl, rfl, rfl, by simp, fun i _ hi => by simp [Ne.symm (show i ≠ B by simpa using hi)]⟩
 have fin : ∀ es' clock', es'.toList.map (fun e => (e.key, e.val)) = (mput m k v).map (fun p => (f p.1, p.2)) → (Instr.mapUpdate t (.map (some B)) (f k) v).run P w = .ok () { w with heap := w.heap.setIfInBounds B (.map es' clock') } → RunU P (Instr.mapUpdate t (.map (some B)) (f k) v) w bx K := fun es' clock' h1 h2 =>
  ⟨_, h2, (chg _).noTouch _ (fun b hb hm => hbx (by simp at hm; rwa [← hm])), (chg _).size, kk _ (chg _) ⟨es', clock', (heap_set hb).1, h1⟩⟩
 rcases find_of hf hi k es.toList m 0 he with ⟨h1, h2, h3⟩ | ⟨j, u, h1, h2, hj, ⟨e, hje, hke⟩, h5⟩
 ·refine fin (es.push { key := f k, val := v, born := clock }) (clock + 1) ?_ ?_
  ·rw [Array.toList_push, List.map_append, he, ← h3 v]; simp
  ·simp [Instr.mapUpdate, run_underlying ht, Go.MapKept.run_getObj_map hb, Go.MapKept.run_checkKey hk (hf k), Go.MapKept.run_findKey hk h1, Go.MapKept.run_setObj_map _ hb, Result.andThen]
 ·have hj' : es[j]? = some e := by simpa using hje
  refine fin (es.modify j fun e => { e with key := f k, val := v }) clock ?_ ?_
  ·rw [Array.toList_modify]; exact h5 v
  ·simp [Instr.mapUpdate, run_underlying ht, Go.MapKept.run_getObj_map hb, Go.MapKept.run_checkKey hk (hf k), Go.MapKept.run_findKey hk h1, hj', hke, Go.MapKept.run_keyThatStays (hf k), Go.MapKept.run_setObj_map _ hb, Result.andThen]
end
section
open Go.RowKit Go.MapKept Cdc
def strV (s : Str) : Value := .string (Bs s)
theorem keyStr (s : Str) : IsKey .string (strV s) := trivial
theorem strV_inj (x y : Str) (h : strV x = strV y) : x = y := by injection h with h; exact Bs_inj h
theorem tiIntC : TI Tryz.prog 3 (.int .i64 0) 1 8 := TI.of (by kernel_rfl)
def placeOf (all : List Str) (s : Str) : Option Value := if s ∈ all then some (.int .i64 ((all.idxOf s : Nat) : Int)) else none
def Places (w : World) (M : Nat) (all : List Str) : Prop := ∃ m, MapIs strV .string w M m ∧ ∀ s, mget m s = placeOf all s
theorem Places.ext {w w' : World} {M : Nat} {all : List Str} (h : Places w M all) (c : Ext w w') : Places w' M all := by
 obtain ⟨m, h1, h2⟩ := h; exact ⟨m, h1.ext c, h2⟩
theorem placeOf_add {all : List Str} {s : Str} (hs : s ∉ all) (x : Str) : (if x = s then some (.int .i64 ((all.length : Nat) : Int)) else placeOf all x) = placeOf (all ++ [s]) x := by
 unfold placeOf
 by_cases hx : x = s
 ·subst hx
  have e : (all ++ [x]).idxOf x = all.length := by rw [List.idxOf_append, if_neg hs]; simp
  simp [e]
 ·by_cases hm : x ∈ all
  ·have e : (all ++ [s]).idxOf x = all.idxOf x := by rw [List.idxOf_append, if_pos hm]
   simp [hx, hm, e]
  ·simp [hx, hm]
theorem Row.boxed {A : List Nat} {w : World} {s : Sl} {ops : List OpT} (h : Row A w s 7 (ops.map oc)) {k : Nat} (hk : k < ops.length) {d : OpT} : ∃ p, s.a = some p ∧ Cells w (p.add (k * 7)) (oc (ops.getD k d)) := by
 obtain ⟨p, h1, _, h3, _⟩ := h.at_ k (by simpa using hk)
 refine ⟨p, h1, ?_⟩
 have e : (ops.map oc).getD k [] = oc (ops.getD k d) := by simp [List.getD_eq_getElem?_getD, hk]
 rwa [e] at h3
theorem take_succD {α : Type} (l : List α) (d : α) {k : Nat} (h : k < l.length) : l.take (k + 1) = l.take k ++ [l.getD k d] := by
 rw [List.take_add_one, List.getD_eq_getElem?_getD, List.getElem?_eq_getElem h]; rfl
theorem texts_len (o : OpT) : (textsO o).length ≤ 2 := by unfold textsO; split <;> (try split) <;> (try split) <;> simp
theorem nums_len (o : OpT) : (numsO o).length ≤ 3 := by unfold numsO; split <;> (try split) <;> simp
def op0 : OpT := ⟨0, 0, 0, 0, 0, [], []⟩
theorem pushB {w w1 : World} {bx : List Nat} {s x : Sl} {xs ys : List UInt8} {N : Nat} {K : Value → World → Prop} (h : AppB [] w1 s 5 xs) (hx : RdB [] w1 x ys) (hy : ys ≠ []) (hb : xs.length + ys.length ≤ 140737488355328) (hE : Ext w w1) (hown : ∀ b ∈ s.own, N ≤ b) (hN : w.heap.size ≤ N) (hN1 : N ≤ w1.heap.size)
  (hbx : ∀ b ∈ bx, b ∉ s.own) (k : ∀ s' w', OwnB [] w' s' 5 (xs ++ ys) → Ext w w' → (∀ b ∈ s'.blk, N ≤ b) → w1.heap.size ≤ w'.heap.size → K s'.v w') :
  RunK Tryz.prog (Builtin.append_ #[27, 27] 27 #[s.v, x.v]) w1 bx K := by
 obtain ⟨s', w', hr, ho, hc, hbl⟩ := appendO h hx hy hb
 exact ⟨_, _, hr, hc.noTouch _ hbx, hc.size, k s' w' ho (Chg.fresh hE hc fun b hb => Nat.le_trans hN (hown b hb)) (fun b hb => (hbl b hb).elim (hown b) (fun h => Nat.le_trans hN1 h)) hc.size⟩
theorem rightE {o : OpT} {r : Bool} (hr : r = rightO o) : ((((r = false) ∨ (o.par < 0)) ∨ (o.at_ < 0)) → good o = false) ∧ ((((r = true) ∧ (¬ (o.par < 0))) ∧ (¬ (o.at_ < 0))) → good o = true) := by
 subst hr
 unfold good
 constructor
 ·rintro ((h | h) | h)
  ·simp [h]
  ·have : ¬ 0 ≤ o.par := by omega
   simp [this]
  ·have : ¬ 0 ≤ o.at_ := by omega
   simp [this]
 ·rintro ⟨⟨h1, h2⟩, h3⟩
  have a : 0 ≤ o.par := by omega
  have b : 0 ≤ o.at_ := by omega
  simp [h1, a, b]
def EncR (w : World) (e : Str × Int) (v : Value) (w' : World) : Prop := Ext w w' ∧ ∃ s : Sl, v = .tuple #[s.v, .int .i64 e.2] ∧ OwnB [] w' s 5 e.1 ∧ ∀ b ∈ s.blk, w.heap.size ≤ b
theorem EncR.none {w w' : World} {n : Int} {e : Str × Int} (hE : Ext w w') (he : e = ([], n)) : EncR w e (.tuple #[Sl.v Sl.nil, .int .i64 n]) w' := by
 subst he; exact ⟨hE, Sl.nil, rfl, Own.nil _ _ _ _, by simp [Sl.blk]⟩
def hd (x y : Nat) : Nat → Str
 |0 => [116, 112, 121, 49]
 |1 => [116, 112, 121, 49] ++ lowB 8 x
 |_ => head x y
theorem hd_len (x y n : Nat) : (hd x y n).length ≤ 20 := by
 unfold hd
 split
 ·simp
 ·simp [lowB_len]
 ·rw [head_len]; exact Nat.le_refl _
theorem Own.unmap {κ : Type} {A : List Nat} {w : World} {s : Sl} {size : Nat} {T : TypeId} {vs : List (List Value)} {f : κ → Value} {d : TypeDesc} {M : Nat} {m : List (κ × Value)} (h : Own A w s size T vs) (k : MapIs f d w M m) : M ∉ s.blk := by
 intro hm
 obtain ⟨es, clock, h1, _⟩ := k.at_
 rcases h.at_ with e | ⟨g, cur, e1, _, e3, _⟩
 ·rw [e] at hm; simp [Sl.blk, Sl.nil] at hm
 ·simp [Sl.blk, e1] at hm
  subst hm
  unfold Box at e3
  rw [e3] at h1; cases h1
theorem addS_in {all : List Str} {s : Str} (h : s ∈ all) : addS all s = all := if_pos h
theorem addS_out {all : List Str} {s : Str} (h : s ∉ all) : addS all s = all ++ [s] := if_neg h
theorem put10 {n : Int} (h : n ≤ 9223372036854775807) : (Vint.put n.toNat).length ≤ 10 := Vint.put_most (by omega)
theorem wrapUN {n : Int} (h0 : 0 ≤ n) (h : n ≤ 9223372036854775807) : IntKind.u64.wrap n = ((n.toNat : Nat) : Int) := by rw [IntKind.wrap_u64]; omega
theorem head_cells {c0 c1 c2 c3 c4 c5 c6 c7 : Int} {l : List UInt8} (h : [c0, c1, c2, c3, c4, c5, c6, c7] = l.map fun b => ((b.toNat : Nat) : Int)) :
  [Value.int .u8 c0, .int .u8 c1, .int .u8 c2, .int .u8 c3, .int .u8 c4, .int .u8 c5, .int .u8 c6, .int .u8 c7] = l.map fun x => .int .u8 ((x.toNat : Nat) : Int) := by
 have := congrArg (List.map (Value.int .u8)) h
 rw [List.map_map] at this
 exact this
theorem nums_val {o : OpT} (hg : good o = true) (hp : o.par ≤ 9223372036854775807 ∧ o.at_ ≤ 9223372036854775807) : 0 ≤ o.id ∧ o.id ≤ 1048576 ∧ 1 ≤ o.kind ∧ o.kind ≤ 6 ∧ ∀ n ∈ numsO o, 0 ≤ n ∧ n ≤ 9223372036854775807 := by
 obtain ⟨hr, h1, h2⟩ := good_iff hg
 obtain ⟨h3, h4, hc⟩ := right_cases hr
 have hk := right_kind hr
 refine ⟨h3, h4, hk.1, hk.2, fun n hn => ?_⟩
 unfold numsO at hn
 by_cases k1 : o.kind = 1
 ·rw [if_pos k1] at hn
  have hw : 1 ≤ o.what ∧ o.what ≤ 5 := by
   rcases hc with ⟨_, a, b⟩ | hc
   ·exact ⟨a, b⟩
   ·rcases hc with hc | hc | hc | hc | hc <;> (rw [hc] at k1; simp at k1)
  simp at hn
  rcases hn with rfl | rfl | rfl
  ·exact ⟨h1, hp.1⟩
  ·exact ⟨h2, hp.2⟩
  ·omega
 ·rw [if_neg k1] at hn
  by_cases k3 : o.kind = 3
  ·rw [if_pos k3] at hn
   simp at hn
   rcases hn with rfl | rfl
   ·exact ⟨h1, hp.1⟩
   ·exact ⟨h2, hp.2⟩
  ·rw [if_neg k3] at hn; cases hn
theorem getD_in {α : Type} {l : List α} {d : α} {k : Nat} (h : k < l.length) : l.getD k d ∈ l := by
 rw [List.getD_eq_getElem?_getD, List.getElem?_eq_getElem h]; exact List.getElem_mem h
theorem encode {X : List Nat} {w : World} (x y : Nat) {l : Sl} {ops : List OpT} (hl : Row X w l 7 (ops.map oc)) (hpa : ∀ o ∈ ops, o.par ≤ 9223372036854775807 ∧ o.at_ ≤ 9223372036854775807) :
  Calls Tryz.prog 8 #[.int .u64 (x : Int), .int .u64 (y : Int), l.v] w (Ret (EncR w (enc x y ops))) := by
 refine codec_Encode.ok _ _ _ ?_
 unfold codec_Encode.vc
 have hln := hl.len
 rw [List.length_map] at hln
 refine ⟨fun hbig => EncR.none (Chg.refl _ _) (by unfold enc; rw [if_pos (by omega)]), fun hsm => ?_⟩
 have hsm' : ops.length ≤ 1500 := by omega
 refine makeMap_run strV .string fun M w1 hE1 hM hMap => ⟨some M, rfl, ?_⟩
 refine ⟨fun sa i w' => ∃ k : Nat, k ≤ ops.length ∧ i = (k : Int) ∧ Ext w w' ∧ Own [] w' sa 1 9 (((ops.take k).foldl addO []).map wc) ∧ (∀ b ∈ sa.blk, w.heap.size ≤ b) ∧ Places w' M ((ops.take k).foldl addO []) ∧ ((ops.take k).foldl addO []).length ≤ 2 * k ∧ (ops.take k).all good = true,
  fun _ i _ => ops.length - i.toNat, ⟨0, by omega, rfl, hE1, Own.nil _ _ _ _, by simp [Sl.blk], ⟨[], hMap, fun s => by simp [mget, placeOf]⟩, by simp, by simp⟩, ?_⟩
 rintro sa _ w2 ⟨k, hk, rfl, hE2, hO2, hbl2, hP2, hn2, hg2⟩
 refine ⟨fun hlt => ?_, fun hge => ?_⟩
 ·have hk' : k < ops.length := by omega
  obtain ⟨p, hp, hc⟩ := (hl.ext hE2).boxed hk' (d := op0)
  have htk := take_succD ops op0 hk'
  have hin := getD_in (d := op0) hk'
  generalize ho : ops.getD k op0 = o at hc htk hin
  have hfold : (ops.take (k + 1)).foldl addO [] = (textsO o).foldl addS ((ops.take k).foldl addO []) := by rw [htk, List.foldl_append]; rfl
  generalize (ops.take k).foldl addO [] = all at hO2 hP2 hn2 hfold
  refine ⟨⟨by omega, by omega⟩, p, hp, o.kind, o.id, o.par, o.at_, o.what, o.name, o.text, by rw [Int.toNat_natCast]; exact hc, fun w3 B3 hN3 hE3 => ?_⟩
  refine CallK.exact (callRight o) fun w4 hE4 => ⟨_, rfl, fun hbad => ?_, fun hgood => ?_⟩
  ·refine EncR.none (hE2.trans (hE3.trans hE4)) ?_
   have hb := (rightE rfl).1 hbad
   have : ops.all good = false := by
    rw [List.all_eq_false]
    exact ⟨o, hin, by rw [hb]; decide⟩
   unfold enc; rw [if_neg (by omega), if_pos this]
  have hgo := (rightE rfl).2 hgood
  have hE34 := hE3.trans hE4
  refine CallK.ext (cdcTexts o) ?_
  rintro v w5 hE5 ⟨ts, rfl, hT, hTb⟩
  have hE25 := hE34.trans hE5
  have htl := texts_len o
  have hTl := hT.row.len
  rw [List.length_map] at hTl
  refine ⟨ts, rfl, fun s i w' => ∃ j : Nat, j ≤ (textsO o).length ∧ i = (j : Int) ∧ Ext w w' ∧ w5.heap.size ≤ w'.heap.size ∧ Row [] w' ts 1 ((textsO o).map wc) ∧ Own [] w' s 1 9 ((((textsO o).take j).foldl addS all).map wc) ∧ (∀ b ∈ s.blk, w.heap.size ≤ b ∧ b ∉ ts.blk) ∧ Places w' M (((textsO o).take j).foldl addS all) ∧ (((textsO o).take j).foldl addS all).length ≤ 2 * k + j,
   fun _ i _ => (textsO o).length - i.toNat, ⟨0, by omega, rfl, hE2.trans hE25, Nat.le_refl _, hT.row, hO2.ext hE25, ?_, hP2.ext hE25, by simpa using hn2⟩, ?_⟩
  ·intro b hb
   refine ⟨hbl2 b hb, fun hm => ?_⟩
   have h1 := hTb b hm
   have h2 := (hO2.blk b hb).2
   have := hE34.size
   omega
  rintro s _ w6 ⟨j, hj, rfl, hE6, hs6, hR6, hO6, hbl6, hP6, hn6⟩
  refine ⟨fun hjl => ?_, fun hjg => ?_⟩
  ·have hj' : j < (textsO o).length := by omega
   obtain ⟨q, hq, hcell⟩ := hR6.wAt hj'
   have htk2 := take_succD (textsO o) [] hj'
   generalize (textsO o).getD j [] = t at hcell htk2
   have hf2 : ((textsO o).take (j + 1)).foldl addS all = addS (((textsO o).take j).foldl addS all) t := by rw [htk2, List.foldl_append]; rfl
   generalize hal : ((textsO o).take j).foldl addS all = all' at hO6 hP6 hn6 hf2
   obtain ⟨m, hm, hmg⟩ := hP6
   have hlk := (lookup_run keyStr strV_inj Tryz.underlying60 Tryz.underlying9 (tiIntC.zeroValue w6) hm t).1
   rw [hmg] at hlk
   have hOl := hO6.len
   rw [List.length_map] at hOl
   refine ⟨⟨by omega, by omega⟩, q, hq, t, by rw [Int.toNat_natCast]; exact hcell, ?_⟩
   by_cases ht : t ∈ all'
   ·rw [addS_in ht] at hf2
    rw [placeOf, if_pos ht] at hlk
    exact ⟨_, true, hlk, (fun h => by cases h), fun _ => ⟨⟨by omega, by omega⟩, ⟨j + 1, by omega, by omega, hE6, hs6, hR6, by rw [hf2]; exact hO6, hbl6, by rw [hf2]; exact ⟨m, hm, hmg⟩, by rw [hf2]; omega⟩, by dsimp only; omega⟩⟩
   ·rw [addS_out ht] at hf2
    rw [placeOf, if_neg ht] at hlk
    refine ⟨_, false, hlk, fun _ => ?_, fun h => by cases h⟩
    have hMs := hO6.unmap hm
    refine mapUpdate_run keyStr strV_inj Tryz.underlying60 Tryz.underlying9 hm t _ (by simp) fun w7 hC7 hm7 w8 B8 hN8 hE8 hB8 => ?_
    have hO8 := (hO6.keep hC7 (fun b hb hx => hMs (by simp at hx; exact hx ▸ hb))).ext hE8
    have hm8 := hm7.ext hE8
    have hMw : w.heap.size ≤ M := Nat.le_trans (Nat.le_refl _) hM
    have hE68 : Ext w w8 := (Chg.fresh hE6 hC7 (by simpa using hMw)).trans hE8
    have hR8 : Row [] w8 ts 1 ((textsO o).map wc) := by
     refine (hR6.keep hC7 fun b hb hx => ?_).ext hE8
     simp at hx; subst hx
     exact (hT.keep (F := []) (Chg.refl _ _) (by simp)).unmap (hP2.ext hE25).choose_spec.1 hb
    refine App.runK Tryz.underlying61 ti_9 rfl (by decide) (.inl hO8) (by simp) (Own.many (us := [wc t]) hB8 (by simp [wc]) (by simp [maxLen]) (by simp)).row (ones_wc t) (by simp) (by simp [maxLen]; omega) (by simp; omega) (by simp) fun s' w9 ho9 hC9 hb9 => ?_
    have hown : ∀ b ∈ s.own, w.heap.size ≤ b := fun b hb => (hbl6 b (Sl.own_blk hb)).1
    refine ⟨s', rfl, ⟨by omega, by omega⟩, ⟨j + 1, by omega, by omega, Chg.fresh hE68 hC9 hown, ?_, hR8.keep hC9 fun b hb hx => (hbl6 b (Sl.own_blk hx)).2 hb, by rw [hf2]; simpa using ho9, fun b hb => ?_, by rw [hf2]; exact ⟨_, hm8.chg hC9 fun hx => hMs (Sl.own_blk hx), fun z => by rw [mget_put, hmg, hOl]; exact placeOf_add ht z⟩, by rw [hf2]; simp; omega⟩, by dsimp only; omega⟩
    ·have h1 := hC7.size
     have h2 := hE8.size
     have h3 := hC9.size
     omega
    ·rcases hb9 b hb with h | h
     ·exact hbl6 b (Sl.own_blk h)
     ·have h1 := hE68.size
      refine ⟨by omega, fun hx => ?_⟩
      have h2 := (hT.blk b hx).2
      have h3 := hC7.size
      have h4 := hE8.size
      omega
  ·have hjl : j = (textsO o).length := by omega
   rw [hjl, List.take_length, ← hfold] at hO6 hP6 hn6
   exact ⟨⟨by omega, by omega⟩, ⟨k + 1, by omega, by omega, hE6, hO6, fun b hb => (hbl6 b hb).1, hP6, by omega, by rw [htk, List.all_append, hg2]; simp [hgo]⟩, by dsimp only; omega⟩
 ·have hkl : k = ops.length := by omega
  have hE : (ops.take k).foldl addO [] = allS ops := by rw [hkl, List.take_length]; rfl
  rw [hE] at hO2 hP2 hn2
  rw [hkl, List.take_length] at hg2
  have hgood : ∀ o ∈ ops, good o = true := List.all_eq_true.1 hg2
  have hmem : ∀ o ∈ ops, ∀ s ∈ textsO o, s ∈ allS ops := fun o ho s hs => all_mem.2 ⟨o, ho, hs⟩
  have hAR := hO2.row
  have hAl := hAR.len
  rw [List.length_map] at hAl
  clear hE hE1 hMap hbl2
  have hencE : ∀ n, (∃ r : Str, body x y ops = n ++ r) → 65536 < n.length + 4 → enc x y ops = ([], 2) := fun n ⟨r, hr⟩ hn => by
   unfold enc
   rw [if_neg (by omega), if_neg (by rw [hg2]; decide), if_pos]
   rw [hr, List.length_append]; omega
  have hbody : body x y ops = head x y ++ Vint.put (allS ops).length ++ (allS ops).flatMap putS ++ Vint.put ops.length ++ ops.flatMap (opB (allS ops)) := by
   unfold body; simp only [List.append_assoc]
  generalize hall : allS ops = all at *
  have hhl := head_len x y
  intro w3 B3 hN3 hE3 hB3
  obtain ⟨w4, hr4, hC4, hcs4⟩ := conv_const (P := Tryz.prog) hB3 4 4 u8Slice Tryz.underlying5
  have hE4 : Ext w2 w4 := Chg.fresh hE3 hC4 (by simpa using hN3.ge)
  have hrd4 : RdB [] w4 ⟨some ⟨B3, 0, none⟩, 4, 4⟩ [116, 112, 121, 49] := RdB.of_cells (xs := [116, 112, 121, 49]) hcs4 (Nat.le_refl _) (by decide) [] (by simp)
  refine ⟨_, _, hr4, (fun _ hb => by cases hb), hC4.size, ⟨some ⟨B3, 0, none⟩, 4, 4⟩, rfl, ?_⟩
  refine ⟨fun b i w' => ∃ n : Nat, n ≤ 2 ∧ i = (n : Int) ∧ Ext w2 w' ∧ AppB [] w' b 5 (hd x y n) ∧ ∀ z ∈ b.own, w2.heap.size ≤ z, fun _ i _ => 2 - i.toNat, ⟨0, by omega, rfl, hE4, .inr ⟨rfl, hrd4⟩, by rw [Sl.own_full rfl]; simp⟩, ?_⟩
  rintro b _ w5 ⟨n, hn, rfl, hE5, hA5, hown5⟩
  have hhd := hd_len x y n
  refine ⟨fun hi => ⟨⟨by omega, by omega⟩, ?_⟩, fun hi => ?_⟩
  ·have hn01 : n = 0 ∨ n = 1 := by omega
   have hv : ([(x : Int), (y : Int)] : List Int).getD (n : Int).toNat 0 = (((if n = 0 then x else y) : Nat) : Int) := by rcases hn01 with rfl | rfl <;> rfl
   have hnext : hd x y (n + 1) = hd x y n ++ lowB 8 (if n = 0 then x else y) := by
    rcases hn01 with rfl | rfl
    ·rfl
    ·show head x y = _; unfold head hd; simp
   rw [hv]
   generalize (if n = 0 then x else y) = v at hnext
   refine CallK.ext (bitsBytes v) ?_
   rintro u w6 hE6 ⟨c0, c1, c2, c3, c4, c5, c6, c7, rfl, hc⟩
   refine ⟨c0, c1, c2, c3, c4, c5, c6, c7, rfl, fun w7 B7 hN7 hE7 hB7 => ?_⟩
   rw [head_cells hc] at hB7
   have hrd := Box.rdB hB7 (by rw [lowB_len]; decide) [] (by simp)
   rw [lowB_len] at hrd
   have hE57 := hE6.trans hE7
   have hA7 : AppB [] w7 b 5 (hd x y n) := hA5.imp (fun h => h.ext hE57) fun ⟨e, h⟩ => ⟨e, h.ext hE57⟩
   refine pushB hA7 hrd (by intro e; have := congrArg List.length e; rw [lowB_len] at this; simp at this) (by rw [lowB_len]; omega) (hE5.trans hE57) hown5 (Nat.le_refl _) (hE5.trans hE57).size (by simp) fun s' w8 ho8 hE8 hb8 _ => ⟨s', rfl, ⟨by omega, by omega⟩, ⟨n + 1, by omega, by omega, hE8, ?_, fun z hz => hb8 z (Sl.own_blk hz)⟩, by dsimp only; omega⟩
   rw [hnext]; exact .inl ho8
  have hn2' : n = 2 := by omega
  subst hn2'
  have hA5' : AppB [] w5 b 5 (head x y) := hA5
  have ew : IntKind.u64.wrap (sa.n : Int) = ((all.length : Nat) : Int) := by rw [IntKind.wrap_u64]; omega
  rw [ew]
  have hpl := Vint.put_most (v := all.length) (by omega)
  refine CallK.ext (vintPut all.length (by omega) hA5'.rd (by omega)) ?_
  rintro v w6 hE6 ⟨b6, rfl, hO6, hb6⟩
  have hE26 := hE5.trans hE6
  refine ⟨b6, rfl, fun b i w' => ∃ k : Nat, k ≤ all.length ∧ i = (k : Int) ∧ Ext w2 w' ∧ OwnB [] w' b 5 (head x y ++ Vint.put all.length ++ (all.take k).flatMap putS) ∧ (∀ z ∈ b.blk, w2.heap.size ≤ z) ∧ (head x y ++ Vint.put all.length ++ (all.take k).flatMap putS).length ≤ 65546, fun _ i _ => all.length - i.toNat,
   ⟨0, by omega, rfl, hE26, by simpa using hO6, fun z hz => Nat.le_trans hE5.size (hb6 z hz), by simp only [List.take_zero, List.flatMap_nil, List.append_nil, List.length_append]; omega⟩, ?_⟩
  rintro b _ w7 ⟨k, hk, rfl, hE7, hO7, hb7, hl7⟩
  have hOn := hO7.rd.len
  refine ⟨fun hi => ?_, fun hi => ?_⟩
  ·have hk' : k < all.length := by omega
   obtain ⟨q, hq, hcell⟩ := (hAR.ext hE7).wAt hk'
   have htk := take_succD all [] hk'
   generalize ht : all.getD k [] = t at hcell htk
   refine ⟨⟨by omega, by omega⟩, q, hq, t, by rw [Int.toNat_natCast]; exact hcell, ⟨by omega, by omega⟩, fun hbig => ?_, fun hfit => ?_⟩
   ·refine EncR.none (hE2.trans hE7) (hencE (head x y ++ Vint.put all.length ++ (all.take k).flatMap putS ++ putS t) ⟨(all.drop (k + 1)).flatMap putS ++ Vint.put ops.length ++ ops.flatMap (opB all), ?_⟩ ?_)
    ·rw [hbody]
     have e : all.flatMap putS = (all.take k).flatMap putS ++ (putS t ++ (all.drop (k + 1)).flatMap putS) := by
      conv => lhs; rw [← List.take_append_drop (k + 1) all, htk]
      simp
     rw [e]; simp only [List.append_assoc]
    ·have := putS_len t
     rw [List.length_append]; omega
   ·have hpt := Vint.put_most (v := t.length) (by omega)
    refine CallK.ext (vintPutText t hO7.rd (by omega)) ?_
    rintro v w8 hE8 ⟨s8, rfl, hO8, hb8⟩
    have e : head x y ++ Vint.put all.length ++ (all.take (k + 1)).flatMap putS = head x y ++ Vint.put all.length ++ (all.take k).flatMap putS ++ Vint.put t.length ++ t := by
     rw [htk]; simp [putS]
    exact ⟨s8, rfl, ⟨by omega, by omega⟩, ⟨k + 1, by omega, by omega, hE7.trans hE8, by rw [e]; exact hO8, fun z hz => Nat.le_trans hE7.size (hb8 z hz), by rw [e, List.length_append, List.length_append]; omega⟩, by dsimp only; omega⟩
  have hkl2 : k = all.length := by omega
  rw [hkl2, List.take_length] at hO7 hl7 hOn
  have ew2 : IntKind.u64.wrap (l.n : Int) = ((ops.length : Nat) : Int) := by rw [IntKind.wrap_u64]; omega
  rw [ew2]
  have hpo := Vint.put_most (v := ops.length) (by omega)
  refine CallK.ext (vintPut ops.length (by omega) hO7.rd (by omega)) ?_
  rintro v w8 hE8 ⟨b8, rfl, hO8, hb8⟩
  have hl8 : (head x y ++ Vint.put all.length ++ all.flatMap putS ++ Vint.put ops.length).length ≤ 65556 := by rw [List.length_append]; omega
  generalize hP : head x y ++ Vint.put all.length ++ all.flatMap putS ++ Vint.put ops.length = P at hO8 hl8 hbody
  have hE28 := hE7.trans hE8
  refine ⟨b8, rfl, fun b i w' => ∃ k : Nat, k ≤ ops.length ∧ i = (k : Int) ∧ Ext w2 w' ∧ OwnB [] w' b 5 (P ++ (ops.take k).flatMap (opB all)) ∧ (∀ z ∈ b.blk, w2.heap.size ≤ z) ∧ (P ++ (ops.take k).flatMap (opB all)).length ≤ 65556 + 80 * k, fun _ i _ => ops.length - i.toNat,
   ⟨0, by omega, rfl, hE28, by simpa using hO8, fun z hz => Nat.le_trans hE7.size (hb8 z hz), by simpa using hl8⟩, ?_⟩
  rintro b _ w9 ⟨k, hk, rfl, hE9, hO9, hb9, hl9⟩
  refine ⟨fun hi => ?_, fun hi => ?_⟩
  ·have hk' : k < ops.length := by omega
   obtain ⟨q, hq, hcell⟩ := (hl.ext (hE2.trans hE9)).boxed hk' (d := op0)
   have htk := take_succD ops op0 hk'
   have hin := getD_in (d := op0) hk'
   generalize ops.getD k op0 = o at hcell htk hin
   obtain ⟨i0, i1, k0, k6, hnums⟩ := nums_val (hgood o hin) (hpa o hin)
   have htx := hmem o hin
   have hfin : P ++ (ops.take (k + 1)).flatMap (opB all) = P ++ (ops.take k).flatMap (opB all) ++ [UInt8.ofNat o.kind.toNat] ++ Vint.put o.id.toNat ++ (numsO o).flatMap (fun n => Vint.put n.toNat) ++ (textsO o).flatMap (fun s => Vint.put (all.idxOf s)) := by
    rw [htk]; simp [opB]
   generalize P ++ (ops.take k).flatMap (opB all) = Q at hO9 hl9 hfin
   refine ⟨⟨by omega, by omega⟩, q, hq, o.kind, o.id, o.par, o.at_, o.what, o.name, o.text, by rw [Int.toNat_natCast]; exact hcell, fun w10 B10 hN10 hE10 w11 B11 hE11 hge11 hB11 _ => ?_⟩
   have hkv : IntKind.u8.wrap o.kind = (((UInt8.ofNat o.kind.toNat).toNat : Nat) : Int) := by
    rw [IntKind.wrap_u8]; simp; omega
   rw [hkv] at hB11
   have hrd : RdB [] w11 ⟨some ⟨B11, 0, none⟩, 1, 1⟩ [UInt8.ofNat o.kind.toNat] := Box.rdB (xs := [UInt8.ofNat o.kind.toNat]) hB11 (by simp [maxLen]) [] (by simp)
   have hE911 := hE10.trans hE11
   have hlt9 : ∀ z ∈ b.own, z < w9.heap.size := fun z hz => (Own.blk hO9 z (Sl.own_blk hz)).2
   refine pushB (N := w2.heap.size) (.inl (hO9.ext hE911)) hrd (by simp) (by simp; omega) (hE9.trans hE911) (fun z hz => hb9 z (Sl.own_blk hz)) (Nat.le_refl _) (hE9.trans hE911).size (fun z hz hm => by have := hlt9 z hm; have := hN10.ge; simp at hz; omega) fun s12 w12 hO12 hE12 hb12 _ => ⟨s12, rfl, fun w13 hE13 => ?_⟩
   rw [wrapUN i0 (by omega)]
   have hpi := put10 (n := o.id) (by omega)
   refine ⟨fun s w' => OwnB [] w' s 5 (Q ++ [UInt8.ofNat o.kind.toNat] ++ Vint.put o.id.toNat) ∧ ∀ z ∈ s.blk, w2.heap.size ≤ z, fun s w' w'' hE h => ⟨h.1.ext hE, h.2⟩, fun w' hE' => ?_, fun w14 s14 hE14 ⟨hO14, hb14⟩ => ?_⟩
   ·refine Ret.mono (vintPut o.id.toNat (by omega) (OwnB.rd (Own.ext hO12 (hE13.trans hE'))) (by rw [List.length_append]; simp; omega)) ?_
    rintro u w'' ⟨h1, s, rfl, h2, h3⟩
    exact ⟨h1, s, rfl, h2, fun z hz => Nat.le_trans (Nat.le_trans hE12.size (Nat.le_trans hE13.size hE'.size)) (h3 z hz)⟩
   have hE2_14 := hE12.trans (hE13.trans hE14)
   have hl14 : (Q ++ [UInt8.ofNat o.kind.toNat] ++ Vint.put o.id.toNat).length ≤ 65556 + 80 * k + 11 := by simp; omega
   generalize Q ++ [UInt8.ofNat o.kind.toNat] ++ Vint.put o.id.toNat = Q1 at hO14 hl14 hfin
   have hnl := nums_len o
   have htl := texts_len o
   refine CallK.ext (cdcNumbers o) ?_
   rintro v w15 hE15 ⟨ns, rfl, hNs⟩
   have hNl := hNs.row.len
   rw [List.length_map] at hNl
   refine ⟨ns, rfl, fun b i w' => ∃ j : Nat, j ≤ (numsO o).length ∧ i = (j : Int) ∧ Ext w15 w' ∧ OwnB [] w' b 5 (Q1 ++ ((numsO o).take j).flatMap fun n => Vint.put n.toNat) ∧ (∀ z ∈ b.blk, w2.heap.size ≤ z) ∧ (Q1 ++ ((numsO o).take j).flatMap fun n => Vint.put n.toNat).length ≤ 65556 + 80 * k + 11 + 10 * j, fun _ i _ => (numsO o).length - i.toNat,
    ⟨0, by omega, rfl, Chg.refl _ _, by rw [List.take_zero, List.flatMap_nil, List.append_nil]; exact Own.ext hO14 hE15, hb14, by simpa using hl14⟩, ?_⟩
   rintro b _ w16 ⟨j, hj, rfl, hE16, hO16, hb16, hl16⟩
   refine ⟨fun hi2 => ?_, fun hi2 => ?_⟩
   ·have hj' : j < (numsO o).length := by omega
    obtain ⟨q2, hq2, hc2⟩ := (hNs.row.ext hE16).zAt hj'
    have htk2 := take_succD (numsO o) 0 hj'
    have hv2 := hnums _ (getD_in (d := 0) hj')
    generalize (numsO o).getD j 0 = n at hc2 htk2 hv2
    have hp2 := put10 (n := n) hv2.2
    refine ⟨⟨by omega, by omega⟩, q2, hq2, n, by rw [Int.toNat_natCast]; exact hc2, ?_⟩
    rw [wrapUN hv2.1 hv2.2]
    refine CallK.ext (vintPut n.toNat (by omega) hO16.rd (by omega)) ?_
    rintro v w17 hE17 ⟨s17, rfl, hO17, hb17⟩
    have e : Q1 ++ ((numsO o).take (j + 1)).flatMap (fun n => Vint.put n.toNat) = Q1 ++ ((numsO o).take j).flatMap (fun n => Vint.put n.toNat) ++ Vint.put n.toNat := by rw [htk2]; simp
    have hsz := (hE2_14.trans (hE15.trans hE16)).size
    exact ⟨s17, rfl, ⟨by omega, by omega⟩, ⟨j + 1, by omega, by omega, hE16.trans hE17, by rw [e]; exact hO17, fun z hz => Nat.le_trans hsz (hb17 z hz), by rw [e, List.length_append]; omega⟩, by dsimp only; omega⟩
   have hjl : j = (numsO o).length := by omega
   rw [hjl, List.take_length] at hO16 hl16
   have hE2_16 := hE2_14.trans (hE15.trans hE16)
   refine CallK.ext (cdcTexts o) ?_
   rintro v w18 hE18 ⟨ts, rfl, hT, _⟩
   have hTl := hT.row.len
   rw [List.length_map] at hTl
   have hl18 : (Q1 ++ (numsO o).flatMap fun n => Vint.put n.toNat).length ≤ 65556 + 80 * k + 41 := by omega
   generalize (Q1 ++ (numsO o).flatMap fun n => Vint.put n.toNat) = Q2 at hO16 hl18 hfin
   refine ⟨ts, rfl, fun b i w' => ∃ j : Nat, j ≤ (textsO o).length ∧ i = (j : Int) ∧ Ext w18 w' ∧ OwnB [] w' b 5 (Q2 ++ ((textsO o).take j).flatMap fun s => Vint.put (all.idxOf s)) ∧ (∀ z ∈ b.blk, w2.heap.size ≤ z) ∧ (Q2 ++ ((textsO o).take j).flatMap fun s => Vint.put (all.idxOf s)).length ≤ 65556 + 80 * k + 41 + 10 * j, fun _ i _ => (textsO o).length - i.toNat,
    ⟨0, by omega, rfl, Chg.refl _ _, by rw [List.take_zero, List.flatMap_nil, List.append_nil]; exact Own.ext hO16 hE18, hb16, by simpa using hl18⟩, ?_⟩
   rintro b _ w19 ⟨j, hj, rfl, hE19, hO19, hb19, hl19⟩
   refine ⟨fun hi2 => ?_, fun hi2 => ?_⟩
   ·have hj' : j < (textsO o).length := by omega
    obtain ⟨q2, hq2, hc2⟩ := (hT.row.ext hE19).wAt hj'
    have htk2 := take_succD (textsO o) [] hj'
    have hv2 := htx _ (getD_in (d := []) hj')
    generalize (textsO o).getD j [] = t at hc2 htk2 hv2
    have hix := List.idxOf_lt_length_of_mem hv2
    have hp2 := Vint.put_most (v := all.idxOf t) (by omega)
    obtain ⟨m, hm, hmg⟩ := hP2.ext (hE2_16.trans (hE18.trans hE19))
    have hlk := (lookup_run keyStr strV_inj Tryz.underlying60 Tryz.underlying9 (tiIntC.zeroValue w19) hm t).2
    rw [hmg, placeOf, if_pos hv2] at hlk
    refine ⟨⟨by omega, by omega⟩, q2, hq2, t, by rw [Int.toNat_natCast]; exact hc2, _, hlk, ?_⟩
    have ewi : IntKind.u64.wrap ((all.idxOf t : Nat) : Int) = ((all.idxOf t : Nat) : Int) := by rw [IntKind.wrap_u64]; omega
    rw [ewi]
    refine CallK.ext (vintPut (all.idxOf t) (by omega) hO19.rd (by omega)) ?_
    rintro v w20 hE20 ⟨s20, rfl, hO20, hb20⟩
    have e : Q2 ++ ((textsO o).take (j + 1)).flatMap (fun s => Vint.put (all.idxOf s)) = Q2 ++ ((textsO o).take j).flatMap (fun s => Vint.put (all.idxOf s)) ++ Vint.put (all.idxOf t) := by rw [htk2]; simp
    have hsz := (hE2_16.trans (hE18.trans hE19)).size
    exact ⟨s20, rfl, ⟨by omega, by omega⟩, ⟨j + 1, by omega, by omega, hE19.trans hE20, by rw [e]; exact hO20, fun z hz => Nat.le_trans hsz (hb20 z hz), by rw [e, List.length_append]; omega⟩, by dsimp only; omega⟩
   have hjl2 : j = (textsO o).length := by omega
   rw [hjl2, List.take_length] at hO19 hl19
   rw [← hfin] at hO19 hl19
   exact ⟨⟨by omega, by omega⟩, ⟨k + 1, by omega, by omega, hE2_16.trans (hE18.trans hE19), hO19, hb19, by omega⟩, by dsimp only; omega⟩
  have hkl3 : k = ops.length := by omega
  rw [hkl3, List.take_length, ← hbody] at hO9 hl9
  have hbn := hO9.rd.len
  refine ⟨⟨by omega, by omega⟩, fun hbig => EncR.none (hE2.trans hE9) (hencE (body x y ops) ⟨[], by simp⟩ (by omega)), fun hfit => ?_⟩
  have henc : enc x y ops = (body x y ops ++ lowB 4 (Crc.more 0 (body x y ops)), 0) := by
   unfold enc; rw [if_neg (by omega), if_neg (by rw [hg2]; decide), if_neg (by omega)]
  rw [henc]
  refine CallK.ext (cdcSums hO9.rd) ?_
  rintro v w10 hE10 ⟨ss, rfl, hS, _⟩
  refine ⟨ss, rfl, pushB (N := w2.heap.size) (.inl (hO9.ext hE10)) hS.rd (by intro e; have := congrArg List.length e; rw [lowB_len] at this; simp at this) (by rw [lowB_len]; omega) (hE9.trans hE10) (fun z hz => hb9 z (Sl.own_blk hz)) (Nat.le_refl _) (hE9.trans hE10).size (by simp) fun s' w11 ho hE11 hb11 _ => ⟨s', rfl, hE2.trans hE11, s', rfl, ho, fun z hz => Nat.le_trans hE2.size (hb11 z hz)⟩⟩
end
section
open Go.RowKit Go.MapKept Cdc
namespace Cdc
theorem textR_at {b : Str} {r : Rs} (h : (textR b r).2.bad = false) : r.bad = false ∧ r.at_ < (textR b r).2.at_ ∧ (textR b r).2.at_ ≤ b.length := by
 unfold textR at h ⊢
 by_cases hc : r.bad = true ∨ (Vint.getText b r.at_ b.length).2.2 ≠ 0
 ·rw [if_pos hc] at h; cases h
 rw [if_neg hc]
 have hb : r.bad = false := by cases hr : r.bad with
  |false => rfl
  |true => exact absurd (.inl hr) hc
 have he : (Vint.getText b r.at_ b.length).2.2 = 0 := Classical.byContradiction fun h => hc (.inr h)
 refine ⟨hb, ?_⟩
 simp only
 obtain ⟨k1, k2, k3⟩ := Vint.getAt_ok (xs := b) (at_ := (r.at_ : Int))
 unfold Vint.getText at he ⊢
 by_cases h1 : (Vint.getAt b r.at_).2.2 ≠ 0
 ·rw [if_pos h1] at he; exact absurd he h1
 rw [if_neg h1] at he ⊢
 by_cases h2 : (b.length : Int) < 0 ∨ (b.length : Int) < (Vint.getAt b r.at_).1
 ·rw [if_pos h2] at he; cases he
 rw [if_neg h2] at he ⊢
 by_cases h3 : b.length - (Vint.getAt b r.at_).2.1 < (Vint.getAt b r.at_).1
 ·rw [if_pos h3] at he; cases he
 rw [if_neg h3]
 have := k3 (by omega)
 simp only
 omega
theorem numR_lt (b : Str) (r : Rs) : (numR b r).1 < 18446744073709551616 := by
 unfold numR
 split
 ·exact (by decide : (0 : Nat) < 18446744073709551616)
 ·exact Vint.getAt_ok.1
theorem val_small {l : List Nat} (h : ∀ x ∈ l, x < 256) : val l < 256 ^ l.length := by
 induction l with
 |nil => simp [val]
 |cons x r ih =>
  have := ih fun y hy => h y (by simp [hy])
  have hx := h x (by simp)
  rw [val, List.length_cons, Nat.pow_succ]; omega
theorem hashR_lt (b : Str) (r : Rs) : (hashR b r).1 < 18446744073709551616 := by
 obtain ⟨h1, h2⟩ := bytesR_ok b 8 r
 have := val_small h2
 rw [h1] at this
 exact this
theorem int_le (n : Nat) : int n ≤ 9223372036854775807 := by unfold int; rw [IntKind.wrap_i64]; omega
theorem opR_par (b : Str) (all : List Str) (r : Rs) : (opR b all r).1.par ≤ 9223372036854775807 ∧ (opR b all r).1.at_ ≤ 9223372036854775807 := by
 have z : (0 : Int) ≤ 9223372036854775807 := by decide
 unfold opR
 simp only
 split
 ·exact ⟨int_le _, int_le _⟩
 split
 ·exact ⟨int_le _, int_le _⟩
 split
 ·exact ⟨z, z⟩
 split
 ·exact ⟨z, z⟩
 split
 ·exact ⟨z, z⟩
 ·exact ⟨z, z⟩
theorem opsR_par (b : Str) (all : List Str) : ∀ (n : Nat) (l : List OpT) (r : Rs), (∀ o ∈ l, o.par ≤ 9223372036854775807 ∧ o.at_ ≤ 9223372036854775807) → ∀ o ∈ (opsR b all n l r).1, o.par ≤ 9223372036854775807 ∧ o.at_ ≤ 9223372036854775807
 |0, l, r, h => h
 |n + 1, l, r, h => by
  rw [opsR]
  split
  ·exact h
  ·refine opsR_par b all n _ _ fun o ho => ?_
   rcases List.mem_append.1 ho with h1 | h1
   ·exact h o h1
   ·simp at h1; subst h1; exact opR_par _ _ _
theorem strsR_end {b : Str} {all : List Str} {n : Nat} {r : Rs} (h : n = 0 ∨ r.bad = true) : strsR b n all r = (all, r) := by
 cases n with
 |zero => rfl
 |succ n =>
  rcases h with h | h
  ·cases h
  ·rw [strsR, if_pos h]
theorem opsR_end {b : Str} {all : List Str} {n : Nat} {l : List OpT} {r : Rs} (h : n = 0 ∨ r.bad = true ∨ 1500 < l.length) : opsR b all n l r = (l, r) := by
 cases n with
 |zero => rfl
 |succ n =>
  rcases h with h | h
  ·cases h
  ·rw [opsR, if_pos h]
end Cdc
theorem cones_oc (o : OpT) : ∀ u ∈ [oc o].flatten, u.oneCell' = true := by intro u hu; simp [oc] at hu; rcases hu with rfl | rfl | rfl | rfl | rfl | rfl | rfl <;> rfl
section
variable {w0 w w' : World} {B : Nat} {T : TypeId} {b : Sl} {bs : Str} {r : Rs}
theorem Rdr.base (h : Rdr w0 w B T b bs r) : Rdr w w B T b bs r := ⟨Chg.refl _ _, h.box.lt, h.box, h.rd⟩
end
def DecR (w : World) (d : (Nat × Nat × List OpT) × Int) (v : Value) (w' : World) : Prop :=
 Ext w w' ∧ ∃ s : Sl, v = .tuple #[.int .u64 (d.1.1 : Int), .int .u64 (d.1.2.1 : Int), s.v, .int .i64 d.2] ∧ Own [] w' s 7 59 (d.1.2.2.map oc) ∧ ∀ b ∈ s.blk, w.heap.size ≤ b
theorem DecR.none {w w' : World} {n : Int} {d : (Nat × Nat × List OpT) × Int} (hE : Ext w w') (he : d = ((0, 0, []), n)) : DecR w d (.tuple #[.int .u64 0, .int .u64 0, Sl.v Sl.nil, .int .i64 n]) w' := by
 subst he; exact ⟨hE, Sl.nil, rfl, Own.nil _ _ _ _, by simp [Sl.blk]⟩
theorem decode {X : List Nat} {w : World} {p : Sl} {ps : Str} (hp : RdB X w p ps) :
  Calls Tryz.prog 11 #[p.v] w (Ret (DecR w (dec ps))) := by
 refine codec_Decode.ok _ ?_
 unfold codec_Decode.vc
 have hl := hp.len
 have hm := hp.most
 refine ⟨fun h => DecR.none (Chg.refl _ _) (by unfold dec; rw [if_pos (by omega)]), fun h65 => ⟨fun h => DecR.none (Chg.refl _ _) (by unfold dec; rw [if_neg (by omega), if_pos (by omega)]), fun h26 w1 hE1 => ?_⟩⟩
 have hdec : dec ps = if lowB 4 (Crc.more 0 (ps.take (ps.length - 4))) ≠ ps.drop (ps.length - 4) then ((0, 0, []), 11)
   else if (parse (ps.take (ps.length - 4))).2 = true then ((0, 0, []), 10)
   else if enc (parse (ps.take (ps.length - 4))).1.1 (parse (ps.take (ps.length - 4))).1.2.1 (parse (ps.take (ps.length - 4))).1.2.2 = (ps, 0) then ((parse (ps.take (ps.length - 4))).1, 0) else ((0, 0, []), 10) := by
  conv => lhs; unfold dec
  rw [if_neg (by omega), if_neg (by omega)]
 have e4 : ((p.n : Int) - 4).toNat = ps.length - 4 := by omega
 rw [e4]
 have hb0 : ∀ {w' : World}, Ext w w' → RdB [] w' (p.cut 1 0 (ps.length - 4) p.c) (ps.take (ps.length - 4)) := fun hE => by
  have := ((hp.less (A' := []) (by simp)).ext hE).cut 0 (ps.length - 4) p.c (by omega) (by omega) (by omega) (by omega)
  rwa [List.drop_zero, Nat.sub_zero] at this
 have hs0 : ∀ {w' : World}, Ext w w' → RdB [] w' (p.cut 1 (ps.length - 4) p.n p.c) (ps.drop (ps.length - 4)) := fun hE => by
  have := ((hp.less (A' := []) (by simp)).ext hE).cut (ps.length - 4) p.n p.c (by omega) (by omega) (by omega) (by omega)
  rwa [List.take_of_length_le (by rw [List.length_drop]; omega)] at this
 refine ⟨⟨by omega, by omega⟩, ⟨by omega, by omega⟩, fun s w' => OwnB [] w' s 5 (lowB 4 (Crc.more 0 (ps.take (ps.length - 4)))), fun s w' w'' hE h => Own.ext h hE, fun w' hE => ?_, lowB 4 (Crc.more 0 (ps.take (ps.length - 4))), fun s w' hE h => conv8 (OwnB.rd h), ⟨by omega, by omega⟩, ⟨by omega, by omega⟩, ps.drop (ps.length - 4), fun w' hE => conv8 (hs0 (hE1.trans hE)), fun hne w2 hE2 => ?_, fun heq => ⟨⟨by omega, by omega⟩, ⟨by omega, by omega⟩, fun w2 B hN2 hE2 hB2 => ?_⟩⟩
 ·refine Ret.mono (cdcSums (hb0 (hE1.trans hE))) ?_
  rintro u w'' ⟨h1, s, rfl, h2, _⟩
  exact ⟨h1, s, rfl, h2⟩
 ·exact DecR.none (hE1.trans hE2) (by rw [hdec, if_pos hne])
 have hdec2 := hdec
 rw [if_neg heq] at hdec2
 clear hdec
 generalize hbs : ps.take (ps.length - 4) = bs at *
 have hbl : bs.length ≤ 65536 := by rw [← hbs, List.length_take]; omega
 generalize hcut : p.cut 1 0 (ps.length - 4) p.c = c at *
 have hE02 := hE1.trans hE2
 have hR2 : Rdr w2 w2 B 73 c bs ⟨4, false⟩ := ⟨Chg.refl _ _, hB2.lt, hB2, (Row.fresh (hb0 hE1) (by decide) hN2.ge).ext hE2⟩
 refine hR2.hash (by simp) fun w3 hR3 _ => ⟨_, rfl, hR3.hash (by simp) fun w4 hR4 _ => ⟨_, rfl, hR4.number (by simp) fun w5 hR5 _ => ⟨_, rfl, ?_⟩⟩⟩
 have hparse : parse bs = (((hashR bs ⟨4, false⟩).1, (hashR bs (hashR bs ⟨4, false⟩).2).1, (opsR bs (strsR bs (numR bs (hashR bs (hashR bs ⟨4, false⟩).2).2).1 [] (numR bs (hashR bs (hashR bs ⟨4, false⟩).2).2).2).1 (numR bs (strsR bs (numR bs (hashR bs (hashR bs ⟨4, false⟩).2).2).1 [] (numR bs (hashR bs (hashR bs ⟨4, false⟩).2).2).2).2).1 [] (numR bs (strsR bs (numR bs (hashR bs (hashR bs ⟨4, false⟩).2).2).1 [] (numR bs (hashR bs (hashR bs ⟨4, false⟩).2).2).2).2).2).1),
  (opsR bs (strsR bs (numR bs (hashR bs (hashR bs ⟨4, false⟩).2).2).1 [] (numR bs (hashR bs (hashR bs ⟨4, false⟩).2).2).2).1 (numR bs (strsR bs (numR bs (hashR bs (hashR bs ⟨4, false⟩).2).2).1 [] (numR bs (hashR bs (hashR bs ⟨4, false⟩).2).2).2).2).1 [] (numR bs (strsR bs (numR bs (hashR bs (hashR bs ⟨4, false⟩).2).2).1 [] (numR bs (hashR bs (hashR bs ⟨4, false⟩).2).2).2).2).2).2.bad) := rfl
 have hx := hashR_lt bs ⟨4, false⟩
 have hy := hashR_lt bs (hashR bs ⟨4, false⟩).2
 generalize (hashR bs ⟨4, false⟩).1 = x at *
 generalize hg : hashR bs (hashR bs ⟨4, false⟩).2 = g at *
 have hn64 := numR_lt bs g.2
 generalize hn : numR bs g.2 = n at *
 have hB2' : ∀ b ∈ [B], w.heap.size ≤ b := by simpa using Nat.le_trans hE1.size hN2.ge
 refine ⟨fun sa i w' => ∃ (m : Nat) (all : List Str) (r : Rs), i = (m : Int) ∧ m < 18446744073709551616 ∧ Rdr w2 w' B 73 c bs r ∧ Own [B] w' sa 1 9 (all.map wc) ∧ (∀ b ∈ sa.blk, w2.heap.size ≤ b) ∧ strsR bs n.1 [] n.2 = strsR bs m all r ∧ all.length ≤ 65537 ∧ (r.bad = false → all.length ≤ 65536 ∧ (all.length ≤ r.at_)), fun _ i _ => i.toNat,
  ⟨n.1, [], n.2, rfl, hn64, hR5, Own.nil _ _ _ _, by simp [Sl.blk], rfl, by simp, by simp⟩, ?_⟩
 rintro sa _ w6 ⟨m, all, r, rfl, hm64, hR6, hO6, hb6, heq6, hlen6, hlen6'⟩
 have hOl := hO6.len
 rw [List.length_map] at hOl
 refine ⟨r.bad, fun _ => hR6.box.cell 2 _ rfl, fun hc => ?_, fun hc => ?_⟩
 ·obtain ⟨k, rfl⟩ : ∃ k, m = k + 1 := ⟨m - 1, by omega⟩
  have ew : IntKind.u64.wrap (((k + 1 : Nat) : Int) - 1) = (k : Int) := by rw [IntKind.wrap_u64]; omega
  rw [ew]
  have hl6 := hlen6' hc.2
  refine hR6.text (by simp) fun w7 hR7 hC7 => ⟨_, rfl, fun w8 B8 hN8 hE8 hB8 => ?_⟩
  have hR8 := hR7.ext hE8
  have hO8 := (hO6.chg hC7 (by simp)).ext hE8
  refine App.runK Tryz.underlying61 ti_9 rfl (by decide) (.inl hO8) (by simpa using hR8.box.lt) (Own.many (us := [wc (textR bs r).1]) hB8 (by simp [wc]) (by simp [maxLen]) (by simp)).row (ones_wc _) (by simp) (by simp [maxLen]; omega) (by simp; omega) (by simp) fun s' w9 hO9 hC9 hb9 => ?_
  refine ⟨s', rfl, ⟨k, all ++ [(textR bs r).1], (textR bs r).2, rfl, by omega, hR8.new hC9 fun b hb => hb6 b (Sl.own_blk hb), by simpa using hO9, fun b hb => (hb9 b hb).elim (fun h => hb6 b (Sl.own_blk h)) (fun h => Nat.le_trans (Nat.le_trans hR7.chg.size hE8.size) h), ?_, by simp; omega, fun hbad => ?_⟩, by dsimp only; omega⟩
  ·rw [heq6, strsR, if_neg (by rw [hc.2]; decide)]
  ·have := textR_at hbad
   simp only [List.length_append, List.length_singleton]
   omega
 ·have hend := strsR_end (b := bs) (all := all) (n := m) (r := r) (by
   rcases hc with h | h
   ·exact .inl (by omega)
   ·exact .inr h)
  rw [heq6, hend] at hparse
  clear heq6 hend hlen6'
  refine hR6.number (by simp) fun w7 hR7 hC7 => ⟨_, rfl, ?_⟩
  have hm64' := numR_lt bs r
  have hO7 := hO6.chg hC7 (by simp)
  generalize numR bs r = M at *
  refine ⟨fun sl i w' => ∃ (m : Nat) (L : List OpT) (r : Rs), i = (m : Int) ∧ m < 18446744073709551616 ∧ Rdr w7 w' B 73 c bs r ∧ Own [B] w' sl 7 59 (L.map oc) ∧ (∀ b ∈ sl.blk, w7.heap.size ≤ b) ∧ opsR bs all M.1 [] M.2 = opsR bs all m L r ∧ L.length ≤ 1501, fun _ i _ => i.toNat,
   ⟨M.1, [], M.2, rfl, hm64', hR7.base, Own.nil _ _ _ _, by simp [Sl.blk], rfl, by simp⟩, ?_⟩
  rintro sl _ w8 ⟨m, L, r, rfl, hm64, hR8, hO8, hb8, heq8, hlen8⟩
  have hLl := hO8.len
  rw [List.length_map] at hLl
  refine ⟨r.bad, fun _ => hR8.box.cell 2 _ rfl, fun hc => ?_, fun hc => ⟨r.bad, hR8.box.cell 2 _ rfl, fun hbad => ?_, fun hgood => ?_⟩⟩
  ·obtain ⟨k, rfl⟩ : ∃ k, m = k + 1 := ⟨m - 1, by omega⟩
   have ew : IntKind.u64.wrap (((k + 1 : Nat) : Int) - 1) = (k : Int) := by rw [IntKind.wrap_u64]; omega
   rw [ew]
   refine hR8.op hO7.row (by simp) fun w9 hR9 hC9 => ⟨_, _, _, _, _, _, _, rfl, fun w10 B10 hN10 hE10 hB10 => ?_⟩
   have hR10 := hR9.ext hE10
   have hO10 := (hO8.chg hC9 (by simp)).ext hE10
   refine App.runK Tryz.underlying23 ti_59 rfl (by decide) (.inl hO10) (by simpa using hR10.box.lt) (Own.many (us := [oc (opR bs all r).1]) hB10 (by simp [oc]) (by simp [maxLen]) (by simp)).row (cones_oc _) (by simp) (by simp [maxLen]; omega) (by simp; omega) (by simp) fun s' w11 hO11 hC11 hb11 => ?_
   refine ⟨s', rfl, ⟨k, L ++ [(opR bs all r).1], (opR bs all r).2, rfl, by omega, hR10.new hC11 fun b hb => hb8 b (Sl.own_blk hb), by simpa using hO11, fun b hb => (hb11 b hb).elim (fun h => hb8 b (Sl.own_blk h)) (fun h => Nat.le_trans (Nat.le_trans hR9.chg.size hE10.size) h), ?_, by simp; omega⟩, by dsimp only; omega⟩
   rw [heq8, opsR, if_neg (by rw [hc.1.2]; simp; omega)]
  all_goals
   have hend := opsR_end (b := bs) (all := all) (n := m) (l := L) (r := r) (by
    rcases hc with (h | h) | h
    ·exact .inl (by omega)
    ·exact .inr (.inl h)
    ·exact .inr (.inr (by omega)))
   have hpar := opsR_par bs all M.1 [] M.2 (by simp)
   rw [heq8, hend] at hparse hpar
   have hE8 : Ext w w8 := Chg.fresh (Chg.fresh hE02 hR7.chg hB2') hR8.chg hB2'
   rw [hparse] at hdec2
  ·exact DecR.none hE8 (by rw [hdec2, if_pos hbad])
  ·rw [if_neg (by simp [hgood])] at hdec2
   refine CallK.ext (encode x g.1 hO8.row hpar) ?_
   rintro v w9 hE9 ⟨s9, rfl, hO9, _⟩
   refine ⟨s9, _, rfl, _, fun _ => conv8 (OwnB.rd hO9), ps, fun _ => conv8 (hp.ext (hE8.trans hE9)), fun hbad => ?_, fun hok => ?_⟩
   ·refine DecR.none (hE8.trans hE9) ?_
    rw [hdec2, if_neg]
    intro he
    simp only at he
    rw [he] at hbad
    rcases hbad with h | h
    ·exact h rfl
    ·exact h rfl
   ·have h1 : (enc x g.1 L).2 = 0 := Classical.byContradiction hok.1
    have h2 : (enc x g.1 L).1 = ps := Classical.byContradiction hok.2
    have he : enc x g.1 L = (ps, 0) := Prod.ext h2 h1
    rw [hdec2, if_pos he]
    refine ⟨hE8.trans hE9, sl, rfl, (hO8.less (by simp)).ext hE9, fun b hb => Nat.le_trans (Nat.le_trans hE02.size hR7.chg.size) (hb8 b hb)⟩
end
section
namespace Cdc
open Go.RowKit
theorem enc_nil_len (x y : Nat) : (enc x y []).1.length = 26 ∧ (enc x y []).2 = 0 := by
 rw [enc_nil]; simp [head_len, lowB_len]
def setsO (name text : Str) (k : Nat) : List OpT := (List.range k).map fun i : Nat => ⟨4, (i : Int), 0, 0, 0, name, text⟩
end Cdc
end
section
open Go.RowKit
theorem madeList (cs : Array Value) : ∀ n : Nat, (madeCells cs (n * cs.size)).toList = (List.replicate n cs.toList).flatten := by
 intro n
 apply List.ext_getElem
 ·simp [madeCells, List.length_flatten]
 ·intro i h1 h2
  have hs : 0 < cs.size := by
   simp [madeCells] at h1
   rcases Nat.eq_zero_or_pos cs.size with h | h
   ·rw [h] at h1; omega
   ·exact h
  have hm : i % cs.size < cs.size := Nat.mod_lt _ hs
  have hg := flatten_group (size := cs.size) (List.replicate n cs.toList) (fun u hu => by rw [(List.mem_replicate.1 hu).2]; simp) (i / cs.size) (by
   simp [madeCells] at h1 ⊢
   exact Nat.div_lt_of_lt_mul (by rwa [Nat.mul_comm] at h1))
  have hget : (List.replicate n cs.toList).getD (i / cs.size) [] = cs.toList := by
   have : i / cs.size < n := by
    simp [madeCells] at h1
    exact Nat.div_lt_of_lt_mul (by rwa [Nat.mul_comm] at h1)
   simp [List.getD_eq_getElem?_getD, List.getElem?_replicate, this]
  rw [hget] at hg
  have h3 := congrArg (fun l => l[i % cs.size]?) hg
  simp only [List.getElem?_take, List.getElem?_drop, if_pos hm] at h3
  rw [show i / cs.size * cs.size + i % cs.size = i by rw [Nat.mul_comm]; exact Nat.div_add_mod _ _, List.getElem?_eq_getElem h2, List.getElem?_eq_getElem (by simpa using hm)] at h3
  rw [Option.some.inj h3]
  simp [madeCells, hm]
theorem makeRow {P : Program} {w : World} {A bx : List Nat} {t T : TypeId} {z : Value} {size bytes n : Nat} {K : Value → World → Prop} (ht : P.underlying t = some (.slice T)) (hi : TI P T z size bytes) (hzs : z.cells.size = size) (hn : n ≤ 1000000000) (hb : bytes * n ≤ 140737488355328) (hA : ∀ b ∈ A, b < w.heap.size)
  (k : ∀ w', Own A w' ⟨some ⟨w.heap.size, 0, none⟩, n, n⟩ size T (List.replicate n z.cells.toList) → Ext w w' → K (Sl.mk (some ⟨w.heap.size, 0, none⟩) n n).v w') :
  RunK P (Instr.makeSlice t (.int .i64 (n : Int)) (.int .i64 (n : Int))) w bx K := by
 obtain ⟨i, h1, h2, h3, h4⟩ := hi
 subst h3 h4
 have hb' : (i.bytes : Int) * (n : Int) ≤ 281474976710656 := by
  have h : ((i.bytes * n : Nat) : Int) ≤ 281474976710656 := by omega
  rwa [Int.natCast_mul] at h
 have hr := run_make (P := P) w t T i z ht h1 h2 .i64 .i64 (n : Int) (n : Int) (by omega) (by omega) hb' (by omega)
 simp only [Int.toNat_natCast] at hr
 have hE : Ext w (w.alloc (.cells (madeCells z.cells (n * i.size)) T)) := Ext.alloc _ _
 refine ⟨_, _, hr, hE.noTouch _, hE.size, k _ ⟨by simp, Nat.le_refl _, by simp [maxLen]; omega, fun u hu => ?_, .inr ⟨w.heap.size, (madeCells z.cells (n * i.size)).toList, rfl, fun hm => by have := hA _ hm; omega, ?_, ?_, ?_⟩⟩ hE⟩
 ·rw [(List.mem_replicate.1 hu).2]; simpa using hzs
 ·unfold Box; rw [heap_alloc_new]
 ·simp [madeCells]
 ·have := madeList z.cells n
  rw [hzs] at this
  rw [this, List.take_of_length_le]
  simp [List.length_flatten, hzs]
end
section
open Go.RowKit Go.MapKept Cdc
theorem encNil {w : World} (x y : Nat) : Calls Tryz.prog 8 #[.int .u64 (x : Int), .int .u64 (y : Int), Sl.nil.v] w (Ret (EncR w (enc x y []))) := encode (X := []) (ops := []) x y (Row.nil _ _ _) (by simp)
theorem cdcAwake (w : World) : Calls Tryz.prog 7 #[] w (Ret fun v w' => Ext w w' ∧ v = .bool true) := by
 refine law24_awake.ok ?_
 unfold law24_awake.vc
 refine CallK.ext (encNil 1 2) ?_
 rintro v w1 hE1 ⟨s, rfl, hO, _⟩
 refine ⟨s, _, rfl, CallK.ext (decode hO.rd) ?_⟩
 rintro v w2 hE2 ⟨l, rfl, hl, _⟩
 have hd : dec (enc 1 2 []).1 = ((1, 2, []), 0) := dec_enc (by decide) (by decide) (by simp) (enc_nil_len 1 2).2
 have h1 := hO.rd.len
 have h2 := hl.len
 rw [(enc_nil_len 1 2).1] at h1
 rw [hd] at h2
 rw [hd]
 refine ⟨_, _, l, _, rfl, hE1.trans hE2, ?_⟩
 have h3 := (enc_nil_len 1 2).2
 simp only [List.map_nil, List.length_nil] at h2
 rw [h3, h1, h2]
 rfl
end
section
open Go.RowKit
namespace Crc
def low : Nat → Nat → List UInt8
 |0, _ => []
 |n + 1, x => UInt8.ofNat x :: low n (x / 256)
def turn (xs : List UInt8) (q X : Nat) : Nat → List UInt8
 |0 => xs
 |i + 1 => (turn xs q X i).set (q + i) ((turn xs q X i).getD (q + i) 0 ^^^ UInt8.ofNat (X / 2 ^ (8 * i)))
end Crc
end
section
open Go.RowKit
theorem take_getD {l : List T} {i : Nat} (h : i < l.length) : l.take (i + 1) = l.take i ++ [l.getD i T.nul] := by
 rw [List.take_succ_eq_append_getElem h, List.getD_eq_getElem?_getD, List.getElem?_eq_getElem h]; rfl
theorem sum_take (f : T → Nat) {l : List T} {i : Nat} (h : i < l.length) : ((l.take (i + 1)).map f).sum = ((l.take i).map f).sum + f (l.getD i T.nul) := by
 rw [take_getD h]; simp
theorem foldr_max_snoc (l : List Nat) (x : Nat) : (l ++ [x]).foldr max 0 = max (l.foldr max 0) x := by
 induction l with
 |nil => simp
 |cons a r ih => simp only [List.cons_append, List.foldr_cons, ih]; omega
theorem max_take (f : T → Nat) {l : List T} {i : Nat} (h : i < l.length) : ((l.take (i + 1)).map f).foldr max 0 = max (((l.take i).map f).foldr max 0) (f (l.getD i T.nul)) := by
 rw [take_getD h, List.map_append]; exact foldr_max_snoc _ _
theorem sum_take_le (f : T → Nat) (l : List T) (i : Nat) : ((l.take i).map f).sum ≤ (l.map f).sum := by
 conv => rhs; rw [← List.take_append_drop i l]
 rw [List.map_append, List.sum_append]; omega
theorem treeSize {A : List Nat} : ∀ t : T, t.bulk ≤ 1099511627776 → ∀ {w : World} {sa sk : Sl}, RdT A w t sa sk →
  Calls Tryz.prog 59 #[tv t sa sk] w (Ret fun v w' => Ext w w' ∧ v = .int .i64 (t.size : Int)) := T.ind' fun t ih hb w sa sk h => by
 refine tree_Size.ok _ _ _ _ _ ?_
 unfold tree_Size.vc
 have hn := h.nkids
 have hcp := h.caps
 have hl := T.kids_len t
 intro w1 B1 _ hE1
 refine ⟨fun n i w2 => ∃ k : Nat, i = (k : Int) ∧ k ≤ t.kids.length ∧ n = ((1 + ((t.kids.take k).map T.size).sum : Nat) : Int) ∧ Ext w w2, fun _ i _ => t.kids.length - i.toNat, ⟨0, rfl, Nat.zero_le _, by simp, hE1⟩, ?_⟩
 rintro _ _ w2 ⟨k, rfl, hk, rfl, hE⟩
 refine ⟨fun hi => ?_, fun hi => ⟨hE, ?_⟩⟩
 ·have hk' : k < t.kids.length := by omega
  obtain ⟨p, sa', sk', hp, _, hc, hr⟩ := (h.ext hE).kid hk'
  rw [Int.toNat_natCast]
  have hm := getD_mem (d := T.nul) hk'
  have hs := sum_take T.size hk'
  have hsl := sum_take_le T.size t.kids (k + 1)
  have ht := T.size_eq t
  have htb := T.size_bulk t
  refine ⟨⟨by omega, hi⟩, p, hp, _, _, _, sa', sk', hc, fun w3 B3 _ hE3 => CallK.exact (ih _ hm (by have := T.kid_bulk hm; omega) (hr.ext hE3)) fun w4 hE4 => ⟨_, rfl, ⟨by omega, by omega⟩, ⟨by omega, by omega⟩, ⟨k + 1, by omega, by omega, by omega, (hE.trans hE3).trans hE4⟩, by dsimp only; omega⟩⟩
 ·have hkl : k = t.kids.length := by omega
  subst hkl
  rw [List.take_of_length_le (Nat.le_refl _), T.size_eq t]
theorem treeDepth {A : List Nat} : ∀ t : T, t.bulk ≤ 1099511627776 → ∀ {w : World} {sa sk : Sl}, RdT A w t sa sk →
  Calls Tryz.prog 60 #[tv t sa sk] w (Ret fun v w' => Ext w w' ∧ v = .int .i64 (t.depth : Int)) := T.ind' fun t ih hb w sa sk h => by
 refine tree_Depth.ok _ _ _ _ _ ?_
 unfold tree_Depth.vc
 have hn := h.nkids
 have hcp := h.caps
 have hl := T.kids_len t
 intro w1 B1 _ hE1
 refine ⟨fun n i w2 => ∃ k : Nat, i = (k : Int) ∧ k ≤ t.kids.length ∧ n = ((((t.kids.take k).map T.depth).foldr max 0 : Nat) : Int) ∧ Ext w w2, fun _ i _ => t.kids.length - i.toNat, ⟨0, rfl, Nat.zero_le _, by simp, hE1⟩, ?_⟩
 rintro _ _ w2 ⟨k, rfl, hk, rfl, hE⟩
 refine ⟨fun hi => ?_, fun hi => ?_⟩
 ·have hk' : k < t.kids.length := by omega
  obtain ⟨p, sa', sk', hp, _, hc, hr⟩ := (h.ext hE).kid hk'
  rw [Int.toNat_natCast]
  have hm := getD_mem (d := T.nul) hk'
  have hs := max_take T.depth hk'
  refine ⟨⟨by omega, hi⟩, p, hp, _, _, _, sa', sk', hc, fun w3 B3 _ hE3 => CallK.exact (ih _ hm (by have := T.kid_bulk hm; omega) (hr.ext hE3)) fun w4 hE4 => ⟨_, rfl, ⟨by omega, by omega⟩, ⟨k + 1, by omega, by omega, by omega, (hE.trans hE3).trans hE4⟩, by dsimp only; omega⟩⟩
 ·have hkl : k = t.kids.length := by omega
  subst hkl
  have h1 := T.depth_eq t
  have h2 := T.depth_size t
  have h3 := T.size_bulk t
  rw [List.take_of_length_le (Nat.le_refl _)]
  refine ⟨⟨by omega, by omega⟩, hE, ?_⟩
  rw [h1]; congr 1; omega
def byteOk (c : UInt8) : Bool := !(c.toNat == 9 || c.toNat == 10 || c.toNat == 12 || c.toNat == 32 || c.toNat == 0 || c.toNat == 34 || c.toNat == 39 || c.toNat == 62 || c.toNat == 47 || c.toNat == 61 || c.toNat == 60) && !(decide (65 ≤ c.toNat) && decide (c.toNat ≤ 90))
def nameOk (s : Str) : Bool := !(s.isEmpty) && decide (s.length ≤ 32) && s.all byteOk
def attrsOk : Str → List (Str × Str) → Bool
 |_, [] => true
 |last, p :: r => !(Op.bytesLess p.1 last) && !(decide (p.1 = last)) && nameOk p.1 && decide (p.2.length ≤ 4096) && attrsOk p.1 r
def nodeOk : T → Bool
 |.node k n x ats ks => if k = 2 then nameOk n && x.isEmpty && (decide (ats.length ≤ 12) && attrsOk [] ats) && ((ks.attach.map fun ⟨t, _⟩ => nodeOk t && !(decide (t.kind = 5))).all id)
  else ats.isEmpty && ks.isEmpty && (if k = 3 then n.isEmpty && !x.isEmpty && decide (x.length ≤ 4096) else if k = 4 then n.isEmpty && decide (x.length ≤ 4096) else if k = 5 then x.isEmpty && decide (n.length ≤ 32) else false)
def kidsOk (t : T) : Bool := t.kids.all fun u => nodeOk u && !(decide (u.kind = 5) && !(decide (t.kind = 1)))
def T.check (t : T) : Bool := decide (t.kind = 1) && decide (t.size ≤ 300) && decide (t.depth ≤ 60) && (t.name.isEmpty && t.text.isEmpty) && t.attrs.isEmpty && kidsOk t
theorem nodeOk_el {t : T} (h : t.kind = 2) : nodeOk t = (nameOk t.name && t.text.isEmpty && (decide (t.attrs.length ≤ 12) && attrsOk [] t.attrs) && kidsOk t) := by
 cases t with
 |node k n x ats ks =>
  have h : k = 2 := h
  subst h
  have e : (ks.attach.map fun (x : { x // x ∈ ks }) => nodeOk x.1 && !(decide (T.kind x.1 = 5))) = ks.map fun u => nodeOk u && !(decide (T.kind u = 5)) := List.attach_map_val (f := fun u => nodeOk u && !(decide (T.kind u = 5)))
  have e2 : kidsOk (.node 2 n x ats ks) = (ks.map fun u => nodeOk u && !(decide (T.kind u = 5))).all id := by
   unfold kidsOk; rw [List.all_map]; simp [T.kind, T.kids, Function.comp_def]
  rw [nodeOk, if_pos rfl, e2, ← e]; rfl
theorem nodeOk_ne {t : T} (h : t.kind ≠ 2) : nodeOk t = (t.attrs.isEmpty && t.kids.isEmpty && (if t.kind = 3 then t.name.isEmpty && !t.text.isEmpty && decide (t.text.length ≤ 4096) else if t.kind = 4 then t.name.isEmpty && decide (t.text.length ≤ 4096) else if t.kind = 5 then t.text.isEmpty && decide (t.name.length ≤ 32) else false)) := by
 cases t with
 |node k n x ats ks =>
  have h : k ≠ 2 := h
  rw [nodeOk, if_neg h]; rfl
theorem treeName {w : World} (s : Str) : Calls Tryz.prog 149 #[.string (Bs s)] w (Ret fun v w' => Ext w w' ∧ v = .bool (nameOk s)) := by
 refine tree_Name.ok _ ?_
 unfold tree_Name.vc
 refine ⟨fun hc => ⟨Chg.refl _ _, ?_⟩, fun hc => ?_⟩
 ·rcases hc with rfl | hc
  ·rfl
  ·have : nameOk s = false := by unfold nameOk; simp; omega
   rw [this]
 ·obtain ⟨h0, h32⟩ := hc
  refine ⟨fun i w1 => ∃ k : Nat, i = (k : Int) ∧ k ≤ s.length ∧ (s.take k).all byteOk = true ∧ Ext w w1, fun i _ => s.length - i.toNat, ⟨0, rfl, Nat.zero_le _, rfl, Chg.refl _ _⟩, ?_⟩
  rintro _ w1 ⟨k, rfl, hk, hall, hE⟩
  rw [Int.toNat_natCast]
  refine ⟨fun hi => ?_, fun hi => ⟨hE, ?_⟩⟩
  ·have hk' : k < s.length := by omega
   have hbad : byteOk (s.getD k 0) = false → nameOk s = false := fun hb => by
    have hm : s.getD k 0 ∈ s := by rw [List.getD_eq_getElem?_getD, List.getElem?_eq_getElem hk']; exact List.getElem_mem hk'
    unfold nameOk
    have : s.all byteOk = false := by
     rw [List.all_eq_false]; exact ⟨_, hm, fun h => by rw [hb] at h; cases h⟩
    rw [this, Bool.and_false]
   generalize hx : s.getD k 0 = c at hbad
   refine ⟨⟨by omega, hi⟩, fun hset => ⟨hE, ?_⟩, fun hset => ⟨fun hup => ⟨hE, ?_⟩, fun hup => ⟨⟨by omega, by omega⟩, ⟨k + 1, by omega, by omega, ?_, hE⟩, by dsimp only; omega⟩⟩⟩
   ·rw [hbad (by unfold byteOk; simp; intro; omega)]
   ·rw [hbad (by unfold byteOk; simp; omega)]
   ·rw [List.take_succ_eq_append_getElem hk', List.all_append, hall]
    have : s[k] = c := by rw [← hx, List.getD_eq_getElem?_getD, List.getElem?_eq_getElem hk']; rfl
    rw [this]
    simp only [List.all_cons, List.all_nil, Bool.and_true, Bool.true_and]
    unfold byteOk
    simp; omega
  ·have hkl : k = s.length := by omega
   subst hkl
   rw [List.take_of_length_le (Nat.le_refl _)] at hall
   unfold nameOk
   rw [hall]
   have : s.isEmpty = false := by cases s <;> simp_all
   simp [this]; omega
end
section
open Go.RowKit
theorem attrsOk_drop {last : Str} {l : List (Str × Str)} {k : Nat} (h : k < l.length) : attrsOk last (l.drop k) = (!(Op.bytesLess (l.getD k ([], [])).1 last) && !(decide ((l.getD k ([], [])).1 = last)) && nameOk (l.getD k ([], [])).1 && decide ((l.getD k ([], [])).2.length ≤ 4096) && attrsOk (l.getD k ([], [])).1 (l.drop (k + 1))) := by
 rw [List.drop_eq_getElem_cons h, List.getD_eq_getElem?_getD, List.getElem?_eq_getElem h]; rfl
theorem treeAttrs {A : List Nat} {w : World} {s : Sl} {l : List (Str × Str)} (h : Row A w s 2 (l.map ac)) :
  Calls Tryz.prog 152 #[s.v] w (Ret fun v w' => Ext w w' ∧ v = .bool (decide (l.length ≤ 12) && attrsOk [] l)) := by
 refine tree_attrs.ok _ ?_
 unfold tree_attrs.vc
 have hl := h.len
 simp only [List.length_map] at hl
 refine ⟨fun hb => ⟨Chg.refl _ _, ?_⟩, fun hb => ?_⟩
 ·have : decide (l.length ≤ 12) = false := decide_eq_false (by omega)
  rw [this]; rfl
 ·have h12 : decide (l.length ≤ 12) = true := decide_eq_true (by omega)
  rw [h12, Bool.true_and]
  refine ⟨fun last i w1 => ∃ k : Nat, i = (k : Int) ∧ k ≤ l.length ∧ attrsOk [] l = attrsOk last (l.drop k) ∧ Ext w w1, fun _ i _ => l.length - i.toNat, ⟨0, rfl, Nat.zero_le _, rfl, Chg.refl _ _⟩, ?_⟩
  rintro last _ w1 ⟨k, rfl, hk, heq, hE⟩
  rw [Int.toNat_natCast]
  refine ⟨fun hi => ?_, fun hi => ⟨hE, ?_⟩⟩
  ·have hk' : k < l.length := by omega
   obtain ⟨p, hp, _, hc, _⟩ := (h.ext hE).at_ k (by simpa using hk')
   have e : (l.map ac).getD k [] = ac (l.getD k ([], [])) := by simp [List.getD_eq_getElem?_getD, hk']
   rw [e] at hc
   rw [attrsOk_drop hk'] at heq
   rw [heq]
   generalize l.getD k ([], []) = q at hc heq
   obtain ⟨qn, qv⟩ := q
   refine ⟨⟨by omega, hi⟩, p, hp, qn, qv, hc, fun w2 B2 _ hE2 => ⟨nameOk qn, fun _ => treeName qn, fun w3 hE3 => ⟨fun hbad => ⟨(hE.trans hE2).trans hE3, ?_⟩, fun hgood => ⟨⟨by omega, by omega⟩, ⟨k + 1, by omega, by omega, ?_, (hE.trans hE2).trans hE3⟩, by dsimp only; omega⟩⟩⟩⟩
   ·rcases hbad with ((hb | hb) | hb) | hb
    ·simp [hb]
    ·simp [hb]
    ·simp [hb]
    ·have : decide (qv.length ≤ 4096) = false := decide_eq_false (by omega)
     simp [this]
   ·obtain ⟨⟨⟨h1, h2⟩, h3⟩, h4⟩ := hgood
    have : decide (qv.length ≤ 4096) = true := decide_eq_true (by omega)
    simp [h1, h2, h3, this]
  ·have hkl : k = l.length := by omega
   subst hkl
   rw [heq, List.drop_length]; rfl
theorem treeEmpty {A : List Nat} {w : World} {s : Sl} {l : List Str} (h : Row A w s 1 (l.map fun x => [.string (Bs x)])) :
  Calls Tryz.prog 61 #[s.v] w (Ret fun v w' => Ext w w' ∧ v = .bool (l.all List.isEmpty)) := by
 refine tree_empty.ok _ ?_
 unfold tree_empty.vc
 have hl := h.len
 have hcp := h.most
 have hcc := h.cap
 simp only [maxLen] at hcp
 simp only [List.length_map] at hl
 refine ⟨fun i w1 => ∃ k : Nat, i = (k : Int) ∧ k ≤ l.length ∧ l.all List.isEmpty = (l.drop k).all List.isEmpty ∧ Ext w w1, fun i _ => l.length - i.toNat, ⟨0, rfl, Nat.zero_le _, rfl, Chg.refl _ _⟩, ?_⟩
 rintro _ w1 ⟨k, rfl, hk, heq, hE⟩
 rw [Int.toNat_natCast]
 refine ⟨fun hi => ?_, fun hi => ⟨hE, ?_⟩⟩
 ·have hk' : k < l.length := by omega
  obtain ⟨p, hp, _, hc, _⟩ := (h.ext hE).at_ k (by simpa using hk')
  have e : (l.map fun x => [Value.string (Bs x)]).getD k [] = [.string (Bs (l[k]))] := by simp [List.getD_eq_getElem?_getD, hk']
  rw [e] at hc
  have hc0 := hc 0 _ rfl
  rw [Addr.add_zero'] at hc0
  rw [List.drop_eq_getElem_cons hk', List.all_cons] at heq
  refine ⟨⟨by omega, hi⟩, p, hp, l[k], hc0, fun hne => ⟨hE, ?_⟩, fun he => ⟨⟨by omega, by omega⟩, ⟨k + 1, by omega, by omega, ?_, hE⟩, by dsimp only; omega⟩⟩
  ·have : List.isEmpty l[k] = false := by cases hx : l[k] <;> simp_all
   rw [heq, this]; rfl
  ·have he : l[k] = [] := Classical.not_not.1 he
   rw [heq, he]; rfl
 ·have hkl : k = l.length := by omega
  subst hkl
  rw [heq, List.drop_length]; rfl
theorem treeKids {A : List Nat} (t : T) (hb : t.bulk ≤ 1099511627776)
  (ih : ∀ u ∈ t.kids, ∀ {w : World} {sa sk : Sl}, RdT A w u sa sk → Calls Tryz.prog 112 #[tv u sa sk] w (Ret fun v w' => Ext w w' ∧ v = .bool (nodeOk u))) {w : World} {sa sk : Sl} (h : RdT A w t sa sk) :
  Calls Tryz.prog 62 #[tv t sa sk] w (Ret fun v w' => Ext w w' ∧ v = .bool (kidsOk t)) := by
 refine tree_kids.ok _ _ _ _ _ ?_
 unfold tree_kids.vc
 have hn := h.nkids
 have hcp := h.caps
 have hl := T.kids_len t
 intro w1 B1 _ hE1
 refine ⟨fun i w2 => ∃ k : Nat, i = (k : Int) ∧ k ≤ t.kids.length ∧ kidsOk t = (t.kids.drop k).all (fun u => nodeOk u && !(decide (u.kind = 5) && !(decide (t.kind = 1)))) ∧ Ext w w2, fun i _ => t.kids.length - i.toNat, ⟨0, rfl, Nat.zero_le _, rfl, hE1⟩, ?_⟩
 rintro _ w2 ⟨k, rfl, hk, heq, hE⟩
 refine ⟨fun hi => ?_, fun hi => ⟨hE, ?_⟩⟩
 ·have hk' : k < t.kids.length := by omega
  obtain ⟨p, sa', sk', hp, _, hc, hr⟩ := (h.ext hE).kid hk'
  rw [Int.toNat_natCast]
  have hm := getD_mem (d := T.nul) hk'
  rw [List.drop_eq_getElem_cons hk', List.all_cons, show t.kids[k] = t.kids.getD k T.nul by rw [List.getD_eq_getElem?_getD, List.getElem?_eq_getElem hk']; rfl] at heq
  refine ⟨⟨by omega, hi⟩, p, hp, _, _, _, sa', sk', hc, fun w3 B3 _ hE3 => CallK.exact (ih _ hm (hr.ext hE3)) fun w4 hE4 => ⟨_, rfl, fun hbad => ⟨(hE.trans hE3).trans hE4, ?_⟩, fun hgood => ⟨⟨by omega, by omega⟩, ⟨k + 1, by omega, by omega, ?_, (hE.trans hE3).trans hE4⟩, by dsimp only; omega⟩⟩⟩
  ·rw [heq]
   rcases hbad with hb | ⟨hb1, hb2⟩
   ·rw [hb]; rfl
   ·rw [decide_eq_true hb1, decide_eq_false hb2]; simp
  ·rw [heq, hgood.1]
   rcases hgood.2 with hb | hb
   ·rw [decide_eq_false hb]; simp
   ·rw [decide_eq_true (Classical.not_not.1 hb)]; simp
 ·have hkl : k = t.kids.length := by omega
  subst hkl
  rw [heq, List.drop_length]; rfl
theorem isEmpty_dec (s : Str) : decide (s = ([] : Str)) = s.isEmpty := by cases s <;> rfl
theorem isEmpty_ndec (s : Str) : decide (s ≠ ([] : Str)) = !s.isEmpty := by cases s <;> rfl
theorem le_dec (s : Str) (n : Nat) : decide ((s.length : Int) ≤ (n : Int)) = decide (s.length ≤ n) := by rw [Bool.eq_iff_iff]; simp
theorem treeNode {A : List Nat} : ∀ t : T, t.bulk ≤ 1099511627776 → ∀ {w : World} {sa sk : Sl}, RdT A w t sa sk →
  Calls Tryz.prog 112 #[tv t sa sk] w (Ret fun v w' => Ext w w' ∧ v = .bool (nodeOk t)) := T.ind' fun t ih hb w sa sk h => by
 refine tree_node.ok _ _ _ _ _ ?_
 unfold tree_node.vc
 have hn := h.nkids
 have hna := h.nattrs
 refine ⟨fun h2 => ?_, fun h2 => ?_⟩
 ·rw [nodeOk_el h2]
  intro w1 B1 _ hE1
  refine CallK.exact (treeName t.name) fun w2 hE2 => ⟨_, rfl, _, fun _ => treeAttrs (h.attrs.ext (hE1.trans hE2)), fun w3 hE3 => ⟨kidsOk t, fun _ => treeKids t hb (fun u hu _ _ _ hr => ih u hu (by have := T.kid_bulk hu; omega) hr) (h.ext ((hE1.trans hE2).trans hE3)), fun w4 hE4 => ⟨((hE1.trans hE2).trans hE3).trans hE4, ?_⟩⟩⟩
  rw [isEmpty_dec]
 ·rw [nodeOk_ne h2]
  refine ⟨fun hbad w1 B1 _ hE1 => ⟨hE1, ?_⟩, fun hgood => ?_⟩
  ·have : (t.attrs.isEmpty && t.kids.isEmpty) = false := by
    rcases hbad with hb | hb
    ·have : t.attrs.isEmpty = false := by cases hx : t.attrs <;> simp_all
     rw [this]; rfl
    ·have : t.kids.isEmpty = false := by cases hx : t.kids <;> simp_all
     rw [this, Bool.and_false]
   rw [this, Bool.false_and]
  ·have ha : t.attrs.isEmpty = true := by cases hx : t.attrs <;> simp_all
   have hk : t.kids.isEmpty = true := by cases hx : t.kids <;> simp_all
   rw [ha, hk, Bool.true_and, Bool.true_and]
   have l4 := le_dec t.text 4096
   have l3 := le_dec t.name 32
   rw [show ((4096 : Nat) : Int) = 4096 from rfl] at l4
   rw [show ((32 : Nat) : Int) = 32 from rfl] at l3
   refine ⟨fun h3 w1 B1 _ hE1 => ⟨hE1, ?_⟩, fun h3 => ⟨fun h4 w1 B1 _ hE1 => ⟨hE1, ?_⟩, fun h4 => ⟨fun h5 w1 B1 _ hE1 => ⟨hE1, ?_⟩, fun h5 w1 B1 _ hE1 => ⟨hE1, ?_⟩⟩⟩⟩
   ·rw [if_pos h3, isEmpty_dec, isEmpty_ndec, l4]
   ·rw [if_neg h3, if_pos h4, isEmpty_dec, l4]
   ·rw [if_neg h3, if_neg h4, if_pos h5, isEmpty_dec, l3]
   ·rw [if_neg h3, if_neg h4, if_neg h5]
theorem Box.strs {w : World} {B : Nat} {S : TypeId} {l : List Str} (h : Box w B S (l.map fun x => .string (Bs x))) (hl : l.length ≤ 1000) : Row [] w (Sl.mk (some ⟨B, 0, none⟩) l.length l.length) 1 (l.map fun x => [.string (Bs x)]) := by
 refine ⟨by simp, Nat.le_refl _, by simp only [maxLen]; omega, fun i hi => ⟨⟨B, 0, none⟩, rfl, by simp, fun j v hj => ?_, ?_⟩⟩
 ·simp only [List.length_map] at hi
  have e : (l.map fun x => [Value.string (Bs x)]).getD i [] = [.string (Bs (l[i]))] := by simp [List.getD_eq_getElem?_getD, hi]
  rw [e] at hj
  cases j with
  |succ j => simp at hj
  |zero =>
   simp only [List.getElem?_cons_zero, Option.some.injEq] at hj
   subst hj
   rw [Addr.add_add, Addr.add_lit, Nat.mul_one, Nat.add_zero, Nat.zero_add]
   exact h.cell i _ (by simp [hi])
 ·simp only [List.length_map] at hi
  simp [List.getD_eq_getElem?_getD, hi]
theorem treeCheck {A : List Nat} (t : T) (hb : t.bulk ≤ 1099511627776) {w : World} {sa sk : Sl} (h : RdT A w t sa sk) :
  Calls Tryz.prog 35 #[tv t sa sk] w (Ret fun v w' => Ext w w' ∧ v = .bool t.check) := by
 refine tree_Check.ok _ _ _ _ _ ?_
 unfold tree_Check.vc
 have hna := h.nattrs
 intro w1 B1 _ hE1
 refine ⟨_, fun _ => treeSize t hb (h.ext hE1), fun w2 hE2 => ⟨_, fun _ => treeDepth t hb (h.ext (hE1.trans hE2)), fun w3 hE3 w4 hE4 B4 _ hB4 => ?_⟩⟩
 have hE14 := ((hE1.trans hE2).trans hE3).trans hE4
 refine ⟨(t.name.isEmpty && t.text.isEmpty), fun hg => ?_, fun w5 hE5 => ⟨kidsOk t, fun _ => treeKids t hb (fun u hu _ _ _ hr => treeNode u (by have := T.kid_bulk hu; omega) hr) (h.ext (hE14.trans hE5)), fun w6 hE6 => ⟨(hE14.trans hE5).trans hE6, ?_⟩⟩⟩
 ·have := treeEmpty (Box.strs (l := [t.name, t.text]) (hB4 hg) (by simp))
  simpa using this
 ·unfold T.check
  have e1 : decide ((t.size : Int) ≤ 300) = decide (t.size ≤ 300) := by rw [Bool.eq_iff_iff]; simp; omega
  have e2 : decide ((t.depth : Int) ≤ 60) = decide (t.depth ≤ 60) := by rw [Bool.eq_iff_iff]; simp; omega
  have e3 : decide ((sa.n : Int) = 0) = t.attrs.isEmpty := by
   rw [hna]; cases t.attrs with
   |nil => rfl
   |cons a r => simp; omega
  rw [e1, e2, e3]
end
section
open Go.RowKit
theorem ones_ac (p : Str × Str) : ∀ u ∈ [ac p].flatten, u.oneCell' = true := by intro u hu; simp [ac] at hu; rcases hu with rfl | rfl <;> rfl
theorem ones_acs (l : List (Str × Str)) : ∀ u ∈ (l.map ac).flatten, u.oneCell' = true := by
 intro u hu
 obtain ⟨c, hc, hu⟩ := List.mem_flatten.1 hu
 obtain ⟨p, _, rfl⟩ := List.mem_map.1 hc
 exact ones_ac p u (by simpa using hu)
theorem ones_tc (t : T) (p : Sl × Sl) : ∀ u ∈ [tc t p].flatten, u.oneCell' = true := by intro u hu; simp [tc] at hu; rcases hu with rfl | rfl | rfl | rfl | rfl <;> rfl
def Nur (A : List Nat) (w : World) (s : Sl) (ts : List T) : Prop :=
 ∃ ps : List (Sl × Sl), ps.length = ts.length ∧ Own A w s 5 39 (List.zipWith tc ts ps) ∧ ∀ (i : Nat) (t : T) (p : Sl × Sl), ts[i]? = some t → ps[i]? = some p → RdT (s.blk ++ A) w t p.1 p.2
theorem Nur.nil (A : List Nat) (w : World) : Nur A w Sl.nil [] := ⟨[], rfl, Own.nil _ _ _ _, by simp⟩
theorem Nur.own {A : List Nat} {w : World} {s : Sl} {ts : List T} (h : Nur A w s ts) : s.n = ts.length ∧ s.n ≤ s.c ∧ s.c ≤ maxLen ∧ ∀ b ∈ s.blk, b ∉ A ∧ b < w.heap.size := by
 obtain ⟨ps, hl, ho, _⟩ := h
 have := ho.len
 exact ⟨by simp [hl] at this; omega, ho.cap, ho.most, ho.blk⟩
theorem Nur.chg {A F : List Nat} {w w' : World} {s : Sl} {ts : List T} (h : Nur A w s ts) (c : Chg F w w') (hF : ∀ b ∈ F, b ∈ A) : Nur A w' s ts := by
 obtain ⟨ps, hl, ho, hr⟩ := h
 exact ⟨ps, hl, ho.chg c hF, fun i t p ht hp => (hr i t p ht hp).chg c (fun b hb => List.mem_append_right _ (hF b hb))⟩
theorem Nur.ext {A : List Nat} {w w' : World} {s : Sl} {ts : List T} (h : Nur A w s ts) (c : Ext w w') : Nur A w' s ts := h.chg c (by simp)
theorem Nur.less {A A' : List Nat} {w : World} {s : Sl} {ts : List T} (h : Nur A w s ts) (hA : ∀ b ∈ A', b ∈ A) : Nur A' w s ts := by
 obtain ⟨ps, hl, ho, hr⟩ := h
 exact ⟨ps, hl, ho.less hA, fun i t p ht hp => (hr i t p ht hp).less (fun b hb => by
  rcases List.mem_append.1 hb with hb | hb
  ·exact List.mem_append_left _ hb
  ·exact List.mem_append_right _ (hA b hb))⟩
theorem Nur.rd {A : List Nat} {w : World} {s sa : Sl} {ts : List T} (h : Nur A w s ts) {k : Int} {n x : Str} {ats : List (Str × Str)} (ha : Row A w sa 2 (ats.map ac)) : RdT A w (.node k n x ats ts) sa s := by
 obtain ⟨ps, hl, ho, hr⟩ := h
 exact .mk ps ha hl ho.row (fun i t p ht hp => (hr i t p ht hp).less (fun b hb => List.mem_append_right _ hb))
theorem Nur.push {A bx : List Nat} {w : World} {s : Sl} {ts : List T} {u : T} {su sk : Sl} {B : Nat} {S ty : TypeId} {K : Value → World → Prop} (h : Nur A w s ts) (hA : ∀ b ∈ A, b < w.heap.size) (hB : Box w B S (tc u (su, sk))) (hu : RdT (s.blk ++ A) w u su sk)
  (hl : ts.length + 1 ≤ 1099511627776) (hbx : ∀ b ∈ bx, b ∈ A) (k : ∀ s' w', Nur A w' s' (ts ++ [u]) → Chg s.own w w' → (∀ b ∈ s'.blk, b ∈ s.own ∨ w.heap.size ≤ b) → K s'.v w') :
  RunK Tryz.prog (Builtin.append_ #[37, 37] ty #[s.v, Sl.v (Sl.mk (some ⟨B, 0, none⟩) 1 1)]) w bx K := by
 have hn := h.own.1
 obtain ⟨ps, hpl, ho, hr⟩ := h
 have hx : Row [] w (Sl.mk (some ⟨B, 0, none⟩) 1 1) 5 [tc u (su, sk)] :=
  ⟨rfl, Nat.le_refl _, by simp [maxLen], fun i hi => by
   have : i = 0 := by simpa using hi
   subst this
   exact ⟨_, rfl, by simp, by rw [Nat.zero_mul, Addr.add_zero']; exact hB.cells, rfl⟩⟩
 refine App.runK Tryz.underlying37 ti_39 rfl (by decide) (.inl ho) hA hx (ones_tc u _) (by simp) (by simp only [maxLen, List.length_singleton]; omega) (by simp only [List.length_singleton]; omega) hbx fun s' w' ho' hc hb => k s' w' ?_ hc hb
 have back : ∀ {t : T} {p : Sl × Sl}, RdT (s.blk ++ A) w t p.1 p.2 → RdT (s'.blk ++ A) w' t p.1 p.2 := fun {t p} hr => by
  have h1 : ∀ b ∈ s'.blk, b ∈ s.blk ++ A ∨ w.heap.size ≤ b := fun b hm => (hb b hm).imp_left (fun h => List.mem_append_left _ (Sl.own_blk h))
  have h2 : ∀ L : List Nat, (∀ b ∈ L, b ∈ s.blk ++ A ∨ w.heap.size ≤ b) → RdT (L ++ (s.blk ++ A)) w t p.1 p.2 := fun L => by
   induction L with
   |nil => intro _; exact hr
   |cons b L ih =>
    intro hL
    have h3 := ih (fun b hb => hL b (List.mem_cons_of_mem _ hb))
    rcases hL b (List.mem_cons_self ..) with hm | hm
    ·refine h3.less fun x hx => ?_
     rcases List.mem_append.1 hx with hx | hx
     ·rcases List.mem_cons.1 hx with e | hx
      ·subst e; exact List.mem_append_right _ hm
      ·exact List.mem_append_left _ hx
     ·exact List.mem_append_right _ hx
    ·exact h3.fresh hm
  refine ((h2 s'.blk h1).chg hc (fun b hb => List.mem_append_right _ (List.mem_append_left _ (Sl.own_blk hb)))).less fun x hx => ?_
  rcases List.mem_append.1 hx with hx | hx
  ·exact List.mem_append_left _ hx
  ·exact List.mem_append_right _ (List.mem_append_right _ hx)
 refine ⟨ps ++ [(su, sk)], by simp [hpl], ?_, fun i t p ht hp => ?_⟩
 ·rw [List.zipWith_append (by omega)]; exact ho'
 ·rcases Nat.lt_trichotomy i ts.length with hi | hi | hi
  ·rw [List.getElem?_append_left hi] at ht
   rw [List.getElem?_append_left (by omega)] at hp
   exact back (hr i t p ht hp)
  ·rw [List.getElem?_append_right (by omega)] at ht hp
   rw [hi, Nat.sub_self] at ht
   rw [hi, hpl, Nat.sub_self] at hp
   simp at ht hp; subst ht; subst hp
   exact back (p := (su, sk)) hu
  ·have := (List.getElem?_eq_some_iff.1 ht).1
   simp at this; omega
end
section
open Go.RowKit
theorem and_mask (x : Int) : ∃ r : Nat, bits .and .i64 x 1099511627775 = (r : Int) ∧ r < 1099511627776 := by
 have hle : (BitVec.ofInt 64 x &&& BitVec.ofInt 64 1099511627775).toNat ≤ 1099511627775 := by
  rw [BitVec.toNat_and]; exact Nat.and_le_right
 refine ⟨(BitVec.ofInt 64 x &&& BitVec.ofInt 64 1099511627775).toNat, ?_, by omega⟩
 show IntKind.i64.wrap (((BitVec.ofInt 64 x &&& BitVec.ofInt 64 1099511627775).toNat : Nat) : Int) = _
 rw [IntKind.wrap_i64]
 omega
def ic (z : Int) : List Value := [.int .i64 z]
theorem lawNext {A : List Nat} {w : World} {l : Sl} {zs : List Int} {B x : Nat} (h : Row A w l 1 (zs.map ic)) (hA : B ∈ A) (hB : Box w B 3 [.int .i64 (x : Int)]) (hx : x ≤ 1099511627776) :
  Calls Tryz.prog 41 #[l.v, .pointer (some ⟨B, 0, none⟩)] w (Ret fun v w' => Chg [B] w w' ∧ ∃ r x' : Nat, v = .int .i64 (r : Int) ∧ r < 1099511627776 ∧ x' ≤ x + 1 ∧ Box w' B 3 [.int .i64 (x' : Int)]) := by
 refine law00_next.ok _ _ ?_
 unfold law00_next.vc
 have hl := h.len
 have hm := h.most
 have hcap := h.cap
 simp only [maxLen] at hm
 simp only [List.length_map] at hl
 refine ⟨fun _ => ⟨Chg.refl _ _, 0, x, rfl, by decide, by omega, hB⟩, fun hne => ⟨(x : Int), hB.cell 0 _ rfl, ⟨by omega, by omega⟩, B, 0, 3, _, rfl, hB, by simp, by simp, fun w1 hC1 hB1 w2 hE2 => ?_⟩⟩
 have hB1 : Box w1 B 3 [.int .i64 ((x + 1 : Nat) : Int)] := hB1
 have hB2 := hB1.ext hE2
 have ed : (((x + 1 : Nat) : Int)).tdiv (l.n : Int) = (((x + 1) / l.n : Nat) : Int) := rfl
 have hle : (x + 1) / l.n ≤ x + 1 := Nat.div_le_self _ _
 refine ⟨((x + 1 : Nat) : Int), hB2.cell 0 _ rfl, ⟨by omega, by omega⟩, ((x + 1 : Nat) : Int), hB2.cell 0 _ rfl, ?_⟩
 rw [ed]
 clear ed
 generalize (x + 1) / l.n = d at hle
 refine ⟨⟨hne, ⟨by omega, by omega⟩⟩, ⟨by omega, by omega⟩, _, fun w' _ => place _ _ (by omega) (by omega), ?_⟩
 have h1 : 0 ≤ (((x + 1 : Nat) : Int) * 5 + (d : Int)).emod (l.n : Int) := Int.emod_nonneg _ hne
 have h2 : (((x + 1 : Nat) : Int) * 5 + (d : Int)).emod (l.n : Int) < (l.n : Int) := Int.emod_lt_of_pos _ (show (0 : Int) < l.n by omega)
 generalize (((x + 1 : Nat) : Int) * 5 + (d : Int)).emod (l.n : Int) = q at h1 h2
 have hr : Row A w2 l 1 (zs.map ic) := (h.chg hC1 (by simpa using hA)).ext hE2
 obtain ⟨p, hp, _, hcell, _⟩ := hr.at_ q.toNat (by simp; omega)
 have e : (zs.map ic).getD q.toNat [] = ic (zs.getD q.toNat 0) := by
  have hq : q.toNat < zs.length := by omega
  simp [List.getD_eq_getElem?_getD, hq]
 rw [e] at hcell
 have hc0 := hcell 0 _ rfl
 rw [Addr.add_zero'] at hc0
 refine ⟨p, ⟨⟨h1, h2⟩, hp⟩, _, hc0, fun w3 hE3 => ?_⟩
 obtain ⟨r, hr1, hr2⟩ := and_mask (zs.getD q.toNat 0)
 rw [hr1]
 exact ⟨(hC1.trans (Chg.ext hE2)).trans (Chg.ext hE3), r, x + 1, rfl, hr2, Nat.le_refl _, hB2.ext hE3⟩
inductive Calm : T → Prop where
 |node (k : Int) (n x : Str) (ats : List (Str × Str)) (ks : List T) : (∀ p ∈ ats, p.1 ≠ [122, 122]) → (∀ u ∈ ks, Calm u) → Calm (.node k n x ats ks)
structure Sprout (d : Nat) (t : T) : Prop where
 ok : nodeOk t = true
 kind : 2 ≤ t.kind ∧ t.kind ≤ 4
 deep : t.depth ≤ d
 few : t.bulk ≤ 15 * t.size
 calm : Calm t
theorem Sprout.up {d e : Nat} {t : T} (h : Sprout d t) (he : d ≤ e) : Sprout e t := ⟨h.ok, h.kind, Nat.le_trans h.deep he, h.few, h.calm⟩
theorem sprout_comment (s : Str) (h : s.length ≤ 3) : Sprout 1 (.node 4 [] s [] []) :=
 ⟨by rw [nodeOk_ne (by simp [T.kind])]; simp [T.kind, T.name, T.text, T.attrs, T.kids]; exact decide_eq_true (by omega), by simp [T.kind], by simp [T.depth_eq, T.kids], by simp [T.bulk_eq, T.size_eq, T.kids, T.name, T.text, T.attrs]; omega, .node _ _ _ _ _ (by simp) (by simp)⟩
theorem sprout_text (s : Str) (h : s.length = 1) : Sprout 1 (.node 3 [] s [] []) :=
 ⟨by rw [nodeOk_ne (by simp [T.kind])]; simp [T.kind, T.name, T.text, T.attrs, T.kids]; exact ⟨fun e => by subst e; simp at h, decide_eq_true (by omega)⟩, by simp [T.kind], by simp [T.depth_eq, T.kids], by simp [T.bulk_eq, T.size_eq, T.kids, T.name, T.text, T.attrs]; omega, .node _ _ _ _ _ (by simp) (by simp)⟩
def Leafy (ats : List (Str × Str)) : Prop := attrsOk [] ats = true ∧ ats.length ≤ 2 ∧ (ats.map T.abulk).sum ≤ 8 ∧ ∀ p ∈ ats, p.1 ≠ [122, 122]
theorem leafy_id (d : Str) (h : d.length = 1) : Leafy [([105, 100], d)] := by
 have e1 : nameOk [105, 100] = true := by decide +kernel
 have e2 : Op.bytesLess [105, 100] ([] : Str) = false := by decide +kernel
 refine ⟨?_, by simp, by simp [T.abulk]; omega, by simp⟩
 simp only [attrsOk, e1, e2]; simp; omega
theorem leafy_x (v : Str) (h : v.length ≤ 2) : Leafy [([120], v)] := by
 have e1 : nameOk [120] = true := by decide +kernel
 have e2 : Op.bytesLess [120] ([] : Str) = false := by decide +kernel
 refine ⟨?_, by simp, by simp [T.abulk]; omega, by simp⟩
 simp only [attrsOk, e1, e2]; simp; omega
theorem leafy_both (d v : Str) (h : d.length = 1) (h2 : v.length ≤ 2) : Leafy [([105, 100], d), ([120], v)] := by
 have e1 : nameOk [105, 100] = true := by decide +kernel
 have e2 : Op.bytesLess [105, 100] ([] : Str) = false := by decide +kernel
 have e3 : nameOk [120] = true := by decide +kernel
 have e4 : Op.bytesLess [120] ([105, 100] : Str) = false := by decide +kernel
 refine ⟨?_, by simp, by simp [T.abulk]; omega, by simp⟩
 simp only [attrsOk, e1, e2, e3, e4]; simp; omega
theorem sprout_el {f : Nat} {n : Str} {ats : List (Str × Str)} {us : List T} (hn : nameOk n = true) (hl : n.length ≤ 3) (ha : Leafy ats) (hu : ∀ u ∈ us, Sprout f u) : Sprout (f + 1) (.node 2 n [] ats us) := by
 refine ⟨?_, by simp [T.kind], ?_, ?_, .node _ _ _ _ _ ha.2.2.2 fun u hm => (hu u hm).calm⟩
 ·rw [nodeOk_el rfl]
  have h1 := ha.1
  have h2 := ha.2.1
  have hk : kidsOk (.node 2 n [] ats us) = true := by
   unfold kidsOk
   rw [List.all_eq_true]
   intro u hm
   have := hu u hm
   have h3 := this.kind
   rw [this.ok, decide_eq_false (by omega : ¬ u.kind = 5)]; rfl
  have e1 : nameOk (T.node 2 n [] ats us).name = true := hn
  have e2 : attrsOk [] (T.node 2 n [] ats us).attrs = true := h1
  have e3 : decide ((T.node 2 n [] ats us).attrs.length ≤ 12) = true := decide_eq_true (show ats.length ≤ 12 by omega)
  rw [hk, e1, e2, e3]; rfl
 ·rw [T.depth_eq]
  have : (us.map T.depth).foldr max 0 ≤ f := T.foldr_max_le fun x hx => by
   obtain ⟨u, hm, rfl⟩ := List.mem_map.1 hx
   exact (hu u hm).deep
  simp only [T.kids]; omega
 ·rw [T.bulk_eq, T.size_eq]
  have h1 := ha.2.2.1
  have h2 : (us.map T.bulk).sum ≤ (us.map fun u => 15 * u.size).sum := T.sum_le _ _ us fun u hm => (hu u hm).few
  have h3 : (us.map fun u => 15 * u.size).sum = 15 * (us.map T.size).sum := by
   clear h2 hu
   induction us with
   |nil => rfl
   |cons u r ih => simp only [List.map_cons, List.sum_cons, ih]; omega
  simp only [T.name, T.text, T.attrs, T.kids, List.length_nil]; omega
theorem grown_name (i : Nat) (h : i < 4) : nameOk (([([98] : Str), ([112] : Str), ([100, 105, 118] : Str), ([108, 105] : Str)] : List Str).getD i []) = true ∧ (([([98] : Str), ([112] : Str), ([100, 105, 118] : Str), ([108, 105] : Str)] : List Str).getD i []).length ≤ 3 := by
 have : ∀ i : Fin 4, nameOk (([([98] : Str), ([112] : Str), ([100, 105, 118] : Str), ([108, 105] : Str)] : List Str).getD i.val []) = true ∧ (([([98] : Str), ([112] : Str), ([100, 105, 118] : Str), ([108, 105] : Str)] : List Str).getD i.val []).length ≤ 3 := by decide +kernel
 exact this ⟨i, h⟩
theorem push_attr {A bx : List Nat} {w : World} {s : Sl} {ats : List (Str × Str)} {p : Str × Str} {B : Nat} {S ty : TypeId} {K : Value → World → Prop} (h : Own A w s 2 91 (ats.map ac)) (hA : ∀ b ∈ A, b < w.heap.size) (hB : Box w B S (ac p)) (hl : ats.length + 1 ≤ 1099511627776) (hbx : ∀ b ∈ bx, b ∈ A)
  (k : ∀ s' w', Own A w' s' 2 91 ((ats ++ [p]).map ac) → Chg s.own w w' → (∀ b ∈ s'.blk, b ∈ s.own ∨ w.heap.size ≤ b) → K s'.v w') :
  RunK Tryz.prog (Builtin.append_ #[36, 36] ty #[s.v, Sl.v (Sl.mk (some ⟨B, 0, none⟩) 1 1)]) w bx K := by
 have hn := h.len
 simp only [List.length_map] at hn
 have hx : Row [] w (Sl.mk (some ⟨B, 0, none⟩) 1 1) 2 [ac p] :=
  ⟨rfl, Nat.le_refl _, by simp [maxLen], fun i hi => by
   have : i = 0 := by simpa using hi
   subst this
   exact ⟨_, rfl, by simp, by rw [Nat.zero_mul, Addr.add_zero']; exact hB.cells, rfl⟩⟩
 exact App.runK Tryz.underlying36 ti_91 rfl (by decide) (.inl h) hA hx (ones_ac p) (by simp) (by simp only [maxLen, List.length_singleton]; omega) (by simp only [List.length_singleton]; omega) hbx fun s' w' ho hc hb => k s' w' (by simpa using ho) hc hb
theorem lawGrown {l : Sl} {zs : List Int} {Ba Bn : Nat} (hne : Ba ≠ Bn) : ∀ f : Nat, f ≤ 6 → ∀ {w : World} {x n : Nat}, n < 40 → x ≤ n + 1 → Row [Ba, Bn] w l 1 (zs.map ic) → Box w Ba 3 [.int .i64 (x : Int)] → Box w Bn 3 [.int .i64 (n : Int)] →
  Calls Tryz.prog 42 #[l.v, .pointer (some ⟨Ba, 0, none⟩), .pointer (some ⟨Bn, 0, none⟩), .int .i64 (6 - (f : Int))] w (Ret fun v w' => Chg [Ba, Bn] w w' ∧ ∃ (t : T) (sa sk : Sl) (x' : Nat), v = tv t sa sk ∧ RdT (List.range w.heap.size) w' t sa sk ∧
   Box w' Ba 3 [.int .i64 (x' : Int)] ∧ Box w' Bn 3 [.int .i64 ((n + t.size : Nat) : Int)] ∧ n + t.size ≤ 40 ∧ x' ≤ n + t.size + 1 ∧ Sprout (f + 1) t) := by
 intro f
 induction f with
 |zero =>
  intro _ w x n hn hx hl hBa hBn
  refine law00_grown.ok _ _ _ _ ?_
  unfold law00_grown.vc
  intro w1 B5 hN5 hE1
  have hBn1 := hBn.ext hE1
  have hBa1 := hBa.ext hE1
  have hlt1 := hBa.lt
  have hlt2 := hBn.lt
  have hge := hN5.ge
  refine ⟨(n : Int), hBn1.cell 0 _ rfl, ⟨by omega, by omega⟩, Bn, 0, 3, _, rfl, hBn1, by simp, by simp; omega, fun w2 hC2 hBn2 => ?_⟩
  have hBn2 : Box w2 Bn 3 [.int .i64 ((n + 1 : Nat) : Int)] := hBn2
  have hBa2 := hBa1.keep hC2 (by simpa using hne)
  have hl2 := (hl.ext hE1).chg hC2 (by simp)
  refine CallK.chg (lawNext hl2 (by simp) hBa2 (by omega)) (by simp; omega) fun v w3 hC3 ⟨r, x', hv, hr, hx', hBa3⟩ => ⟨(r : Int), hv, ?_⟩
  have hC : Chg [Ba, Bn] w w3 := ((Chg.ext hE1).more' hC2 (by simp)).more' hC3 (by simp)
  have hBn3 := hBn2.keep hC3 (by simpa using hne.symm)
  have e7 : ((r : Int)).tmod 7 = ((r % 7 : Nat) : Int) := rfl
  have d7 : ((r : Int)).tdiv 7 = ((r / 7 : Nat) : Int) := rfl
  have e74 : (((r / 7 : Nat) : Int)).tmod 4 = ((r / 7 % 4 : Nat) : Int) := rfl
  have e76 : (((r / 7 : Nat) : Int)).tmod 6 = ((r / 7 % 6 : Nat) : Int) := rfl
  simp only [e7, d7, e74, e76, Int.toNat_natCast]
  refine ⟨fun h0 => ⟨⟨by omega, by omega⟩, ⟨by omega, by simp; omega⟩, fun w4 hC4 => ?_⟩, fun h0 => ⟨fun h3 => ⟨⟨by omega, by omega⟩, ⟨by omega, by omega⟩, ⟨by omega, by omega⟩, ⟨by omega, by omega, by simp; omega⟩, fun w4 hC4 => ?_⟩, fun h3 => ?_⟩⟩
  ·have hnot : ∀ b ∈ [B5], w.heap.size ≤ b := by simpa using hge
   refine ⟨hC.more' hC4 (fun b hb => .inr (hnot b hb)), .node 4 [] (List.take (r / 7 % 4) [120, 121, 122]) [] [], Sl.nil, Sl.nil, x', rfl, RdT.nil _ _ _ _ _, hBa3.keep hC4 (by simp; omega), ?_, ?_, ?_, (sprout_comment _ (by simp; omega)).up (by omega)⟩
   ·have := hBn3.keep hC4 (by simp; omega)
    simpa [T.size_eq, T.kids] using this
   ·simp [T.size_eq, T.kids]; omega
   ·simp [T.size_eq, T.kids]; omega
  ·have hnot : ∀ b ∈ [B5], w.heap.size ≤ b := by simpa using hge
   refine ⟨hC.more' hC4 (fun b hb => .inr (hnot b hb)), .node 3 [] _ [] [], Sl.nil, Sl.nil, x', rfl, RdT.nil _ _ _ _ _, hBa3.keep hC4 (by simp; omega), ?_, ?_, ?_, (sprout_text _ (by simp; omega)).up (by omega)⟩
   ·have := hBn3.keep hC4 (by simp; omega)
    simpa [T.size_eq, T.kids] using this
   ·simp [T.size_eq, T.kids]; omega
   ·simp [T.size_eq, T.kids]; omega
  ·omega
 |succ f ih =>
  intro hf w x n hn hx hl hBa hBn
  refine law00_grown.ok _ _ _ _ ?_
  unfold law00_grown.vc
  intro w1 B5 hN5 hE1
  have hBn1 := hBn.ext hE1
  have hBa1 := hBa.ext hE1
  have hlt1 := hBa.lt
  have hlt2 := hBn.lt
  have hge := hN5.ge
  refine ⟨(n : Int), hBn1.cell 0 _ rfl, ⟨by omega, by omega⟩, Bn, 0, 3, _, rfl, hBn1, by simp, by simp; omega, fun w2 hC2 hBn2 => ?_⟩
  have hBn2 : Box w2 Bn 3 [.int .i64 ((n + 1 : Nat) : Int)] := hBn2
  have hBa2 := hBa1.keep hC2 (by simpa using hne)
  have hl2 := (hl.ext hE1).chg hC2 (by simp)
  refine CallK.chg (lawNext hl2 (by simp) hBa2 (by omega)) (by simp; omega) fun v w3 hC3 ⟨r, x', hv, hr, hx', hBa3⟩ => ⟨(r : Int), hv, ?_⟩
  have hC : Chg [Ba, Bn] w w3 := ((Chg.ext hE1).more' hC2 (by simp)).more' hC3 (by simp)
  have hBn3 := hBn2.keep hC3 (by simpa using hne.symm)
  have hl3 := hl2.chg hC3 (by simp)
  have e7 : ((r : Int)).tmod 7 = ((r % 7 : Nat) : Int) := rfl
  have d7 : ((r : Int)).tdiv 7 = ((r / 7 : Nat) : Int) := rfl
  have d28 : ((r : Int)).tdiv 28 = ((r / 28 : Nat) : Int) := rfl
  have d84 : ((r : Int)).tdiv 84 = ((r / 84 : Nat) : Int) := rfl
  have d512 : ((r : Int)).tdiv 512 = ((r / 512 : Nat) : Int) := rfl
  have e74 : (((r / 7 : Nat) : Int)).tmod 4 = ((r / 7 % 4 : Nat) : Int) := rfl
  have e76 : (((r / 7 : Nat) : Int)).tmod 6 = ((r / 7 % 6 : Nat) : Int) := rfl
  have e283 : (((r / 28 : Nat) : Int)).tmod 3 = ((r / 28 % 3 : Nat) : Int) := rfl
  have e285 : (((r / 28 : Nat) : Int)).tmod 5 = ((r / 28 % 5 : Nat) : Int) := rfl
  have e844 : (((r / 84 : Nat) : Int)).tmod 4 = ((r / 84 % 4 : Nat) : Int) := rfl
  have e843 : (((r / 84 : Nat) : Int)).tmod 3 = ((r / 84 % 3 : Nat) : Int) := rfl
  have e5124 : (((r / 512 : Nat) : Int)).tmod 4 = ((r / 512 % 4 : Nat) : Int) := rfl
  simp only [e7, d7, d28, d84, d512, e74, e76, e283, e285, e844, e843, e5124, Int.toNat_natCast]
  have hnot : ∀ b ∈ [B5], w.heap.size ≤ b := by simpa using hge
  refine ⟨fun h0 => ⟨⟨by omega, by omega⟩, ⟨by omega, by simp; omega⟩, fun w4 hC4 => ?_⟩, fun h0 => ⟨fun h3 => ⟨⟨by omega, by omega⟩, ⟨by omega, by omega⟩, ⟨by omega, by omega⟩, ⟨by omega, by omega, by simp; omega⟩, fun w4 hC4 => ?_⟩, fun h3 => ⟨⟨by omega, by omega⟩, ⟨by omega, by omega⟩, ⟨by omega, by omega⟩, fun w4 B124 hN4 hE4 => ?_⟩⟩⟩
  ·refine ⟨hC.more' hC4 (fun b hb => .inr (hnot b hb)), .node 4 [] (List.take (r / 7 % 4) [120, 121, 122]) [] [], Sl.nil, Sl.nil, x', rfl, RdT.nil _ _ _ _ _, hBa3.keep hC4 (by simp; omega), ?_, ?_, ?_, (sprout_comment _ (by simp; omega)).up (by omega)⟩
   ·have := hBn3.keep hC4 (by simp; omega)
    simpa [T.size_eq, T.kids] using this
   ·simp [T.size_eq, T.kids]; omega
   ·simp [T.size_eq, T.kids]; omega
  ·refine ⟨hC.more' hC4 (fun b hb => .inr (hnot b hb)), .node 3 [] _ [] [], Sl.nil, Sl.nil, x', rfl, RdT.nil _ _ _ _ _, hBa3.keep hC4 (by simp; omega), ?_, ?_, ?_, (sprout_text _ (by simp; omega)).up (by omega)⟩
   ·have := hBn3.keep hC4 (by simp; omega)
    simpa [T.size_eq, T.kids] using this
   ·simp [T.size_eq, T.kids]; omega
   ·simp [T.size_eq, T.kids]; omega
  ·-- an element
   have hsz : w.heap.size ≤ w3.heap.size := hC.size
   have hsz4 : w3.heap.size ≤ w4.heap.size := hE4.size
   have hB124 := hN4.ge
   have hB124' := hN4.lt
   have hB5' : B5 < w4.heap.size := by have := hN5.lt; have := hC2.size; have := hC3.size; omega
   have hC4 : Chg [Ba, Bn] w w4 := hC.trans (Chg.ext hE4)
   have hl4 := hl3.ext hE4
   -- what holds while the attributes are put together
   let St : World → Prop := fun w' => Chg [Ba, Bn] w w' ∧ Row [Ba, Bn] w' l 1 (zs.map ic) ∧ Box w' Ba 3 [.int .i64 (x' : Int)] ∧ Box w' Bn 3 [.int .i64 ((n + 1 : Nat) : Int)] ∧ w4.heap.size ≤ w'.heap.size
   have hSt4 : St w4 := ⟨hC4, hl4, hBa3.ext hE4, hBn3.ext hE4, Nat.le_refl _⟩
   have hStep : ∀ {wa wb : World} {F : List Nat}, St wa → Chg F wa wb → (∀ b ∈ F, b = B124 ∨ w4.heap.size ≤ b) → St wb := fun {wa wb F} ⟨h1, h2, h3, h4, h5⟩ c hF => by
    have hF' : ∀ b ∈ F, w.heap.size ≤ b := fun b hb => by rcases hF b hb with rfl | h <;> omega
    refine ⟨h1.more' c (fun b hb => .inr (hF' b hb)), ?_, h3.keep c (fun hm => by have := hF' _ hm; omega), h4.keep c (fun hm => by have := hF' _ hm; omega), Nat.le_trans h5 c.size⟩
    have hlw : Row (F ++ [Ba, Bn]) wa l 1 (zs.map ic) := by
     have hlw0 : ∀ L : List Nat, (∀ b ∈ L, w.heap.size ≤ b) → Row (L ++ [Ba, Bn]) w l 1 (zs.map ic) := fun L => by
      induction L with
      |nil => intro _; exact hl
      |cons b L ihL => intro hL; exact (ihL (fun b hb => hL b (List.mem_cons_of_mem _ hb))).fresh (by decide) (hL b (List.mem_cons_self ..))
     exact (hlw0 F hF').chg h1 (fun b hb => List.mem_append_right _ hb)
    exact (hlw.chg c (fun b hb => List.mem_append_left _ hb)).less (fun b hb => List.mem_append_right _ hb)
   have hA4 : ∀ {w' : World}, w4.heap.size ≤ w'.heap.size → ∀ b ∈ List.range w4.heap.size, b < w'.heap.size := fun h b hb => by have := List.mem_range.1 hb; omega
   have hfr : ∀ {s : Sl} {w' : World} {vs : List (List Value)} {k : Nat} {S : TypeId}, Own (List.range w4.heap.size) w' s k S vs → ∀ b ∈ s.own, b = B124 ∨ w4.heap.size ≤ b := fun h b hb => .inr (by have := h.tail b hb; simp at this; omega)
   have hbx : ∀ b ∈ [B5, B124], b ∈ List.range w4.heap.size := by
    intro b hb; simp at hb
    rcases hb with rfl | rfl
    ·exact List.mem_range.2 hB5'
    ·exact List.mem_range.2 hB124'
   refine ⟨fun c w' => St w' ∧ ∃ ats : List (Str × Str), Own (List.range w4.heap.size) w' c 2 91 (ats.map ac) ∧ (ats = [] ∨ ∃ d : Str, d.length = 1 ∧ ats = [([105, 100], d)]),
    ⟨fun hz w5 hE5 => ⟨⟨by omega, by omega⟩, ⟨by omega, by omega⟩, ⟨by omega, by omega⟩, ⟨by omega, by omega, by simp; omega⟩, fun w6 B6 hE6 hB6 hbox _ => ?_⟩, fun hz => ⟨hSt4, [], Own.nil _ _ _ _, .inl rfl⟩⟩, ?_⟩
   ·have hE46 : Ext w4 w6 := hE5.trans hE6
    refine push_attr (ats := []) (Own.nil _ _ _ _) (hA4 hE46.size) hbox (by simp) hbx fun s' w7 ho hc hb => ⟨s', rfl, fun w8 hC8 => ⟨hStep (hStep (hStep hSt4 hE46 (by simp)) hc (by simp [Sl.own])) hC8 (by simp), _, ho.chg hC8 (by intro b hb; simp at hb; subst hb; exact List.mem_range.2 hB124'), .inr ⟨_, ?_, rfl⟩⟩⟩
    simp; omega
   rintro c w5 ⟨hS5, ats, ho5, hats⟩
   refine ⟨⟨by omega, by omega⟩, fun c w' => St w' ∧ ∃ ats : List (Str × Str), Own (List.range w4.heap.size) w' c 2 91 (ats.map ac) ∧ Leafy ats,
    ⟨fun hz w6 hE6 => ⟨⟨by omega, by omega⟩, ⟨by omega, by simp; omega⟩, fun w7 B7 hE7 hB7 hbox _ => ?_⟩, fun hz => ⟨hS5, ats, ho5, ?_⟩⟩, ?_⟩
   ·have hE57 : Ext w5 w7 := hE6.trans hE7
    have ho7 := ho5.ext hE57
    have hS7 := hStep hS5 hE57 (by simp)
    refine push_attr (p := ([120], List.take (r / 84 % 3) ([117, 118] : Str))) ho7 (hA4 hS7.2.2.2.2) hbox (by rcases hats with rfl | ⟨d, _, rfl⟩ <;> simp) hbx fun s' w8 ho hc hb => ⟨s', rfl, fun w9 hC9 => ⟨hStep (hStep hS7 hc (hfr ho7)) hC9 (by simp), _, ho.chg hC9 (by intro b hb; simp at hb; subst hb; exact List.mem_range.2 hB124'), ?_⟩⟩
    have hv : (List.take (r / 84 % 3) ([117, 118] : Str)).length ≤ 2 := by simp; omega
    rcases hats with rfl | ⟨d, hd, rfl⟩
    ·exact leafy_x _ hv
    ·exact leafy_both d _ hd hv
   ·rcases hats with rfl | ⟨d, hd, rfl⟩
    ·exact ⟨rfl, by simp, by simp, by simp⟩
    ·exact leafy_id d hd
   rintro cA w6 ⟨hS6, ats, ho6, hleafy⟩
   have hblk6 : ∀ b ∈ cA.blk, b < w6.heap.size ∧ w4.heap.size ≤ b := fun b hb => by
    have := ho6.blk b hb
    have h2 := this.1; simp at h2; omega
   -- the kids
   have hF6 : ∀ {F : List Nat}, (∀ b ∈ F, w.heap.size ≤ b) → ∀ b ∈ F, b ∉ [Ba, Bn] := fun hF b hb hm => by
    have := hF b hb; simp at hm; rcases hm with rfl | rfl <;> omega
   have hlF : ∀ L : List Nat, (∀ b ∈ L, w.heap.size ≤ b) → Row (L ++ [Ba, Bn]) w l 1 (zs.map ic) := fun L => by
    induction L with
    |nil => intro _; exact hl
    |cons b L ihL => intro hL; exact (ihL (fun b hb => hL b (List.mem_cons_of_mem _ hb))).fresh (by decide) (hL b (List.mem_cons_self ..))
   have hlW : ∀ {w' : World}, Chg [Ba, Bn] w w' → Row [Ba, Bn] w' l 1 (zs.map ic) := fun c => hl.chg c (by simp)
   have hs6 := hS6.2.2.2.2
   refine ⟨⟨by omega, by omega⟩, fun k c w' => k ≤ 3 ∧ Chg [Ba, Bn] w w' ∧ w6.heap.size ≤ w'.heap.size ∧ Own (List.range w4.heap.size) w' cA 2 91 (ats.map ac) ∧ ∃ (us : List T) (xk : Nat), Nur (cA.blk ++ List.range w4.heap.size) w' c us ∧ (∀ u ∈ us, Sprout (f + 1) u) ∧
     Box w' Ba 3 [.int .i64 (xk : Int)] ∧ Box w' Bn 3 [.int .i64 ((n + 1 + (us.map T.size).sum : Nat) : Int)] ∧ n + 1 + (us.map T.size).sum ≤ 40 ∧ xk ≤ n + 1 + (us.map T.size).sum + 1,
    fun k _ _ => k.toNat, ⟨by omega, hS6.1, Nat.le_refl _, ho6, [], x', Nur.nil _ _, by simp, hS6.2.2.1, by simpa using hS6.2.2.2.1, by simp; omega, by simp; omega⟩, ?_⟩
   rintro k c w7 ⟨hk3, hC7, hsz7, ho7, us, xk, hNur, hus, hBa7, hBn7, hn7, hx7⟩
   have hcb : ∀ b ∈ c.blk, w4.heap.size ≤ b ∧ b < w7.heap.size ∧ b ∉ cA.blk := fun b hb => by
    have h := hNur.own.2.2.2 b hb
    have h1 := h.1
    simp at h1; exact ⟨by omega, h.2, h1.1⟩
   refine ⟨((n + 1 + (us.map T.size).sum : Nat) : Int), fun _ => hBn7.cell 0 _ rfl, fun ⟨hk0, hk40⟩ w8 hE8 => ⟨⟨by omega, by omega⟩, ?_⟩, fun hstop w8 hC8 => ?_⟩
   ·have hC8 := hC7.more' hE8 (by simp)
    have hcall := ih (by omega) (w := w8) (x := xk) (n := n + 1 + (us.map T.size).sum) (by omega) (by omega) (hlW hC8) (hBa7.ext hE8) (hBn7.ext hE8)
    rw [show (6 : Int) - ((f + 1 : Nat) : Int) + 1 = 6 - (f : Int) by omega]
    have hsz8 := hE8.size
    refine CallK.chg hcall (by simp; omega) ?_
    rintro v w9 hC9 ⟨u, su, sku, xu, rfl, hru, hBa9, hBn9, hn9, hx9, hspr⟩
    refine ⟨_, _, _, su, sku, rfl, fun w10 B10 hE10 hB10 hbox10 w11 hE11 hbox11 => ?_⟩
    have hE911 : Ext w9 w11 := hE10.trans hE11
    have hAN : ∀ b ∈ [Ba, Bn], b ∈ cA.blk ++ List.range w4.heap.size := fun b hb => List.mem_append_right _ (List.mem_range.2 (by simp at hb; rcases hb with rfl | rfl <;> omega))
    have hNur11 := ((hNur.ext hE8).chg hC9 hAN).ext hE911
    have hsz9 := hC9.size
    have hsz11 := hE911.size
    have ho11 := ((ho7.ext hE8).chg hC9 (fun b hb => (List.mem_range.2 (by simp at hb; rcases hb with rfl | rfl <;> omega)))).ext hE911
    have hC11 : Chg [Ba, Bn] w w11 := (hC8.trans hC9).more' hE911 (by simp)
    refine hNur11.push (fun b hb => ?_) hbox11 ((hru.ext hE911).less fun b hb => List.mem_range.2 ?_) ?_ (fun b hb => List.mem_append_right _ (hbx b hb)) fun s' w12 hN12 hC12 hbl => ⟨s', rfl, ⟨by omega, by omega⟩, fun w13 hC13 => ?_⟩
    ·rcases List.mem_append.1 hb with hb | hb
     ·have := hblk6 b hb; omega
     ·have := List.mem_range.1 hb; omega
    ·rcases List.mem_append.1 hb with hb | hb
     ·have := hcb b hb; omega
     ·rcases List.mem_append.1 hb with hb | hb
      ·have := hblk6 b hb; omega
      ·have := List.mem_range.1 hb; omega
    ·have h1 : (us.map fun _ => 1).sum ≤ (us.map T.size).sum := T.sum_le _ _ us fun u _ => by rw [T.size_eq]; omega
     have h2 : ∀ l : List T, (l.map fun _ => 1).sum = l.length := fun l => by induction l with
      |nil => rfl
      |cons a r ih => simp only [List.map_cons, List.sum_cons, ih, List.length_cons]; omega
     rw [h2] at h1; omega
    ·have hown : ∀ b ∈ c.own, w.heap.size ≤ b := fun b hb => by have := hcb b (Sl.own_blk hb); omega
     have h124 : ∀ b ∈ [B124], w.heap.size ≤ b := by simp; omega
     have n1 := hF6 hown
     have n2 := hF6 h124
     have hsz12 := hC12.size
     have hsz13 := hC13.size
     have es : ((us ++ [u]).map T.size).sum = (us.map T.size).sum + u.size := by simp
     refine ⟨⟨by omega, (hC11.more' hC12 (fun b hb => .inr (hown b hb))).more' hC13 (fun b hb => .inr (h124 b hb)), by omega, (ho11.keep hC12 (fun b hb hm => (hcb b (Sl.own_blk hm)).2.2 hb)).chg hC13 (fun b hb => hbx b (by simp at hb; simp [hb])), us ++ [u], xu, hN12.chg hC13 (fun b hb => List.mem_append_right _ (hbx b (by simp at hb; simp [hb]))), fun y hy => ?_, ((hBa9.ext hE911).keep hC12 (fun hm => n1 _ hm (by simp))).keep hC13 (fun hm => n2 _ hm (by simp)), ?_, by rw [es]; omega, by rw [es]; omega⟩, by dsimp only; omega⟩
     ·rcases List.mem_append.1 hy with hy | hy
      ·exact hus y hy
      ·simp at hy; subst hy; exact hspr
     ·have := ((hBn9.ext hE911).keep hC12 (fun hm => n1 _ hm (by simp))).keep hC13 (fun hm => n2 _ hm (by simp))
      rw [es, ← Nat.add_assoc]; exact this
   ·have h5 : ∀ b ∈ [B5], w.heap.size ≤ b := by simp; omega
    have n5 := hF6 h5
    have hnm := grown_name (r / 7 % 4) (by omega)
    have hb5 : ∀ b ∈ [B5], b ∈ List.range w4.heap.size := fun b hb => hbx b (by simp at hb; simp [hb])
    have hrd := ((hNur.less (A' := List.range w4.heap.size) (fun b hb => List.mem_append_right _ hb)).chg hC8 hb5).rd (k := 2) (n := ([([98] : Str), ([112] : Str), ([100, 105, 118] : Str), ([108, 105] : Str)] : List Str).getD (r / 7 % 4) []) (x := []) (ho7.chg hC8 hb5).row
    have es : ∀ nm : Str, (T.node 2 nm [] ats us).size = 1 + (us.map T.size).sum := fun nm => by rw [T.size_eq]; rfl
    refine ⟨hC7.more' hC8 (fun b hb => .inr (h5 b hb)), .node 2 _ [] ats us, cA, c, xk, rfl, hrd.less (fun b hb => List.mem_range.2 (by have := List.mem_range.1 hb; omega)), hBa7.keep hC8 (fun hm => n5 _ hm (by simp)), ?_, ?_, ?_, sprout_el hnm.1 hnm.2 hleafy hus⟩
    ·have := hBn7.keep hC8 (fun hm => n5 _ hm (by simp))
     rw [es, ← Nat.add_assoc]; exact this
    ·rw [es]; omega
    ·rw [es]; omega
end
end Go.Proofs.YteacalmdpoblpaaGreat
