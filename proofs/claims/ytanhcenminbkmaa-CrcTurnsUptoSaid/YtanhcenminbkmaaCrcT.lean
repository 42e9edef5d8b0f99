/-
  Bits turned within 32 in a row turn the sum: the plain law, and CrcTurns.
-/
import Derived.Test.YtanhcenminbkmaaCrcL
namespace Go.Proofs.Ytanhcenminbkmaa
open Go.RowKit
namespace Crc

theorem bit_xor (a b : Nat) : bit (a ^^^ b) = bit a ^^^ bit b := by
  have hm : (a ^^^ b) % 2 = (a % 2 + b % 2) % 2 := by
    have := Nat.xor_mod_two_pow (a := a) (b := b) (n := 1)
    rw [Nat.pow_one] at this
    rw [this]
    rcases Nat.mod_two_eq_zero_or_one a with ha | ha <;> rcases Nat.mod_two_eq_zero_or_one b with hb | hb <;> rw [ha, hb] <;> rfl
  have hd : (a ^^^ b) / 2 = a / 2 ^^^ b / 2 := Nat.xor_div_two
  unfold bit
  rw [hm, hd]
  rcases Nat.mod_two_eq_zero_or_one a with ha | ha <;> rcases Nat.mod_two_eq_zero_or_one b with hb | hb <;> rw [ha, hb] <;> simp only [Nat.reduceAdd, Nat.reduceMod, if_true, if_false, reduceCtorEq, Nat.zero_ne_one, Nat.one_ne_zero]
  · rw [Nat.xor_assoc]
  · rw [Nat.xor_assoc, Nat.xor_assoc, Nat.xor_comm 3988292384 (b / 2)]
  · rw [Nat.xor_assoc, Nat.xor_comm 3988292384 (b / 2 ^^^ 3988292384), Nat.xor_assoc, Nat.xor_self, Nat.xor_zero]
theorem bitsN_succ (n s : Nat) : bitsN (n + 1) s = bit (bitsN n s) := rfl
theorem bitsN_xor (n a b : Nat) : bitsN n (a ^^^ b) = bitsN n a ^^^ bitsN n b := by
  induction n with
  | zero => rfl
  | succ n ih => rw [bitsN_succ, bitsN_succ, bitsN_succ, ih, bit_xor]
theorem bitsN_add (m n s : Nat) : bitsN (m + n) s = bitsN n (bitsN m s) := by
  induction n with
  | zero => rfl
  | succ n ih => rw [← Nat.add_assoc, bitsN_succ, bitsN_succ, ih]
theorem bitsN_pow (n a : Nat) : bitsN n (a * 2 ^ n) = a := by
  induction n generalizing a with
  | zero => show a * 1 = a; omega
  | succ n ih =>
    rw [bitsN_succ, show a * 2 ^ (n + 1) = (2 * a) * 2 ^ n by rw [Nat.pow_succ]; ac_rfl, ih]
    unfold bit
    rw [if_neg (by omega)]; omega
theorem bit_ne {s : Nat} (h : s < 4294967296) (h0 : s ≠ 0) : bit s ≠ 0 := by
  unfold bit
  split
  · intro e
    have : s / 2 = 3988292384 := by
      have e2 : (s / 2 ^^^ 3988292384) ^^^ 3988292384 = 0 ^^^ 3988292384 := by rw [e]
      rw [Nat.xor_assoc, Nat.xor_self, Nat.xor_zero, Nat.zero_xor] at e2
      exact e2
    omega
  · omega
theorem bitsN_ne (n : Nat) {s : Nat} (h : s < 4294967296) (h0 : s ≠ 0) : bitsN n s ≠ 0 := by
  induction n with
  | zero => exact h0
  | succ n ih => rw [bitsN_succ]; exact bit_ne (bitsN_lt n h) ih
theorem xor_eq_zero' {a b : Nat} (h : a ^^^ b = 0) : a = b := by
  have e : (a ^^^ b) ^^^ b = 0 ^^^ b := by rw [h]
  rwa [Nat.xor_assoc, Nat.xor_self, Nat.xor_zero, Nat.zero_xor] at e
theorem bitsN_inj (n : Nat) {a b : Nat} (ha : a < 4294967296) (hb : b < 4294967296) (h : bitsN n a = bitsN n b) : a = b := by
  by_cases hx : a ^^^ b = 0
  · exact xor_eq_zero' hx
  · have := bitsN_ne n (xor_lt ha hb) hx
    rw [bitsN_xor, h, Nat.xor_self] at this
    exact absurd rfl this
theorem all_inj (l : List UInt8) : ∀ {u v : Nat}, u < 4294967296 → v < 4294967296 → all u l = all v l → u = v := by
  induction l with
  | nil => intro u v _ _ h; exact h
  | cons x r ih =>
    intro u v hu hv h
    have hx : x.toNat < 4294967296 := by have := x.toNat_lt; omega
    have := bitsN_inj 8 (xor_lt hu hx) (xor_lt hv hx) (ih (byte_lt hu x) (byte_lt hv x) h)
    have e : (u ^^^ x.toNat) ^^^ x.toNat = (v ^^^ x.toNat) ^^^ x.toNat := by rw [this]
    rwa [Nat.xor_assoc, Nat.xor_self, Nat.xor_zero, Nat.xor_assoc, Nat.xor_self, Nat.xor_zero] at e
/-- So many bytes of a number, the lowest first. -/
def low : Nat → Nat → List UInt8
  | 0, _ => []
  | n + 1, x => UInt8.ofNat x :: low n (x / 256)
theorem split256 (x : Nat) : x % 256 ^^^ (x / 256 * 2 ^ 8) = x := by
  have h := Nat.two_pow_add_eq_or_of_lt (i := 8) (b := x % 256) (Nat.mod_lt _ (by decide)) (x / 256)
  apply Nat.eq_of_testBit_eq
  intro i
  rw [Nat.testBit_xor, show x % 256 = x % 2 ^ 8 from rfl, Nat.testBit_mod_two_pow, Nat.testBit_mul_two_pow]
  by_cases hi : i < 8
  · have : ¬ (8 ≤ i) := by omega
    simp [hi, this]
  · rw [show x / 256 = x / 2 ^ 8 from rfl, Nat.testBit_div_two_pow]
    simp [hi, show 8 ≤ i by omega, show i - 8 + 8 = i by omega]
theorem byte_low (s x : Nat) : byte s (UInt8.ofNat x) ^^^ (x / 256) = bitsN 8 (s ^^^ x) := by
  have e : (UInt8.ofNat x).toNat = x % 256 := by simp
  rw [show s ^^^ x = (s ^^^ x % 256) ^^^ (x / 256 * 2 ^ 8) by rw [Nat.xor_assoc, split256], bitsN_xor, bitsN_pow]
  unfold byte; rw [e]
theorem all_low (n : Nat) : ∀ s x : Nat, all s (low n x) ^^^ (x / 256 ^ n) = bitsN (8 * n) (s ^^^ x) := by
  induction n with
  | zero => intro s x; show s ^^^ (x / 1) = s ^^^ x; rw [Nat.div_one]
  | succ n ih =>
    intro s x
    have := ih (byte s (UInt8.ofNat x)) (x / 256)
    rw [byte_low, ← bitsN_add, Nat.div_div_eq_div_mul] at this
    rw [show 8 * (n + 1) = 8 + 8 * n by omega, ← this, show 256 ^ (n + 1) = 256 * 256 ^ n by rw [Nat.pow_succ]; omega]
    rfl
theorem byte_xor (s t : Nat) (x y : UInt8) : byte (s ^^^ t) (x ^^^ y) = byte s x ^^^ byte t y := by
  unfold byte
  rw [← bitsN_xor, UInt8.toNat_xor]
  congr 1
  rw [Nat.xor_assoc, Nat.xor_assoc]
  congr 1
  rw [← Nat.xor_assoc, ← Nat.xor_assoc, Nat.xor_comm t]
theorem all_xor : ∀ (l m : List UInt8) (s t : Nat), l.length = m.length → all (s ^^^ t) (List.zipWith (· ^^^ ·) l m) = all s l ^^^ all t m
  | [], [], s, t, _ => rfl
  | x :: l, y :: m, s, t, h => by
    show all (byte (s ^^^ t) (x ^^^ y)) _ = all (byte s x) l ^^^ all (byte t y) m
    rw [byte_xor]
    exact all_xor l m _ _ (by simpa using h)
theorem low_len (n : Nat) : ∀ x, (low n x).length = n := by
  induction n with
  | zero => intro x; rfl
  | succ n ih => intro x; simp [low, ih]
theorem mid_ne {s : Nat} (l : List UInt8) (hl : l.length = 5) {row j : Nat} (hj : j < 8) (hrow : row < 4294967296) (h0 : row ≠ 0) :
    all s (List.zipWith (· ^^^ ·) l (low 5 (row * 2 ^ j))) ≠ all s l := by
  intro h
  have e := all_xor l (low 5 (row * 2 ^ j)) s 0 (by rw [hl, low_len])
  rw [Nat.xor_zero, h] at e
  have e0 : all 0 (low 5 (row * 2 ^ j)) = 0 := by
    have e2 : all s l ^^^ all s l = all s l ^^^ (all s l ^^^ all 0 (low 5 (row * 2 ^ j))) := by rw [← e]
    rw [Nat.xor_self, ← Nat.xor_assoc, Nat.xor_self, Nat.zero_xor] at e2
    exact e2.symm
  have hb : row * 2 ^ j < 256 ^ 5 := by
    have : 2 ^ j ≤ 2 ^ 7 := Nat.pow_le_pow_right (by decide) (by omega)
    have h1 : row * 2 ^ j ≤ row * 2 ^ 7 := Nat.mul_le_mul_left _ this
    omega
  have k := all_low 5 0 (row * 2 ^ j)
  rw [e0, Nat.div_eq_of_lt hb, Nat.xor_zero, Nat.zero_xor, show 8 * 5 = j + (40 - j) by omega, bitsN_add, bitsN_pow] at k
  exact bitsN_ne _ hrow h0 k.symm

/-- The bytes, with the first n of these turned in from q on. -/
def turn (xs : List UInt8) (q X : Nat) : Nat → List UInt8
  | 0 => xs
  | i + 1 => (turn xs q X i).set (q + i) ((turn xs q X i).getD (q + i) 0 ^^^ UInt8.ofNat (X / 2 ^ (8 * i)))
theorem turn_len (xs : List UInt8) (q X : Nat) : ∀ n, (turn xs q X n).length = xs.length
  | 0 => rfl
  | n + 1 => by simp [turn, turn_len xs q X n]
theorem turn_at (pre : List UInt8) (b0 b1 b2 b3 b4 : UInt8) (post : List UInt8) (X : Nat) :
    turn (pre ++ b0 :: b1 :: b2 :: b3 :: b4 :: post) pre.length X 5 = pre ++ (List.zipWith (· ^^^ ·) [b0, b1, b2, b3, b4] (low 5 X) ++ post) := by
  simp [turn, low, Nat.div_div_eq_div_mul]
theorem turn_ne (xs : List UInt8) (q : Nat) (hq : q + 5 ≤ xs.length) {row j : Nat} (hj : j < 8) (hrow : row < 4294967296) (h0 : row ≠ 0) : more 0 (turn xs q (row * 2 ^ j) 5) ≠ more 0 xs := by
  obtain ⟨b0, b1, b2, b3, b4, post, hx⟩ : ∃ b0 b1 b2 b3 b4 post, xs.drop q = b0 :: b1 :: b2 :: b3 :: b4 :: post := by
    have hlen : (xs.drop q).length = xs.length - q := List.length_drop
    match hd : xs.drop q with
    | b0 :: b1 :: b2 :: b3 :: b4 :: post => exact ⟨b0, b1, b2, b3, b4, post, rfl⟩
    | [] => rw [hd] at hlen; simp at hlen; omega
    | [_] => rw [hd] at hlen; simp at hlen; omega
    | [_, _] => rw [hd] at hlen; simp at hlen; omega
    | [_, _, _] => rw [hd] at hlen; simp at hlen; omega
    | [_, _, _, _] => rw [hd] at hlen; simp at hlen; omega
  have hxs : xs = xs.take q ++ b0 :: b1 :: b2 :: b3 :: b4 :: post := by rw [← hx, List.take_append_drop]
  have hpl : (xs.take q).length = q := by simp; omega
  generalize xs.take q = pre at hxs hpl
  subst hxs
  subst hpl
  rw [turn_at]
  intro h
  unfold more at h
  have h2 := congrArg not32 h
  rw [not32_not32, not32_not32, all_append, all_append, all_append] at h2
  have hs := all_lt (not32_lt (s := 0) (by decide)) pre
  rw [show b0 :: b1 :: b2 :: b3 :: b4 :: post = [b0, b1, b2, b3, b4] ++ post from rfl, all_append] at h2
  exact mid_ne _ rfl hj hrow h0 (all_inj post (all_lt hs _) (all_lt hs _) h2)
end Crc

theorem OwnB.box {A : List Nat} {w : World} {s : Sl} {T : TypeId} {xs : List UInt8} (h : OwnB A w s T xs) (hx : xs ≠ []) :
    ∃ g cur, s.a = some ⟨g, 0, none⟩ ∧ g ∉ A ∧ Box w g T cur ∧ cur.length = s.c ∧ cur.take s.n = xs.map fun x => .int .u8 ((x.toNat : Nat) : Int) := by
  rcases Own.at_ h with e | ⟨g, cur, h1, h2, h3, h4, h5⟩
  · have := Own.len h; rw [e] at this; simp [Sl.nil] at this; exact absurd this.symm (by simpa using hx)
  · exact ⟨g, cur, h1, h2, h3, by simpa using h4, by rw [flatten_bc] at h5; simpa using h5⟩
/-- One byte written in a row of the call's own. -/
theorem OwnB.put {A : List Nat} {w w' : World} {s : Sl} {T : TypeId} {xs : List UInt8} (h : OwnB A w s T xs) {g : Nat} {cur : List Value} (ha : s.a = some ⟨g, 0, none⟩) (hg : g ∉ A) (hl : cur.length = s.c)
    (ht : cur.take s.n = xs.map fun x => .int .u8 ((x.toNat : Nat) : Int)) (i : Nat) (y : UInt8) (hb : Box w' g T (putAt cur i [.int .u8 ((y.toNat : Nat) : Int)])) : OwnB A w' s T (xs.set i y) := by
  refine ⟨by have := Own.len h; simpa using this, Own.cap h, Own.most h, each_bc _, .inr ⟨g, cur.set i (.int .u8 ((y.toNat : Nat) : Int)), ha, hg, hb, by simpa using hl, ?_⟩⟩
  rw [flatten_bc, Nat.mul_one, List.map_set, ← ht, List.take_set]

theorem bx8 (a b : UInt8) : bits .xor .u8 (a.toNat : Int) (b.toNat : Int) = (((a ^^^ b).toNat : Nat) : Int) := by
  rw [u8_xor_nat a.toNat b.toNat a.toNat_lt b.toNat_lt, UInt8.toNat_xor]

theorem crcTurnsLaw {w : World} {b : Sl} {xs : List UInt8} (at_ : Int) (row : Nat) (hrow : row < 4294967296) (h : RdB [] w b xs) (hsize : xs.length ≤ 140737488355328) :
    Calls Try.prog 5 #[b.v, .int .i64 at_, .int .u32 (row : Int)] w (Ret fun v w' => Ext w w' ∧ v = .bool true) := by
  refine law02_CrcTurns.ok _ _ _ ?_
  unfold law02_CrcTurns.vc
  have hl := h.len
  have hm := h.most
  refine ⟨fun _ => CallK.exact (crcAwake w) fun w1 hE1 => ⟨true, rfl, hE1, rfl⟩, fun hc => ?_⟩
  obtain ⟨h5, hr0⟩ := hc
  refine ⟨⟨by omega, by omega⟩, ⟨by omega, by omega⟩, CallK.exact (place at_ _ (by omega) (by omega)) fun w1 hE1 => ⟨_, rfl, ?_⟩⟩
  have hk0 := Int.emod_nonneg at_ (show 8 * (b.n : Int) - 39 ≠ 0 by omega)
  have hk1 := Int.emod_lt_of_pos at_ (show (0 : Int) < 8 * (b.n : Int) - 39 by omega)
  obtain ⟨k, hk⟩ : ∃ k : Nat, at_.emod (8 * (b.n : Int) - 39) = (k : Int) := ⟨(at_ % (8 * (b.n : Int) - 39)).toNat, by show at_ % _ = _; omega⟩
  rw [hk]
  have hkn : k + 39 < 8 * b.n := by have : at_ % (8 * (b.n : Int) - 39) = k := hk; omega
  have hne : xs ≠ [] := by intro e; rw [e] at hl; simp at hl; omega
  have etm : (k : Int).tmod 8 = ((k % 8 : Nat) : Int) := by rw [Int.tmod_eq_emod_of_nonneg (by omega)]; omega
  have etd : (k : Int).tdiv 8 = ((k / 8 : Nat) : Int) := by rw [Int.tdiv_eq_ediv_of_nonneg (by omega)]; omega
  refine CallK.ext (bytesCopy (h.ext hE1) hsize [] (by simp)) fun v w2 hE2 ⟨c, hv, ho, hbl⟩ => ⟨c, hv, ?_⟩
  have hE12 := hE1.trans hE2
  rw [etm, etd, IntKind.wrap_u64, show ((k % 8 : Nat) : Int) % 18446744073709551616 = ((k % 8 : Nat) : Int) by omega]
  refine ⟨⟨by omega, by omega⟩, fun i w3 => ∃ n : Nat, n ≤ 5 ∧ i = (n : Int) ∧ Ext w w3 ∧ Ext w1 w3 ∧ OwnB [] w3 c 5 (Crc.turn xs (k / 8) (row * 2 ^ (k % 8)) n), fun i _ => 5 - i.toNat, ⟨0, by omega, rfl, hE12, hE2, ho⟩, ?_⟩
  rintro _ w3 ⟨n, hn, rfl, hE3, hE13, hO⟩
  have hcn : c.n = xs.length := by have := (OwnB.rd ho).len; exact this
  refine ⟨fun hi => ?_, fun hi => ?_⟩
  · obtain ⟨g, cur, ha, hg, hB, hcl, htk⟩ := OwnB.box hO (by intro e; have := congrArg List.length e; rw [Crc.turn_len] at this; simp at this; exact hne this)
    have hrd := (OwnB.rd hO).cell (i := ((k / 8 : Nat) : Int) + (n : Int)) (by omega) (by omega) ha
    rw [show (((k / 8 : Nat) : Int) + (n : Int)).toNat = k / 8 + n by omega] at hrd ⊢
    have hcc := (OwnB.rd hO).most
    refine ⟨⟨by omega, by omega⟩, ⟨by omega, by omega⟩, ⟨by omega, by omega⟩, _, ha, _, hrd, ⟨by omega, by omega⟩, ⟨by rw [IntKind.wrap_u64]; omega, by rw [IntKind.wrap_u64]; omega⟩, ⟨by omega, by omega⟩, _, ha, g, k / 8 + n, 5, cur, ?_, hB, by omega, by simp, ?_⟩
    · rw [Addr.add_lit, Nat.zero_add, Nat.mul_one]
    · intro w4 hC4 hB4
      have hE4 : Ext w w4 := Chg.fresh hE3 hC4 (fun x hx => Nat.le_trans hE1.size (hbl x (by simp at hx; subst hx; simp [Sl.blk, ha])))
      have hE14 : Ext w1 w4 := Chg.fresh hE13 hC4 (fun x hx => hbl x (by simp at hx; subst hx; simp [Sl.blk, ha]))
      refine ⟨⟨by omega, by omega⟩, ⟨n + 1, by omega, by omega, hE4, hE14, ?_⟩, by dsimp only; omega⟩
      refine OwnB.put hO ha hg hcl htk (k / 8 + n) _ ?_
      have ev : IntKind.u8.wrap ((IntKind.u64.wrap ((IntKind.u64.wrap (row : Int)) * 2 ^ ((k % 8 : Nat) : Int).toNat)) / 2 ^ (IntKind.u64.wrap (8 * (n : Int))).toNat) = (((UInt8.ofNat (row * 2 ^ (k % 8) / 2 ^ (8 * n))).toNat : Nat) : Int) := by
        have h1 : (IntKind.u64.wrap (8 * (n : Int))).toNat = 8 * n := by rw [IntKind.wrap_u64]; omega
        have h2 : IntKind.u64.wrap (row : Int) = (row : Int) := by rw [IntKind.wrap_u64]; omega
        have h3 : ((k % 8 : Nat) : Int).toNat = k % 8 := by omega
        have hb : row * 2 ^ (k % 8) < 18446744073709551616 := by
          have : 2 ^ (k % 8) ≤ 2 ^ 7 := Nat.pow_le_pow_right (by decide) (by omega)
          have h1 : row * 2 ^ (k % 8) ≤ row * 2 ^ 7 := Nat.mul_le_mul_left _ this
          omega
        have h4 : IntKind.u64.wrap ((row : Int) * 2 ^ (k % 8)) = ((row * 2 ^ (k % 8) : Nat) : Int) := by
          rw [IntKind.wrap_u64, show ((row : Int) * 2 ^ (k % 8)) = ((row * 2 ^ (k % 8) : Nat) : Int) by push_cast; rfl]; omega
        rw [h1, h2, h3, h4, IntKind.wrap_u8]
        rw [show ((row * 2 ^ (k % 8) : Nat) : Int) / 2 ^ (8 * n) = ((row * 2 ^ (k % 8) / 2 ^ (8 * n) : Nat) : Int) by push_cast; rfl]
        simp
      rw [ev, bx8] at hB4
      exact hB4
  · have hn5 : n = 5 := by omega
    subst hn5
    refine CallK.exact (crcOf (OwnB.rd hO)) fun w4 hE4 => ⟨_, rfl, ?_⟩
    refine CallK.exact (crcOf (h.ext (hE3.trans hE4))) fun w5 hE5 => ⟨_, rfl, true, fun _ => crcAwake _, fun w6 hE6 => ⟨((hE3.trans hE4).trans hE5).trans hE6, ?_⟩⟩
    have := Crc.turn_ne xs (k / 8) (by omega) (j := k % 8) (by omega) hrow (by omega)
    have e : decide (((Crc.more 0 (Crc.turn xs (k / 8) (row * 2 ^ (k % 8)) 5) : Nat) : Int) ≠ ((Crc.more 0 xs : Nat) : Int)) = true := decide_eq_true (by omega)
    rw [e]; rfl

end Go.Proofs.Ytanhcenminbkmaa
