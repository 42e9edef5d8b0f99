/-
  vint and the reference's: each computes the plain function, and writes nothing that was there.
-/
import Derived.Test.YtanhcenminbkmaaG1
import Derived.Test.YtanhcenminbkmaaG2
import Derived.Test.YtanhcenminbkmaaG3
import Derived.Test.YtanhcenminbkmaaCrcL
import Derived.Test.YtanhcenminbkmaaVintN
namespace Go.Proofs.Ytanhcenminbkmaa
open Go.RowKit

/-- Some bytes behind bytes: a row of the call's own. -/
theorem appendO {w : World} {s x : Sl} {xs ys : List UInt8} (h : AppB [] w s 5 xs) (hx : RdB [] w x ys) (hy : ys ≠ []) (hb : xs.length + ys.length ≤ 140737488355328) :
    ∃ s' w', (Builtin.append_ #[23, 23] 23 #[s.v, x.v]).run Try.prog w = .ok (Sl.v s') w' ∧ OwnB [] w' s' 5 (xs ++ ys) ∧ Chg s.own w w' ∧ (∀ b ∈ s'.blk, b ∈ s.own ∨ w.heap.size ≤ b) := by
  have hl := h.rd.len
  obtain ⟨s', w', hr, ho, hch, hbl⟩ := append_app (P := Try.prog) (A := []) (w := w) (s := s) (x := x) (t := 23) (ty := 23) (vs := xs.map bc) (us := ys.map bc) u8Slice ti_5 rfl (by decide) h (by simp) hx (ones_bc ys)
    (by simpa using hy) (by rw [hl]; simp [maxLen]; omega) (by rw [hl]; simp; omega)
  rw [← List.map_append] at ho
  exact ⟨s', w', hr, ho, hch.mono (fun b hb => (List.mem_filter.1 hb).1), hbl⟩

/-- One byte behind bytes. -/
theorem appendOne {w w1 : World} {s : Sl} {B : Nat} {T : TypeId} {v : Int} {xs : List UInt8} (y : UInt8) (h : AppB [] w s 5 xs) (hE : Ext w w1) (hB : Box w1 B T [.int .u8 v]) (hv : v = (y.toNat : Int)) (hb : xs.length + 1 ≤ 140737488355328) :
    ∃ s' w', (Builtin.append_ #[23, 23] 23 #[s.v, Sl.v ⟨some ⟨B, 0, none⟩, 1, 1⟩]).run Try.prog w1 = .ok (Sl.v s') w' ∧ OwnB [] w' s' 5 (xs ++ [y]) ∧ w1.heap.size ≤ w'.heap.size ∧ Chg s.own w w' ∧ (∀ b ∈ s'.blk, b ∈ s.own ∨ w.heap.size ≤ b) := by
  subst hv
  have hrd : RdB [] w1 ⟨some ⟨B, 0, none⟩, 1, 1⟩ [y] := Box.rdB (xs := [y]) hB (by simp [maxLen]) [] (by simp)
  have h' : AppB [] w1 s 5 xs := by
    rcases h with h | ⟨e, h⟩
    · exact .inl (h.ext hE)
    · exact .inr ⟨e, h.ext hE⟩
  obtain ⟨s', w', hr, ho, hc, hbl⟩ := appendO h' hrd (by simp) (by simpa using hb)
  exact ⟨s', w', hr, ho, hc.size, (Chg.ext hE).trans hc, fun b hb => (hbl b hb).imp_right (fun h => Nat.le_trans hE.size h)⟩

theorem OwnB.tch {A : List Nat} {w : World} {s : Sl} {T : TypeId} {xs : List UInt8} {m : Nat} (_ : OwnB A w s T xs) (hb : ∀ x ∈ s.blk, m ≤ x) : ∀ x ∈ s.own, m ≤ x := fun x hx => hb x (Sl.own_blk hx)

theorem or128 (a : Nat) (h : a < 256) : a ||| 128 = a % 128 + 128 := by
  have : ∀ a : Fin 256, a.val ||| 128 = a.val % 128 + 128 := by decide +kernel
  exact this ⟨a, h⟩
theorem toNat_ofNat_lt {n : Nat} (h : n < 256) : (UInt8.ofNat n).toNat = n := by simp; omega

theorem vintPut {A : List Nat} {w : World} {b : Sl} {xs : List UInt8} (v : Nat) (hv : v < 18446744073709551616) (h : RdB A w b xs) (hb : xs.length + 10 ≤ 140737488355328) :
    Calls Try.prog 17 #[b.v, .int .u64 (v : Int)] w (Ret fun u w' => Ext w w' ∧ ∃ s : Sl, u = s.v ∧ OwnB [] w' s 5 (xs ++ Vint.put v) ∧ ∀ x ∈ s.blk, w.heap.size ≤ x) := by
  refine vint_Put.ok _ _ ?_
  have hl := h.len
  have hm := h.most
  have hmost := Vint.put_most hv
  unfold vint_Put.vc
  rw [show ((b.n : Int)).toNat = b.n by omega]
  refine ⟨⟨by omega, by omega, by omega⟩, fun s u w1 => ∃ (pre : List UInt8) (n : Nat), u = (n : Int) ∧ n ≤ v ∧ pre ++ Vint.put n = Vint.put v ∧ AppB [] w1 s 5 (xs ++ pre) ∧ Ext w w1 ∧ (∀ x ∈ s.own, w.heap.size ≤ x), fun _ u _ => u.toNat,
    ⟨[], v, rfl, Nat.le_refl _, rfl, .inr ⟨rfl, ?_⟩, Chg.refl _ _, by rw [Sl.own_full rfl]; simp⟩, ?_⟩
  · have := (h.less (A' := []) (by simp)).cut 0 b.n b.n (by omega) (by omega) (by omega) (by omega)
    rw [List.drop_zero, Nat.sub_zero, List.take_of_length_le (by omega)] at this
    rw [List.append_nil]; exact this
  rintro s _ w1 ⟨pre, n, rfl, hn, hpre, hA, hE, hown⟩
  have hpl : pre.length + 1 ≤ 10 := by
    have e := congrArg List.length hpre
    have := List.length_pos_iff.2 (Vint.put_ne n)
    simp at e; omega
  refine ⟨fun hbig w2 B hN hC hB => ?_, fun hsm w2 B hN hC hB => ?_⟩
  · have hval : bits .or .u8 (IntKind.u8.wrap (n : Int)) 128 = (((UInt8.ofNat (n % 128 + 128)).toNat : Nat) : Int) := by
      rw [IntKind.wrap_u8, show ((n : Int) % 256) = ((n % 256 : Nat) : Int) by omega]
      have := u8_or_nat (n % 256) 128 (by omega) (by omega)
      rw [show ((128 : Nat) : Int) = 128 from rfl] at this
      rw [this, or128 _ (by omega), toNat_ofNat_lt (by omega)]; omega
    obtain ⟨s', w3, hr, ho, hsz, hc, hbl⟩ := appendOne _ hA hC hB hval (by simp; omega)
    have hE3 : Ext w w3 := Chg.fresh hE hc hown
    have hbl' : ∀ x ∈ s'.blk, w.heap.size ≤ x := fun x hx => (hbl x hx).elim (hown x) (fun h => Nat.le_trans hE.size h)
    refine ⟨_, _, hr, (fun _ hb => by cases hb), hsz, s', rfl, ⟨pre ++ [UInt8.ofNat (n % 128 + 128)], n / 128, by omega, by omega, ?_, ?_, hE3, fun x hx => hbl' x (Sl.own_blk hx)⟩, by dsimp only; omega⟩
    · rw [← hpre, Vint.put_big (by omega : 128 ≤ n)]; simp
    · rw [← List.append_assoc]; exact .inl ho
  · have hval : IntKind.u8.wrap (n : Int) = (((UInt8.ofNat n).toNat : Nat) : Int) := by
      rw [IntKind.wrap_u8, toNat_ofNat_lt (by omega)]; omega
    obtain ⟨s', w3, hr, ho, hsz, hc, hbl⟩ := appendOne _ hA hC hB hval (by simp; omega)
    have hE3 : Ext w w3 := Chg.fresh hE hc hown
    refine ⟨_, _, hr, (fun _ hb => by cases hb), hsz, s', rfl, hE3, s', rfl, ?_, fun x hx => (hbl x hx).elim (hown x) (fun h => Nat.le_trans hE.size h)⟩
    · rw [← hpre, Vint.put_small (by omega : n < 128), ← List.append_assoc]; exact ho

theorem refPut {w : World} (v : Nat) (hv : v < 18446744073709551616) :
    Calls Try.prog 20 #[.int .u64 (v : Int)] w (Ret fun u w' => Ext w w' ∧ ∃ s : Sl, u = s.v ∧ OwnB [] w' s 5 (Vint.put v) ∧ ∀ x ∈ s.blk, w.heap.size ≤ x) := by
  refine ref03_Put.ok _ ?_
  have hmost := Vint.put_most hv
  unfold ref03_Put.vc
  refine ⟨fun u s w1 => ∃ (pre : List UInt8) (n : Nat), u = (n : Int) ∧ n ≤ v ∧ pre ++ Vint.put n = Vint.put v ∧ AppB [] w1 s 5 pre ∧ Ext w w1 ∧ (∀ x ∈ s.own, w.heap.size ≤ x), fun u _ _ => u.toNat,
    ⟨[], v, rfl, Nat.le_refl _, rfl, .inl (Own.nil _ _ _ _), Chg.refl _ _, by rw [Sl.own_full rfl]; simp⟩, ?_⟩
  rintro _ s w1 ⟨pre, n, rfl, hn, hpre, hA, hE, hown⟩
  have hpl : pre.length + 1 ≤ 10 := by
    have e := congrArg List.length hpre
    have := List.length_pos_iff.2 (Vint.put_ne n)
    simp at e; omega
  refine ⟨fun hbig w2 B hN hC hB => ?_, fun hsm w2 B hN hC hB => ?_⟩
  · have hm' : (n : Int).tmod 128 = ((n % 128 : Nat) : Int) := by rw [Int.tmod_eq_emod_of_nonneg (by omega)]; omega
    have hd' : (n : Int).tdiv 128 = ((n / 128 : Nat) : Int) := by rw [Int.tdiv_eq_ediv_of_nonneg (by omega)]; omega
    have hw' : IntKind.u64.wrap ((n / 128 : Nat) : Int) = ((n / 128 : Nat) : Int) := by rw [IntKind.wrap_u64]; omega
    have hval : IntKind.u8.wrap ((IntKind.u8.wrap ((n : Int).tmod 128)) + 128) = (((UInt8.ofNat (n % 128 + 128)).toNat : Nat) : Int) := by
      rw [hm', IntKind.wrap_u8, IntKind.wrap_u8, toNat_ofNat_lt (by omega)]; omega
    obtain ⟨s', w3, hr, ho, hsz, hc, hbl⟩ := appendOne _ hA hC hB hval (by omega)
    have hE3 : Ext w w3 := Chg.fresh hE hc hown
    have hbl' : ∀ x ∈ s'.blk, w.heap.size ≤ x := fun x hx => (hbl x hx).elim (hown x) (fun h => Nat.le_trans hE.size h)
    rw [hd', hw']
    refine ⟨_, _, hr, (fun _ hb => by cases hb), hsz, s', rfl, ⟨pre ++ [UInt8.ofNat (n % 128 + 128)], n / 128, by omega, by omega, ?_, .inl ho, hE3, fun x hx => hbl' x (Sl.own_blk hx)⟩, by dsimp only; omega⟩
    rw [← hpre, Vint.put_big (by omega : 128 ≤ n)]; simp
  · have hval : IntKind.u8.wrap (n : Int) = (((UInt8.ofNat n).toNat : Nat) : Int) := by
      rw [IntKind.wrap_u8, toNat_ofNat_lt (by omega)]; omega
    obtain ⟨s', w3, hr, ho, hsz, hc, hbl⟩ := appendOne _ hA hC hB hval (by omega)
    have hE3 : Ext w w3 := Chg.fresh hE hc hown
    refine ⟨_, _, hr, (fun _ hb => by cases hb), hsz, s', rfl, hE3, s', rfl, ?_, fun x hx => (hbl x hx).elim (hown x) (fun h => Nat.le_trans hE.size h)⟩
    rw [← hpre, Vint.put_small (by omega : n < 128)]; exact ho

/-- What Get returns. -/
def gv (g : Nat × Nat × Nat) : Value := .tuple #[.int .u64 (g.1 : Int), .int .i64 (g.2.1 : Int), .int .i64 (g.2.2 : Int)]

theorem and127 (a : Nat) : a &&& (255 - 128) = a % 128 := by
  have := Nat.and_two_pow_sub_one_eq_mod a 7
  simpa using this
theorem shl7 {v x i : Nat} (hv : v < 2 ^ (7 * i)) (hb : v + x * 2 ^ (7 * i) < 18446744073709551616) :
    bits .or .u64 (v : Int) (IntKind.u64.wrap ((x : Int) * 2 ^ (7 * i))) = ((v + x * 2 ^ (7 * i) : Nat) : Int) := by
  rw [IntKind.wrap_u64, show ((x : Int) * 2 ^ (7 * i)) = ((x * 2 ^ (7 * i) : Nat) : Int) by push_cast; rfl, show ((x * 2 ^ (7 * i) : Nat) : Int) % 18446744073709551616 = ((x * 2 ^ (7 * i) : Nat) : Int) by omega,
    u64_or_nat _ _ (by omega) (by omega), Nat.or_comm, Nat.mul_comm, ← Nat.two_pow_add_eq_or_of_lt hv, Nat.add_comm]
theorem fits {v x i : Nat} (hi : i ≤ 9) (hv : v < 2 ^ (7 * i)) (hx : x < 128) (h9 : ¬ (i = 9 ∧ 1 < x)) : v + x * 2 ^ (7 * i) < 18446744073709551616 := by
  by_cases h : i = 9
  · subst h
    have : x * 2 ^ (7 * 9) ≤ 1 * 2 ^ (7 * 9) := Nat.mul_le_mul_right _ (by omega)
    omega
  · have hp : 2 ^ (7 * (i + 1)) ≤ 2 ^ 63 := Nat.pow_le_pow_right (by decide) (by omega)
    rw [Vint.pow7] at hp
    have : x * 2 ^ (7 * i) ≤ 127 * 2 ^ (7 * i) := Nat.mul_le_mul_right _ (by omega)
    omega
theorem drop_cons {xs : List UInt8} {n : Nat} (h : n < xs.length) : xs.drop n = xs.getD n 0 :: xs.drop (n + 1) := by
  rw [List.drop_eq_getElem_cons h]; simp [List.getD_eq_getElem?_getD, h]

theorem vintGet {A : List Nat} {w : World} {b : Sl} {xs : List UInt8} (at_ : Int) (h : RdB A w b xs) :
    Calls Try.prog 18 #[b.v, .int .i64 at_] w (Ret fun u w' => Ext w w' ∧ u = gv (Vint.getAt xs at_)) := by
  refine vint_Get.ok _ _ ?_
  have hl := h.len
  have hm := h.most
  unfold vint_Get.vc
  refine ⟨fun hc => ⟨Chg.refl _ _, ?_⟩, fun hc => ?_⟩
  · unfold Vint.getAt; rw [if_pos (by omega)]; rfl
  obtain ⟨p, rfl⟩ : ∃ p : Nat, at_ = (p : Int) := ⟨at_.toNat, by omega⟩
  have hg : Vint.getAt xs (p : Int) = Vint.get p 0 0 (xs.drop p) := by
    unfold Vint.getAt; rw [if_neg (by omega), Int.toNat_natCast]
  have hpn : p ≤ b.n := by omega
  obtain ⟨m, hmm⟩ : ∃ m : Nat, ((p : Int) + min ((b.n : Int) - (p : Int)) 10).toNat = p + m ∧ m = min (b.n - p) 10 := ⟨min (b.n - p) 10, by omega, rfl⟩
  rw [hmm.1, Int.toNat_natCast]
  have hcut := h.cut p (p + m) b.c (by omega) (by omega) (by omega) (by omega)
  have hcl := hcut.len
  have hxl : ((xs.drop p).take (p + m - p)).length = m := by simp; omega
  refine ⟨⟨by omega, by omega⟩, ⟨by omega, by omega⟩, ⟨by omega, by omega, by omega⟩, fun v i w1 => ∃ vn n : Nat, v = (vn : Int) ∧ i = (n : Int) ∧ n ≤ 9 ∧ n ≤ m ∧ vn < 2 ^ (7 * n) ∧ Vint.get p 0 0 (xs.drop p) = Vint.get p vn n (xs.drop (p + n)) ∧ Ext w w1, fun _ i _ => m - i.toNat,
    ⟨0, 0, rfl, rfl, by omega, by omega, by decide, rfl, Chg.refl _ _⟩, ?_⟩
  rintro _ _ w1 ⟨vn, n, rfl, rfl, hn9, hnm, hvn, hget, hE⟩
  rw [hg, hget]
  refine ⟨fun hi => ?_, fun hi => ?_⟩
  · rw [hcl, hxl] at hi
    obtain ⟨q, hq, _, hcell⟩ := (hcut.ext hE).at (i := (n : Int)) (by omega) (by rw [hcl, hxl]; omega)
    rw [Int.toNat_natCast] at hcell ⊢
    have hx : ((xs.drop p).take (p + m - p)).getD n 0 = xs.getD (p + n) 0 := by
      simp only [List.getD_eq_getElem?_getD]
      rw [List.getElem?_take_of_lt (by omega), List.getElem?_drop]
    rw [hx] at hcell
    refine ⟨⟨by omega, by rw [hcl, hxl]; omega⟩, q, hq, _, hcell, ?_⟩
    rw [drop_cons (by omega : p + n < xs.length)]
    generalize hxx : xs.getD (p + n) 0 = x
    have hx8 := x.toNat_lt
    have h8 : bits .andNot .u8 (x.toNat : Int) 128 = ((x.toNat % 128 : Nat) : Int) := by
      have := u8_andNot_nat x.toNat 128 hx8 (by omega)
      rw [show ((128 : Nat) : Int) = 128 from rfl] at this
      rw [this, and127]
    have h64 : IntKind.u64.wrap ((x.toNat % 128 : Nat) : Int) = ((x.toNat % 128 : Nat) : Int) := by rw [IntKind.wrap_u64]; omega
    have ht : (7 * (n : Int)).toNat = 7 * n := by omega
    rw [h8, h64, ht]
    refine ⟨fun h9 => ⟨hE, ?_⟩, fun h9 => ⟨⟨by omega, by omega⟩, ⟨by omega, by omega⟩, ?_⟩⟩
    · unfold Vint.get; rw [if_pos (by omega)]; rfl
    · have h9' : ¬ (n = 9 ∧ 1 < x.toNat) := by omega
      have hfit := fits hn9 hvn (x := x.toNat % 128) (by omega) (by omega)
      rw [shl7 hvn hfit]
      refine ⟨fun hbig => ?_, fun hsm => ?_⟩
      · have hn8 : n ≠ 9 := by omega
        refine ⟨⟨by omega, by omega⟩, ⟨_, n + 1, rfl, by omega, by omega, by omega, ?_, ?_, hE⟩, by dsimp only; omega⟩
        · rw [Vint.pow7]
          have : x.toNat % 128 * 2 ^ (7 * n) ≤ 127 * 2 ^ (7 * n) := Nat.mul_le_mul_right _ (by omega)
          omega
        · conv => lhs; unfold Vint.get
          rw [if_neg h9', if_pos (by omega)]; rfl
      · refine ⟨fun h0 => ⟨hE, ?_⟩, fun h0 => ⟨⟨by omega, by omega⟩, ⟨by omega, by omega⟩, hE, ?_⟩⟩
        · unfold Vint.get; rw [if_neg h9', if_neg (by omega), if_pos (by omega)]; rfl
        · unfold Vint.get; rw [if_neg h9', if_neg (by omega), if_neg (by omega), Nat.mod_eq_of_lt (by omega : x.toNat < 128)]; rfl
  · rw [hcl, hxl] at hi
    have hnl : p + n = b.n := by omega
    rw [List.drop_eq_nil_of_le (by omega)]
    exact ⟨hE, rfl⟩

theorem refGet {A : List Nat} {w : World} {b : Sl} {xs : List UInt8} (at_ : Int) (h : RdB A w b xs) :
    Calls Try.prog 22 #[b.v, .int .i64 at_] w (Ret fun u w' => Ext w w' ∧ u = gv (Vint.getAt xs at_)) := by
  refine ref03_Get.ok _ _ ?_
  have hl := h.len
  have hm := h.most
  unfold ref03_Get.vc
  refine ⟨fun hc => ⟨Chg.refl _ _, ?_⟩, fun hc => ?_⟩
  · unfold Vint.getAt; rw [if_pos (by omega)]; rfl
  obtain ⟨p, rfl⟩ : ∃ p : Nat, at_ = (p : Int) := ⟨at_.toNat, by omega⟩
  have hg : Vint.getAt xs (p : Int) = Vint.get p 0 0 (xs.drop p) := by
    unfold Vint.getAt; rw [if_neg (by omega), Int.toNat_natCast]
  have hpn : p ≤ b.n := by omega
  refine ⟨fun v i w1 => ∃ vn n : Nat, v = (vn : Int) ∧ i = (n : Int) ∧ n ≤ 9 ∧ p + n ≤ xs.length ∧ vn < 2 ^ (7 * n) ∧ Vint.get p 0 0 (xs.drop p) = Vint.get p vn n (xs.drop (p + n)) ∧ Ext w w1, fun _ i _ => 10 - i.toNat,
    ⟨0, 0, rfl, rfl, by omega, by omega, by decide, rfl, Chg.refl _ _⟩, ?_⟩
  rintro _ _ w1 ⟨vn, n, rfl, rfl, hn9, hnm, hvn, hget, hE⟩
  rw [hg, hget]
  refine ⟨fun hi => ⟨⟨by omega, by omega⟩, fun hend => ?_, fun hgo => ?_⟩, fun hi => by omega⟩
  · rw [List.drop_eq_nil_of_le (by omega)]
    exact ⟨hE, rfl⟩
  · obtain ⟨q, hq, _, hcell⟩ := (h.ext hE).at (i := (p : Int) + (n : Int)) (by omega) (by omega)
    rw [show ((p : Int) + (n : Int)).toNat = p + n by omega] at hcell ⊢
    refine ⟨⟨by omega, by omega⟩, ⟨by omega, by omega⟩, q, hq, _, hcell, ?_⟩
    rw [drop_cons (by omega : p + n < xs.length)]
    generalize hxx : xs.getD (p + n) 0 = x
    have hx8 := x.toNat_lt
    have h8 : (x.toNat : Int).tmod 128 = ((x.toNat % 128 : Nat) : Int) := by rw [Int.tmod_eq_emod_of_nonneg (by omega)]; omega
    have h64 : IntKind.u64.wrap ((x.toNat % 128 : Nat) : Int) = ((x.toNat % 128 : Nat) : Int) := by rw [IntKind.wrap_u64]; omega
    have ht0 : IntKind.u64.wrap (7 * (n : Int)) = 7 * (n : Int) := by rw [IntKind.wrap_u64, Int.emod_eq_of_lt (by omega) (by omega)]
    have ht : (IntKind.u64.wrap (7 * (n : Int))).toNat = 7 * n := by rw [ht0]; omega
    rw [h8, h64, ht]
    refine ⟨fun h9 => ⟨hE, ?_⟩, fun h9 => ⟨⟨by omega, by omega⟩, ⟨by rw [ht0]; omega, by rw [ht0]; omega⟩, ?_⟩⟩
    · unfold Vint.get; rw [if_pos (by omega)]; rfl
    · have h9' : ¬ (n = 9 ∧ 1 < x.toNat) := by omega
      have hfit := fits hn9 hvn (x := x.toNat % 128) (by omega) (by omega)
      have hsum : IntKind.u64.wrap ((vn : Int) + IntKind.u64.wrap (((x.toNat % 128 : Nat) : Int) * 2 ^ (7 * n))) = ((vn + x.toNat % 128 * 2 ^ (7 * n) : Nat) : Int) := by
        rw [IntKind.wrap_u64, IntKind.wrap_u64, show (((x.toNat % 128 : Nat) : Int) * 2 ^ (7 * n)) = ((x.toNat % 128 * 2 ^ (7 * n) : Nat) : Int) by push_cast; rfl]; omega
      rw [hsum]
      refine ⟨fun hsm => ?_, fun hbig => ?_⟩
      · refine ⟨fun h0 => ⟨hE, ?_⟩, fun h0 => ⟨⟨by omega, by omega⟩, ⟨by omega, by omega⟩, hE, ?_⟩⟩
        · unfold Vint.get; rw [if_neg h9', if_neg (by omega), if_pos (by omega)]; rfl
        · unfold Vint.get; rw [if_neg h9', if_neg (by omega), if_neg (by omega), Nat.mod_eq_of_lt (by omega : x.toNat < 128)]; rfl
      · have hn8 : n ≠ 9 := by omega
        refine ⟨⟨by omega, by omega⟩, ⟨_, n + 1, rfl, by omega, by omega, by omega, ?_, ?_, hE⟩, by dsimp only; omega⟩
        · rw [Vint.pow7]
          have : x.toNat % 128 * 2 ^ (7 * n) ≤ 127 * 2 ^ (7 * n) := Nat.mul_le_mul_right _ (by omega)
          omega
        · conv => lhs; unfold Vint.get
          rw [if_neg h9', if_pos (by omega)]; rfl

def tv (g : List UInt8 × Nat × Nat) : Value := .tuple #[.string (Bs g.1), .int .i64 (g.2.1 : Int), .int .i64 (g.2.2 : Int)]

theorem vintGetText {A : List Nat} {w : World} {b : Sl} {xs : List UInt8} (at_ most : Int) (hmost : most ≤ 9223372036854775807) (h : RdB A w b xs) :
    Calls Try.prog 23 #[b.v, .int .i64 at_, .int .i64 most] w (Ret fun u w' => Ext w w' ∧ u = tv (Vint.getText xs at_ most)) := by
  refine vint_GetText.ok _ _ _ ?_
  have hl := h.len
  have hm := h.most
  unfold vint_GetText.vc
  have hok := Vint.getAt_ok (xs := xs) (at_ := at_)
  unfold Vint.getText
  refine CallK.exact (vintGet at_ h) fun w1 hE => ⟨_, _, _, rfl, ?_⟩
  generalize Vint.getAt xs at_ = g at hok
  obtain ⟨n, nx, e⟩ := g
  dsimp only at hok ⊢
  refine ⟨fun he => ⟨hE, by rw [if_pos (by omega)]; rfl⟩, fun he => ?_⟩
  have hw1 : ∀ z : Int, 0 ≤ z → z ≤ 9223372036854775807 → IntKind.u64.wrap z = z := fun z h0 h1 => by rw [IntKind.wrap_u64]; omega
  rw [if_neg (by omega)]
  have hnx := hok.2.2 (by omega)
  refine ⟨fun hb => ⟨hE, ?_⟩, fun hb => ⟨⟨by omega, by omega⟩, ?_⟩⟩
  · rw [if_pos (by rcases hb with hb | hb
                   · exact .inl hb
                   · by_cases h0 : most < 0
                     · exact .inl h0
                     · rw [hw1 _ (by omega) (by omega)] at hb; exact .inr hb)]; rfl
  · have h0 : ¬ most < 0 := hb.1
    have h1 := hb.2
    rw [hw1 _ (by omega) (by omega)] at h1
    rw [if_neg (by omega), hw1 ((b.n : Int) - (nx : Int)) (by omega) (by omega)]
    refine ⟨fun hs => ⟨hE, by rw [if_pos (by omega)]; rfl⟩, fun hs => ?_⟩
    rw [if_neg (by omega)]
    have hcut := (h.ext hE).cut nx (nx + n) b.c (by omega) (by omega) (by omega) (by omega)
    rw [show ((nx : Int) + (n : Int)).toNat = nx + n by omega, Int.toNat_natCast]
    refine ⟨⟨by omega, by omega⟩, ⟨by omega, by omega⟩, ⟨by omega, by omega, by omega⟩, _, hcut.conv u8Slice Try.underlying5 Try.underlying9, hE, ?_⟩
    rw [show nx + n - nx = n by omega]; rfl

theorem refGetText {A : List Nat} {w : World} {b : Sl} {xs : List UInt8} (at_ most : Int) (hmost : most ≤ 9223372036854775807) (h : RdB A w b xs) :
    Calls Try.prog 24 #[b.v, .int .i64 at_, .int .i64 most] w (Ret fun u w' => Ext w w' ∧ u = tv (Vint.getText xs at_ most)) := by
  refine ref03_GetText.ok _ _ _ ?_
  have hl := h.len
  have hm := h.most
  unfold ref03_GetText.vc
  have hok := Vint.getAt_ok (xs := xs) (at_ := at_)
  unfold Vint.getText
  refine CallK.exact (refGet at_ h) fun w1 hE => ⟨_, _, _, rfl, ?_⟩
  generalize Vint.getAt xs at_ = g at hok
  obtain ⟨n, nx, e⟩ := g
  dsimp only at hok ⊢
  refine ⟨fun he => ⟨hE, by rw [if_pos (by omega)]; rfl⟩, fun he => ?_⟩
  have hw1 : ∀ z : Int, 0 ≤ z → z ≤ 9223372036854775807 → IntKind.u64.wrap z = z := fun z h0 h1 => by rw [IntKind.wrap_u64]; omega
  rw [if_neg (by omega)]
  have hnx := hok.2.2 (by omega)
  refine ⟨fun hb => ⟨hE, ?_⟩, fun hb => ⟨⟨by omega, by omega⟩, ?_⟩⟩
  · rw [if_pos (by rcases hb with hb | hb
                   · exact .inl hb
                   · by_cases h0 : most < 0
                     · exact .inl h0
                     · rw [hw1 _ (by omega) (by omega)] at hb; exact .inr hb)]; rfl
  · have h0 : ¬ most < 0 := hb.1
    have h1 := hb.2
    rw [hw1 _ (by omega) (by omega)] at h1
    rw [if_neg (by omega), hw1 ((b.n : Int) - (nx : Int)) (by omega) (by omega)]
    refine ⟨fun hs => ⟨hE, by rw [if_pos (by omega)]; rfl⟩, fun hs => ?_⟩
    rw [if_neg (by omega)]
    have hcut := (h.ext hE).cut nx (nx + n) b.c (by omega) (by omega) (by omega) (by omega)
    rw [show ((nx : Int) + (n : Int)).toNat = nx + n by omega, Int.toNat_natCast]
    refine ⟨⟨by omega, by omega⟩, ⟨by omega, by omega⟩, ⟨by omega, by omega, by omega⟩, _, hcut.conv u8Slice Try.underlying5 Try.underlying9, ⟨by omega, by omega⟩, ⟨by omega, by omega⟩, hE, ?_⟩
    rw [show nx + n - nx = n by omega]; rfl
end Go.Proofs.Ytanhcenminbkmaa
