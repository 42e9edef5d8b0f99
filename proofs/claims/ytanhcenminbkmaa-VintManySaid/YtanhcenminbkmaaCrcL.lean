/-
  The laws of chapter 2: each returns true, and writes nothing that was there.
-/
import Derived.Test.YtanhcenminbkmaaCrcW
namespace Go.Proofs.Ytanhcenminbkmaa
open Go.RowKit

theorem u8Slice : Try.prog.underlying 23 = some (.slice 5) := Try.underlying23

/-- Bytes behind bytes. -/
theorem appendB {A : List Nat} {w : World} {s x : Sl} {xs ys : List UInt8} (h : AppB A w s 5 xs) (hA : ∀ b ∈ A, b < w.heap.size) (hx : RdB [] w x ys) (hb : xs.length + ys.length ≤ 140737488355328) :
    ∃ s' w', (Builtin.append_ #[23, 23] 23 #[s.v, x.v]).run Try.prog w = .ok (Sl.v s') w' ∧ AppB A w' s' 5 (xs ++ ys) ∧ (OwnB A w s 5 xs → OwnB A w' s' 5 (xs ++ ys)) ∧
      Chg (s.own.filter fun b => !A.contains b) w w' ∧ (∀ b ∈ s'.blk, b ∈ s.blk ∨ w.heap.size ≤ b) := by
  have hl := h.rd.len
  have hc := h.rd.most
  have hxl := hx.len
  by_cases hy : ys = []
  · subst hy
    have e := append_none (P := Try.prog) (w := w) (s := s) (x := x) (t := 23) (ty := 23) u8Slice ti_5 hc.1 (by simpa using hxl)
    exact ⟨s, w, e, by simpa using h, by simp, Chg.refl _ _, fun b hb => .inl hb⟩
  · obtain ⟨s', w', hr, ho, hch, hbl⟩ := append_app (P := Try.prog) (A := A) (w := w) (s := s) (x := x) (t := 23) (ty := 23) (vs := xs.map bc) (us := ys.map bc) u8Slice ti_5 rfl (by decide) h hA hx (ones_bc ys)
      (by simpa using hy) (by rw [hl]; simp [maxLen]; omega) (by rw [hl]; simp; omega)
    rw [← List.map_append] at ho
    exact ⟨s', w', hr, .inl ho, fun _ => ho, hch, fun b hb => (hbl b hb).imp_left Sl.own_blk⟩

theorem crcAwake (w : World) : Calls Try.prog 15 #[] w (Ret fun v w' => Ext w w' ∧ v = .bool true) := by
  refine law02_awake.ok ?_
  unfold law02_awake.vc
  intro w4 B hN hE hB
  obtain ⟨w5, hr, hC, hcs⟩ := conv_const (P := Try.prog) hB 9 9 u8Slice Try.underlying5
  have hE5 : Ext w w5 := Chg.fresh hE hC (by simpa using hN.ge)
  have hrd : RdB [] w5 ⟨some ⟨B, 0, none⟩, 9, 9⟩ [49, 50, 51, 52, 53, 54, 55, 56, 57] := RdB.of_cells (xs := [49, 50, 51, 52, 53, 54, 55, 56, 57]) hcs (Nat.le_refl _) (by decide) [] (by simp)
  refine ⟨_, _, hr, (fun _ hb => by cases hb), hC.size, ⟨some ⟨B, 0, none⟩, 9, 9⟩, rfl, ?_⟩
  refine CallK.exact (crcOf hrd) fun w6 hE6 => ⟨_, rfl, 0, fun _ => ?_, fun w7 hE7 => ⟨((hE5.trans hE6).trans hE7), ?_⟩⟩
  · have := crcOf (RdB.nil [] w6)
    rw [Crc.more_nil] at this
    exact this
  · have e : Crc.more 0 [49, 50, 51, 52, 53, 54, 55, 56, 57] = 3421780262 := by decide +kernel
    rw [e]; rfl

theorem place {w : World} (v n : Int) (hn : 0 < n) (hn63 : n ≤ 9223372036854775807) : Calls Try.prog 16 #[.int .i64 v, .int .i64 n] w (Ret fun u w' => Ext w w' ∧ u = .int .i64 (v.emod n)) := by
  refine law00_Place.ok _ _ ?_
  unfold law00_Place.vc
  have h1 := Int.tmod_eq_emod (a := v) (b := n)
  have h2 := Int.emod_nonneg v (show n ≠ 0 by omega)
  have h3 := Int.emod_lt_of_pos v hn
  have h4 : (((if 0 ≤ v ∨ n ∣ v then 0 else n.natAbs : Nat)) : Int) = 0 ∨ (((if 0 ≤ v ∨ n ∣ v then 0 else n.natAbs : Nat)) : Int) = n := by
    split
    · exact .inl rfl
    · right; omega
  generalize (((if 0 ≤ v ∨ n ∣ v then 0 else n.natAbs : Nat)) : Int) = q at h1 h4
  refine ⟨by omega, fun h => ⟨⟨by omega, by omega⟩, Chg.refl _ _, ?_⟩, fun h => ⟨Chg.refl _ _, ?_⟩⟩
  · show Value.int .i64 _ = Value.int .i64 (v % n)
    rw [show v.tmod n + n = v % n by omega]
  · show Value.int .i64 _ = Value.int .i64 (v % n)
    rw [show v.tmod n = v % n by omega]

theorem trueOf {a : Bool} (h : a = true) : Value.bool a = .bool true := by rw [h]

theorem crcMoreLaw {w : World} {b : Sl} {xs : List UInt8} (s : Nat) (hs : s < 4294967296) (h : RdB [] w b xs) (hsize : xs.length ≤ 140737488355328) :
    Calls Try.prog 3 #[.int .u32 (s : Int), b.v] w (Ret fun v w' => Ext w w' ∧ v = .bool true) := by
  refine law02_CrcMore.ok _ _ ?_
  unfold law02_CrcMore.vc
  refine CallK.ext (bytesCopy h hsize [] (by simp)) fun v w1 hE1 ⟨c, hv, hc, _⟩ => ⟨c, hv, ?_⟩
  have hc1 := OwnB.rd hc
  refine CallK.exact (crcMore s hs hc1) fun w2 hE2 => ⟨_, rfl, ?_⟩
  have hE12 := hE1.trans hE2
  refine CallK.exact (refMore s hs (h.ext hE12)) fun w3 hE3 => ⟨_, rfl, _, fun _ => crcOf (hc1.ext (hE2.trans hE3)), fun w4 hE4 => ?_⟩
  have hE14 := (hE12.trans hE3).trans hE4
  refine ⟨_, fun _ => refMore 0 (by decide) (h.ext hE14), fun w5 hE5 => ?_⟩
  have hE15 := hE14.trans hE5
  refine ⟨xs, fun _ => RdB.conv (hc1.ext (((hE2.trans hE3).trans hE4).trans hE5)) u8Slice Try.underlying5 Try.underlying9, xs, fun _ => RdB.conv (h.ext hE15) u8Slice Try.underlying5 Try.underlying9, true, fun _ => crcAwake _, fun w6 hE6 => ⟨hE15.trans hE6, ?_⟩⟩
  simp

theorem crcPartsLaw {w : World} {b : Sl} {xs : List UInt8} (at_ : Int) (h : RdB [] w b xs) (hsize : xs.length < 9223372036854775807) :
    Calls Try.prog 4 #[b.v, .int .i64 at_] w (Ret fun v w' => Ext w w' ∧ v = .bool true) := by
  refine law02_CrcParts.ok _ _ ?_
  unfold law02_CrcParts.vc
  have hl := h.len
  have hm := h.most
  refine ⟨⟨by omega, by omega⟩, CallK.exact (place at_ _ (by omega) (by omega)) fun w1 hE1 => ⟨_, rfl, ?_⟩⟩
  have hk0 := Int.emod_nonneg at_ (show (b.n : Int) + 1 ≠ 0 by omega)
  have hk1 := Int.emod_lt_of_pos at_ (show (0 : Int) < (b.n : Int) + 1 by omega)
  obtain ⟨k, hk⟩ : ∃ k : Nat, at_.emod ((b.n : Int) + 1) = (k : Int) := ⟨(at_ % ((b.n : Int) + 1)).toNat, by show at_ % _ = _; omega⟩
  rw [hk]
  have hkn : k ≤ b.n := by have : at_ % ((b.n : Int) + 1) = k := hk; omega
  refine CallK.exact (crcOf (RdB.nil [] w1)) fun w2 hE2 => ⟨_, rfl, ?_⟩
  refine ⟨fun s i w3 => ∃ n : Nat, n ≤ xs.length ∧ i = (n : Int) ∧ s = ((Crc.more 0 (xs.take n) : Nat) : Int) ∧ Ext w w3, fun _ i _ => xs.length - i.toNat, ⟨0, Nat.zero_le _, rfl, rfl, hE1.trans hE2⟩, ?_⟩
  rintro _ _ w3 ⟨n, hn, rfl, rfl, hE⟩
  have hr := h.ext hE
  have hlt := Crc.more_lt (s := 0) (by decide) (xs.take n)
  refine ⟨fun hi => ⟨⟨by omega, by omega⟩, ⟨by omega, by omega, by omega⟩, ?_⟩, fun hi => ?_⟩
  · have hcut := hr.cut n (n + 1) b.c (by omega) (by omega) (by omega) (by omega)
    rw [show (n : Int).toNat = n by omega, show ((n : Int) + 1).toNat = n + 1 by omega]
    refine CallK.exact (crcMore _ hlt hcut) fun w4 hE4 => ⟨_, rfl, ⟨by omega, by omega⟩, ⟨n + 1, by omega, by omega, ?_, hE.trans hE4⟩, by dsimp only; omega⟩
    rw [← Crc.more_append]
    have e : xs.take n ++ (xs.drop n).take (n + 1 - n) = xs.take (n + 1) := by rw [show n + 1 - n = 1 by omega, ← List.take_add]
    rw [e]
  · intro w4 hE4
    have hE' := hE.trans hE4
    have hn' : n = xs.length := by omega
    subst hn'
    rw [show (k : Int).toNat = k by omega]
    refine ⟨⟨by omega, by omega⟩, _, fun w5 hE5 => crcOf ((h.ext (hE'.trans hE5)).cut 0 k b.c (by omega) (by omega) (by omega) (by omega)), ⟨by omega, by omega⟩, _,
      fun w5 hE5 => crcMore _ (Crc.more_lt (by decide) _) ((h.ext (hE'.trans hE5)).cut k b.n b.c (by omega) (by omega) (by omega) (by omega)), _, fun w5 hE5 => crcOf (h.ext (hE'.trans hE5)), _, fun _ w5 hE5 => crcOf (h.ext (hE'.trans hE5)), true, fun _ w5 _ => crcAwake w5, fun w5 hE5 => ⟨hE'.trans hE5, ?_⟩⟩
    rw [← Crc.more_append]
    have e : (xs.drop 0).take (k - 0) ++ (xs.drop k).take (b.n - k) = xs := by
      rw [List.drop_zero, Nat.sub_zero, List.take_of_length_le (l := xs.drop k) (by simp; omega), List.take_append_drop]
    rw [e, List.take_of_length_le (Nat.le_refl _)]
    simp

theorem crcThreeLaw {w : World} {a b c : Sl} {xs ys zs : List UInt8} (ha : RdB [] w a xs) (hb : RdB [] w b ys) (hc : RdB [] w c zs) (hsize : xs.length + ys.length + zs.length ≤ 140737488355328) :
    Calls Try.prog 6 #[a.v, b.v, c.v] w (Ret fun v w' => Ext w w' ∧ v = .bool true) := by
  refine law02_CrcThree.ok _ _ _ ?_
  unfold law02_CrcThree.vc
  have z : (0 : Nat) < 4294967296 := by decide
  refine CallK.exact (crcOf ha) fun w1 hE1 => ⟨_, rfl, ?_⟩
  refine CallK.exact (crcMore _ (Crc.more_lt z _) (hb.ext hE1)) fun w2 hE2 => ⟨_, rfl, ?_⟩
  have hE2 := hE1.trans hE2
  refine CallK.exact (crcMore _ (Crc.more_lt (Crc.more_lt z _) _) (hc.ext hE2)) fun w3 hE3 => ⟨_, rfl, ?_⟩
  have hE3 := hE2.trans hE3
  refine CallK.exact (crcOf (ha.ext hE3)) fun w4 hE4 => ⟨_, rfl, ?_⟩
  have hE4 := hE3.trans hE4
  refine CallK.ext (bytesCopy (hb.ext hE4) (by omega) [] (by simp)) fun v w5 hE5 ⟨d, hv, hd, hdb⟩ => ⟨d, hv, ?_⟩
  have hE5 := hE4.trans hE5
  obtain ⟨d2, w6, hr6, hA6, hO6, hC6, hB6⟩ := appendB (OwnB.app hd) (by simp) (hc.ext hE5) (by omega)
  have hE6 : Ext w w6 := Chg.fresh hE5 hC6 (fun x hx => Nat.le_trans hE4.size (hdb x ((Sl.own_blk (List.mem_filter.1 hx).1))))
  refine ⟨_, _, hr6, (fun _ hb => by cases hb), hC6.size, d2, rfl, ?_⟩
  refine CallK.exact (crcMore _ (Crc.more_lt z _) hA6.rd) fun w7 hE7 => ⟨_, rfl, ?_⟩
  have hE7 := hE6.trans hE7
  refine CallK.ext (bytesCopy (ha.ext hE7) (by omega) [] (by simp)) fun v w8 hE8 ⟨e, hv, he, heb⟩ => ⟨e, hv, ?_⟩
  have hE8 := hE7.trans hE8
  obtain ⟨e2, w9, hr9, hA9, hO9, hC9, hB9⟩ := appendB (OwnB.app he) (by simp) (hb.ext hE8) (by omega)
  have hE9 : Ext w w9 := Chg.fresh hE8 hC9 (fun x hx => Nat.le_trans hE7.size (heb x ((Sl.own_blk (List.mem_filter.1 hx).1))))
  refine ⟨_, _, hr9, (fun _ hb => by cases hb), hC9.size, e2, rfl, ?_⟩
  obtain ⟨e3, w10, hr10, hA10, hO10, hC10, hB10⟩ := appendB hA9 (by simp) (hc.ext hE9) (by simp; omega)
  have hE10 : Ext w w10 := Chg.fresh hE9 hC10 (fun x hx => (hB9 x ((Sl.own_blk (List.mem_filter.1 hx).1))).elim (fun h => Nat.le_trans hE7.size (heb x h)) (fun h => Nat.le_trans hE8.size h))
  refine ⟨_, _, hr10, (fun _ hb => by cases hb), hC10.size, e3, rfl, ?_⟩
  refine CallK.exact (crcOf hA10.rd) fun w11 hE11 => ⟨_, rfl, ?_⟩
  have hE11 := hE10.trans hE11
  refine ⟨_, fun _ => crcMore _ (Crc.more_lt (Crc.more_lt (Crc.more_lt z _) _) _) (RdB.nil [] _), fun w12 hE12 => ⟨true, fun _ => crcAwake _, fun w13 hE13 => ⟨(hE11.trans hE12).trans hE13, ?_⟩⟩⟩
  simp only [Crc.more_append, Crc.more_nil]
  simp

end Go.Proofs.Ytanhcenminbkmaa
