/-
  The laws of chapter 3: each returns true, and writes nothing that was there.
-/
import Derived.Test.YtanhcenminbkmaaVintW
namespace Go.Proofs.Ytanhcenminbkmaa
open Go.RowKit

theorem append_str_none {P : Program} {w : World} {s : Sl} {t u ty T : TypeId} {z : Value} {size bytes : Nat} (ht : P.underlying t = some (.slice T)) (hu : P.underlying u = some .string) (hi : TI P T z size bytes) (hc : s.n ≤ s.c) :
    (Builtin.append_ #[t, u] ty #[s.v, .string (Bs [])]).run P w = .ok s.v w := by
  obtain ⟨i, hi0, hz, hs, hb⟩ := hi
  have e : (Bs []).size = 0 := rfl
  have e2 : (Bs []).data.toList = [] := rfl
  unfold Sl.v
  cases hsa : s.a <;> simp [Builtin.append_, run_underlying ht, run_underlying hu, Go.sizeOf, typeInfo, hi0, Builtin.lenOf, hc, Builtin.firstCells, e, e2, storeCells]

theorem vintPutText {A : List Nat} {w : World} {b : Sl} {xs : List UInt8} (p : Str) (h : RdB A w b xs) (hb : xs.length + 10 + p.length ≤ 140737488355328) :
    Calls Try.prog 21 #[b.v, .string (Bs p)] w (Ret fun u w' => Ext w w' ∧ ∃ s : Sl, u = s.v ∧ OwnB [] w' s 5 (xs ++ Vint.put p.length ++ p) ∧ ∀ x ∈ s.blk, w.heap.size ≤ x) := by
  refine vint_PutText.ok _ _ ?_
  unfold vint_PutText.vc
  have hw1 : IntKind.u64.wrap (p.length : Int) = (p.length : Int) := by rw [IntKind.wrap_u64]; omega
  rw [hw1]
  have hmost := Vint.put_most (v := p.length) (by omega)
  refine CallK.ext (vintPut p.length (by omega) h (by omega)) fun v w1 hE1 ⟨s, hv, ho, hbl⟩ => ⟨s, hv, ?_⟩
  have hl := ho.rd.len
  by_cases hp : p = []
  · subst hp
    have e := append_str_none (P := Try.prog) (w := w1) (s := s) (t := 23) (u := 9) (ty := 23) u8Slice Try.underlying9 ti_5 ho.rd.most.1
    exact ⟨_, _, e, (fun _ hb => by cases hb), Nat.le_refl _, s, rfl, hE1, s, rfl, by simpa using ho, hbl⟩
  · obtain ⟨s', w2, hr, ho', hch, hbl'⟩ := append_str (P := Try.prog) (A := []) (w := w1) (s := s) (t := 23) (u := 9) (ty := 23) (p := p) u8Slice Try.underlying9 ti_5 (.inl ho) (by simp) hp
      (by rw [hl]; simp [maxLen]; omega) (by rw [hl]; simp; omega)
    refine ⟨_, _, hr, (fun _ hb => by cases hb), hch.size, s', rfl, Chg.fresh hE1 hch (fun x hx => hbl x (Sl.own_blk (List.mem_filter.1 hx).1)), s', rfl, ho', fun x hx => (hbl' x hx).elim (fun h => hbl x (Sl.own_blk h)) (fun h => Nat.le_trans hE1.size h)⟩

theorem conv8 {A : List Nat} {w : World} {s : Sl} {xs : List UInt8} (h : RdB A w s xs) : (convert 23 9 s.v).run Try.prog w = .ok (.string (Bs xs)) w := h.conv u8Slice Try.underlying5 Try.underlying9

theorem vintAwake (w : World) : Calls Try.prog 19 #[] w (Ret fun v w' => Ext w w' ∧ v = .bool true) := by
  refine law03_awake.ok ?_
  unfold law03_awake.vc
  have e1 : Vint.put 300 = [172, 2] := by rw [Vint.put_big (by decide), Vint.put_small (by decide)]; rfl
  have e2 : Vint.put 1 = [1] := by rw [Vint.put_small (by decide)]; rfl
  refine CallK.ext (vintPut 300 (by decide) (RdB.nil [] w) (by simp)) fun v w1 hE1 ⟨s, hv, ho, _⟩ => ⟨s, hv, [172, 2], ?_, ?_⟩
  · have := conv8 ho.rd; rw [List.nil_append, e1] at this; exact this
  · refine ⟨fun r w => RdB [] w r [1, 97], fun _ => Ret.mono (vintPutText [97] (RdB.nil [] w1) (by simp)) fun v w2 ⟨hE, s2, hv2, ho2, _⟩ => ⟨hE, s2, hv2, ?_⟩, fun r w2 hE2 hr => ⟨[1, 97], fun _ => conv8 (hr rfl), hE1.trans hE2, rfl⟩⟩
    have := ho2.rd; rw [List.nil_append, show ([97] : Str).length = 1 from rfl, e2] at this; exact this

/-- Numbers one behind the other. -/
def cat (ns : List Nat) : List UInt8 := ns.flatMap Vint.put
theorem cat_len (ns : List Nat) (h : ∀ n ∈ ns, n < 18446744073709551616) : (cat ns).length ≤ 10 * ns.length := by
  induction ns with
  | nil => simp [cat]
  | cons n r ih =>
    have h1 := Vint.put_most (h n (by simp))
    have h2 := ih (fun x hx => h x (by simp [hx]))
    simp only [cat, List.flatMap_cons, List.length_append, List.length_cons] at h2 ⊢
    omega
theorem cat_take (ns : List Nat) {k : Nat} (h : k < ns.length) : cat (ns.take (k + 1)) = cat (ns.take k) ++ Vint.put (ns.getD k 0) := by
  rw [List.take_succ_eq_append_getElem h, List.getD_eq_getElem?_getD, List.getElem?_eq_getElem h]; simp only [cat, List.flatMap_append, List.flatMap_cons, List.flatMap_nil, List.append_nil, Option.getD_some]
theorem cat_split (ns : List Nat) {k : Nat} (h : k < ns.length) : cat ns = cat (ns.take k) ++ (Vint.put (ns.getD k 0) ++ cat (ns.drop (k + 1))) := by
  conv => lhs; rw [← List.take_append_drop (k + 1) ns]
  rw [← List.append_assoc, ← cat_take ns h]; simp only [cat, List.flatMap_append]

theorem Row.num {A : List Nat} {w : World} {s : Sl} {k : IntKind} {ns : List Nat} (h : Row A w s 1 (ns.map fun n : Nat => [.int k (n : Int)])) {i : Nat} (hi : i < ns.length) :
    ∃ p, s.a = some p ∧ w.cell? (p.add (i * 1)) = some (.int k ((ns.getD i 0 : Nat) : Int)) := by
  obtain ⟨p, e1, e2, e3, e4⟩ := h.at_ i (by simpa using hi)
  refine ⟨p, e1, ?_⟩
  have := e3 0 (.int k ((ns.getD i 0 : Nat) : Int)) (by simp [List.getD_eq_getElem?_getD, hi])
  rwa [Addr.add_zero'] at this

theorem vintManyLaw {w : World} {l : Sl} {ns : List Nat} (hns : ∀ n ∈ ns, n < 18446744073709551616) (h : Row [] w l 1 (ns.map fun n : Nat => [.int .u64 (n : Int)])) :
    Calls Try.prog 7 #[l.v] w (Ret fun v w' => Ext w w' ∧ v = .bool true) := by
  refine law03_VintMany.ok _ ?_
  unfold law03_VintMany.vc
  have hl := h.len
  have hcap := h.cap
  have hmx := h.most
  simp only [maxLen] at hmx
  simp only [List.length_map] at hl
  refine ⟨fun s w1 => ∃ ms : List Nat, Row [] w1 s 1 (ms.map fun n : Nat => [.int .u64 (n : Int)]) ∧ ms.length ≤ 200 ∧ (∀ n ∈ ms, n < 18446744073709551616) ∧ Ext w w1, ⟨fun hb => ⟨⟨by omega, by omega⟩, ?_⟩, fun hb => ⟨ns, h, by omega, hns, Chg.refl _ _⟩⟩, ?_⟩
  · refine ⟨ns.take 200, ?_, by simp; omega, fun n hn => hns n (List.mem_of_mem_take hn), Chg.refl _ _⟩
    have := h.cut 0 200 l.c (by omega) (by omega) (by omega) (by omega)
    rw [List.drop_zero, Nat.sub_zero, ← List.map_take] at this
    exact this
  rintro s w1 ⟨ms, hr, hlen, hms, hE1⟩
  have hsl := hr.len
  simp only [List.length_map] at hsl
  refine ⟨fun b i w2 => ∃ k : Nat, i = (k : Int) ∧ k ≤ ms.length ∧ RdB [] w2 b (cat (ms.take k)) ∧ Ext w1 w2, fun _ i _ => 200 - i.toNat, ⟨0, rfl, Nat.zero_le _, RdB.nil _ _, Chg.refl _ _⟩, ?_⟩
  rintro b _ w2 ⟨k, rfl, hk, hb, hE2⟩
  have htl : (ms.take k).length = k := by simp; omega
  have hcl := cat_len (ms.take k) (fun n hn => hms n (List.mem_of_mem_take hn))
  refine ⟨fun hi => ?_, fun hi => ?_⟩
  · obtain ⟨p, hp, hcell⟩ := Row.num (hr.ext hE2) (i := k) (by omega)
    rw [Int.toNat_natCast]
    have hkm : ms.getD k 0 < 18446744073709551616 := by
      have hk' : k < ms.length := by omega
      rw [List.getD_eq_getElem?_getD, List.getElem?_eq_getElem hk']; exact hms _ (List.getElem_mem hk')
    refine ⟨⟨by omega, hi⟩, p, hp, _, hcell, CallK.ext (vintPut _ hkm hb (by omega)) fun v w3 hE3 ⟨s3, hv, ho, _⟩ => ⟨s3, hv, ⟨by omega, by omega⟩, ⟨k + 1, by omega, by omega, ?_, hE2.trans hE3⟩, by dsimp only; omega⟩⟩
    rw [cat_take ms (by omega)]; exact ho.rd
  · have hkl : k = ms.length := by omega
    subst hkl
    rw [List.take_of_length_le (Nat.le_refl _)] at hb hcl
    have hbl := hb.len
    refine ⟨fun a i w3 => ∃ j : Nat, i = (j : Int) ∧ j ≤ ms.length ∧ a = (((cat (ms.take j)).length : Nat) : Int) ∧ Ext w2 w3, fun _ i _ => 200 - i.toNat, ⟨0, rfl, Nat.zero_le _, by simp [cat], Chg.refl _ _⟩, ?_⟩
    rintro _ _ w3 ⟨j, rfl, hj, rfl, hE3⟩
    refine ⟨fun hi => ?_, fun hi => ?_⟩
    · have hkm : ms.getD j 0 < 18446744073709551616 := by
        have hk' : j < ms.length := by omega
        rw [List.getD_eq_getElem?_getD, List.getElem?_eq_getElem hk']; exact hms _ (List.getElem_mem hk')
      have hg := vintGet (((cat (ms.take j)).length : Nat) : Int) (hb.ext hE3)
      rw [cat_split ms (by omega : j < ms.length), Vint.getAt_put _ _ hkm] at hg
      have hpos := List.length_pos_iff.2 (Vint.put_ne (ms.getD j 0))
      refine CallK.exact hg fun w4 hE4 => ⟨_, _, _, rfl, ?_⟩
      obtain ⟨p, hp, hcell⟩ := Row.num (((hr.ext hE2).ext hE3).ext hE4) (i := j) (by omega)
      dsimp only
      refine ⟨p, fun _ => ⟨⟨by omega, hi⟩, hp⟩, _, fun _ => hcell, fun hbad => ?_, fun _ => ⟨⟨by omega, by omega⟩, ⟨j + 1, by omega, by omega, ?_, hE3.trans hE4⟩, by (try dsimp only); omega⟩⟩
      · rcases hbad with (h0 | h0) | h0
        · exact absurd rfl h0
        · exact absurd rfl h0
        · omega
      · rw [cat_take ms (by omega)]; simp
    · have hjl : j = ms.length := by omega
      subst hjl
      rw [List.take_of_length_le (Nat.le_refl _)]
      have hg := vintGet (((cat ms).length : Nat) : Int) (hb.ext hE3)
      rw [Vint.getAt_end] at hg
      refine CallK.exact hg fun w4 hE4 => ⟨_, _, _, rfl, true, fun _ => vintAwake _, fun w5 hE5 => ⟨(((hE1.trans hE2).trans hE3).trans hE4).trans hE5, ?_⟩⟩
      rw [hbl]; simp

theorem vintEndsLaw {w : World} : Calls Try.prog 8 #[] w (Ret fun v w' => Ext w w' ∧ v = .bool true) := by
  refine law03_VintEnds.ok ?_
  unfold law03_VintEnds.vc
  refine ⟨fun v n w1 => ∃ k : Nat, n = (k : Int) ∧ 1 ≤ k ∧ k ≤ 10 ∧ (k ≤ 9 → v = ((128 ^ k - 1 : Nat) : Int)) ∧ Ext w w1, fun _ n _ => 10 - n.toNat, ⟨1, rfl, by omega, by omega, fun _ => rfl, Chg.refl _ _⟩, ?_⟩
  rintro v _ w1 ⟨k, rfl, hk1, hk10, hv, hE1⟩
  refine ⟨fun h9 => ?_, fun h9 => ?_⟩
  · have hk9 : k ≤ 9 := by omega
    have hv := hv hk9
    subst hv
    obtain ⟨j, rfl⟩ : ∃ j, k = j + 1 := ⟨k - 1, by omega⟩
    have hp1 : 1 ≤ 128 ^ j := Nat.pos_of_ne_zero (by simp)
    have hps : 128 ^ (j + 1) = 128 ^ j * 128 := Nat.pow_succ ..
    have hpm : 128 ^ (j + 1) ≤ 128 ^ 9 := Nat.pow_le_pow_right (by decide) (by omega)
    have l1 := Vint.put_le j (128 ^ (j + 1) - 1) (by omega)
    have l2 := Vint.put_ge j (128 ^ (j + 1) - 1) (by omega)
    have l3 := Vint.put_le (j + 1) (128 ^ (j + 1)) (by rw [Nat.pow_succ 128 (j + 1)]; omega)
    have l4 := Vint.put_ge (j + 1) (128 ^ (j + 1)) (Nat.le_refl _)
    refine CallK.ext (vintPut (128 ^ (j + 1) - 1) (by omega) (RdB.nil [] w1) (by simp)) fun v w2 hE2 ⟨s, hv, ho, _⟩ => ⟨s, hv, ?_⟩
    have hsl := ho.rd.len
    rw [List.nil_append] at hsl
    have hw : IntKind.u64.wrap (((128 ^ (j + 1) - 1 : Nat) : Int) + 1) = ((128 ^ (j + 1) : Nat) : Int) := by rw [IntKind.wrap_u64]; omega
    rw [hw]
    refine ⟨fun r w => RdB [] w r (Vint.put (128 ^ (j + 1))), fun _ => Ret.mono (vintPut _ (by omega) (RdB.nil [] w2) (by simp)) fun v w3 ⟨hE, s2, hv2, ho2, _⟩ => ⟨hE, s2, hv2, ?_⟩, fun r w3 hE3 hr => ⟨fun _ => ⟨by omega, by omega⟩, fun hbad => ?_, fun _ => ⟨⟨by omega, by omega⟩, ⟨j + 2, by omega, by omega, by omega, fun h => ?_, (hE1.trans hE2).trans hE3⟩, by (try dsimp only); omega⟩⟩⟩
    · have := ho2.rd; rwa [List.nil_append] at this
    · have hne : ¬ ((s.n : Int) ≠ ((j + 1 : Nat) : Int)) := by omega
      have hrl := (hr hne).len
      omega
    · rw [IntKind.wrap_u64, IntKind.wrap_u64, Nat.pow_succ 128 (j + 1)]
      have : 128 ^ (j + 1) ≤ 128 ^ 8 := Nat.pow_le_pow_right (by decide) (by omega)
      omega
  · refine CallK.ext (vintPut 18446744073709551615 (by decide) (RdB.nil [] w1) (by simp)) fun v w2 hE2 ⟨s, hv, ho, _⟩ => ⟨s, hv, ?_⟩
    have hrd := ho.rd
    rw [List.nil_append] at hrd
    have hg := vintGet 0 hrd
    have hlen : (Vint.put 18446744073709551615).length = 10 := by
      have h1 := Vint.put_most (v := 18446744073709551615) (by decide)
      have h2 := Vint.put_ge 9 18446744073709551615 (by decide)
      omega
    have eg : Vint.getAt (Vint.put 18446744073709551615) 0 = (18446744073709551615, 10, 0) := by
      have := Vint.getAt_put [] [] (x := 18446744073709551615) (by decide)
      rw [List.nil_append, List.append_nil, List.length_nil, hlen] at this
      simpa using this
    rw [eg] at hg
    refine CallK.exact hg fun w3 hE3 => ⟨_, _, _, rfl, fun w4 B4 hN4 hE4 hB4 => ?_⟩
    have hr4 : RdB [] w4 ⟨some ⟨B4, 0, none⟩, 10, 10⟩ [255, 255, 255, 255, 255, 255, 255, 255, 255, 2] := Box.rdB (xs := [255, 255, 255, 255, 255, 255, 255, 255, 255, 2]) hB4 (by decide) [] (by simp)
    have hg4 := vintGet 0 hr4
    rw [show Vint.getAt [255, 255, 255, 255, 255, 255, 255, 255, 255, 2] 0 = (0, 0, 10) by decide +kernel] at hg4
    refine CallK.exact hg4 fun w5 hE5 => ⟨_, _, _, rfl, fun w6 B6 hN6 hE6 hB6 => ?_⟩
    have hr6 : RdB [] w6 ⟨some ⟨B6, 0, none⟩, 2, 2⟩ [128, 0] := Box.rdB (xs := [128, 0]) hB6 (by decide) [] (by simp)
    have hg6 := vintGet 0 hr6
    rw [show Vint.getAt [128, 0] 0 = (0, 0, 10) by decide +kernel] at hg6
    refine CallK.exact hg6 fun w7 hE7 => ⟨_, _, _, rfl, fun w8 B8 hN8 hE8 hB8 => ?_⟩
    have hr8 : RdB [] w8 ⟨some ⟨B8, 0, none⟩, 1, 1⟩ [128] := Box.rdB (xs := [128]) hB8 (by decide) [] (by simp)
    have hg8 := vintGet 0 hr8
    rw [show Vint.getAt [128] 0 = (0, 0, 9) by decide +kernel] at hg8
    refine CallK.exact hg8 fun w9 hE9 => ⟨_, _, _, rfl, ?_⟩
    have hg9 := vintGet 1 (RdB.nil [] w9)
    rw [show Vint.getAt [] 1 = (0, 0, 1) by decide +kernel] at hg9
    refine CallK.exact hg9 fun w10 hE10 => ⟨_, _, _, rfl, true, fun _ => vintAwake _, fun w11 hE11 => ⟨((((((((((hE1.trans hE2).trans hE3).trans hE4).trans hE5).trans hE6).trans hE7).trans hE8).trans hE9).trans hE10).trans hE11), ?_⟩⟩
    rfl

theorem Addr.add_zero0 (p : Addr) : p.add 0 = p := Addr.add_zero' p
theorem cut0_a (s : Sl) (n m : Nat) : (s.cut 1 0 n m).a = s.a := by
  unfold Sl.cut; dsimp only
  split
  · rfl
  · cases s.a with
    | none => rfl
    | some p => simp [Addr.add_zero0]
theorem cut0_cut0 (s : Sl) (n m k : Nat) : ((s.cut 1 0 n m).cut 1 0 k m) = s.cut 1 0 k m := by
  have h1 := cut0_a (s.cut 1 0 n m) k m
  have h2 := cut0_a s n m
  have h3 := cut0_a s k m
  have : ((s.cut 1 0 n m).cut 1 0 k m).a = (s.cut 1 0 k m).a := by rw [h1, h2, h3]
  unfold Sl.cut at this ⊢
  rw [Sl.mk.injEq]
  exact ⟨this, rfl, rfl⟩

theorem vintAllLaw {w : World} {b : Sl} {xs : List UInt8} (v : Nat) (hv : v < 18446744073709551616) (s : Str) (at_ most : Int) (hmost : most ≤ 9223372036854775807) (h : RdB [] w b xs) (hsize : xs.length ≤ 1048576) :
    Calls Try.prog 9 #[b.v, .int .u64 (v : Int), .string (Bs s), .int .i64 at_, .int .i64 most] w (Ret fun u w' => Ext w w' ∧ u = .bool true) := by
  refine law03_VintAll.ok _ _ _ _ _ ?_
  unfold law03_VintAll.vc
  have hl := h.len
  have hm := h.most
  refine ⟨fun _ => CallK.exact (vintAwake w) fun w1 hE1 => ⟨true, rfl, hE1, rfl⟩, fun hs3 => ?_⟩
  obtain ⟨d1, w1, hr1, hA1, hO1, hC1, hB1⟩ := appendB (A := []) (w := w) (s := Sl.nil) (xs := []) (.inl (Own.nil _ _ _ _)) (by simp) h (by simp; omega)
  have hE1 : Ext w w1 := by
    rw [Sl.own_full rfl] at hC1; exact hC1
  rw [List.nil_append] at hA1 hO1
  have hd1 : ∀ x ∈ d1.blk, w.heap.size ≤ x := fun x hx => (hB1 x hx).elim (fun h => by simp [Sl.blk, Sl.nil] at h) id
  refine ⟨_, _, hr1, (fun _ hb => by cases hb), hE1.size, d1, rfl, fun w2 B2 hN2 hE2 hB2 => ?_⟩
  obtain ⟨d3, w3, hr3, ho3, hsz3, hC3, hB3⟩ := appendOne 99 hA1 hE2 hB2 (by decide) (by omega)
  have hE3 : Ext w w3 := Chg.fresh hE1 hC3 (fun x hx => hd1 x (Sl.own_blk hx))
  have h3 := ho3.rd
  have hl3 := h3.len
  have hm3 := h3.most
  simp only [List.length_append, List.length_cons, List.length_nil] at hl3
  have hcn : (d3.cut 1 0 b.n d3.c).n = b.n := rfl
  have hcut : ∀ w', Ext w3 w' → RdB [] w' (d3.cut 1 0 b.n d3.c) xs := fun w' hE => by
    have := (h3.ext hE).cut 0 b.n d3.c (by omega) (by omega) (by omega) (by omega)
    rw [List.drop_zero, Nat.sub_zero, List.take_append_of_le_length (by omega), List.take_of_length_le (by omega)] at this
    exact this
  have hw1 : IntKind.u64.wrap (s.length : Int) = (s.length : Int) := by rw [IntKind.wrap_u64]; omega
  have hpv := Vint.put_most hv
  have hps := Vint.put_most (v := s.length) (by omega)
  refine ⟨_, _, hr3, (fun _ hb => by cases hb), hsz3, d3, rfl, ⟨by omega, by omega⟩, fun w4 hE4 => ?_⟩
  have hE34 : Ext w w4 := hE3.trans hE4
  rw [Int.toNat_natCast, hw1]
  refine ⟨fun r w => RdB [] w r (xs ++ Vint.put v), fun _ _ _ hE hr => hr.ext hE, fun w' hE => Ret.mono (vintPut v hv (hcut w' (hE4.trans hE)) (by omega)) fun u w2 ⟨hE, s2, hv2, ho2, _⟩ => ⟨hE, s2, hv2, ho2.rd⟩,
    _, fun r w' _ hr => conv8 hr, xs, fun w' hE => conv8 (h.ext (hE34.trans hE)), fun r w => RdB [] w r (Vint.put v), fun _ _ _ hE hr => hr.ext hE, fun w' hE => Ret.mono (refPut v hv) fun u w2 ⟨hE, s2, hv2, ho2, _⟩ => ⟨hE, s2, hv2, ho2.rd⟩,
    _, fun r w' _ hr => conv8 hr, by omega, fun r w => RdB [] w r (xs ++ Vint.put s.length ++ s), fun _ _ _ hE hr => hr.ext hE, fun _ w' hE => Ret.mono (vintPutText s (hcut w' (hE4.trans hE)) (by omega)) fun u w2 ⟨hE, s2, hv2, ho2, _⟩ => ⟨hE, s2, hv2, ho2.rd⟩,
    _, fun hc r w' _ hr => conv8 (hr hc), xs, fun _ w' hE => conv8 (h.ext (hE34.trans hE)), fun r w => RdB [] w r (Vint.put s.length), fun _ _ _ hE hr => hr.ext hE, fun _ w' hE => Ret.mono (refPut _ (by omega)) fun u w2 ⟨hE, s2, hv2, ho2, _⟩ => ⟨hE, s2, hv2, ho2.rd⟩,
    _, fun hc r w' _ hr => conv8 (hr hc), fun _ => by omega, fun _ => by simp only [List.length_append]; omega, fun hbad => ?_, fun _ w5 hE5 => ?_⟩
  · rcases hbad with h0 | h0
    · exact absurd rfl h0
    · exact absurd rfl h0
  have hE5' := hE34.trans hE5
  have hE45 := hE4.trans hE5
  refine CallK.exact (vintGet at_ (hcut w5 hE45)) fun w6 hE6 => ⟨_, _, _, rfl, ?_⟩
  refine CallK.exact (refGet at_ (h.ext (hE5'.trans hE6))) fun w7 hE7 => ⟨_, _, _, rfl, ?_⟩
  have hE67 := hE6.trans hE7
  refine CallK.exact (vintGetText at_ most hmost (hcut w7 (hE45.trans hE67))) fun w8 hE8 => ⟨_, _, _, rfl, ?_⟩
  refine CallK.exact (refGetText at_ most hmost (h.ext ((hE5'.trans hE67).trans hE8))) fun w9 hE9 => ⟨_, _, _, rfl, ?_⟩
  have hE69 := (hE67.trans hE8).trans hE9
  have h9 := (h3.ext (hE45.trans hE69)).cut 0 (b.n + 1) d3.c (by omega) (by omega) (by omega) (by omega)
  have hcc : (d3.cut 1 0 b.n d3.c).c = d3.c := rfl
  rw [hcc, show ((b.n : Int) + 1).toNat = b.n + 1 by omega, cut0_cut0]
  obtain ⟨p, hp, _, hcell⟩ := h9.at (i := (b.n : Int)) (by omega) (by show (b.n : Int) < ((b.n + 1 - 0 : Nat) : Int); omega)
  rw [Int.toNat_natCast] at hcell
  have hx99 : (((xs ++ [99]).drop 0).take (b.n + 1 - 0)).getD b.n 0 = 99 := by
    rw [List.drop_zero, Nat.sub_zero, List.take_of_length_le (by simp; omega), hl]
    simp [List.getD_eq_getElem?_getD]
  rw [hx99] at hcell
  refine ⟨fun _ => ⟨by omega, by omega⟩, fun _ => ⟨by omega, by omega⟩, p, fun _ => ⟨⟨by omega, by show (b.n : Int) < ((b.n + 1 - 0 : Nat) : Int); omega⟩, hp⟩, _, fun _ => hcell, true, fun _ => vintAwake _, fun w10 hE10 => ⟨(hE5'.trans hE69).trans hE10, ?_⟩⟩
  simp

theorem getText_ok {a s r : List UInt8} {most : Int} (hs : s.length < 18446744073709551616) (hm : (s.length : Int) ≤ most) : Vint.getText (a ++ (Vint.put s.length ++ (s ++ r))) (a.length : Int) most = (s, a.length + (Vint.put s.length).length + s.length, 0) := by
  unfold Vint.getText
  rw [Vint.getAt_put _ _ hs]
  dsimp only
  rw [if_neg (by omega), if_neg (by omega), if_neg (by simp; omega)]
  have e : (a ++ (Vint.put s.length ++ (s ++ r))).drop (a.length + (Vint.put s.length).length) = s ++ r := by
    rw [← List.append_assoc, ← List.length_append, List.drop_left]
  rw [e, List.take_left]

theorem vintBackLaw {w : World} (v : Nat) (hv : v < 18446744073709551616) (s : Str) (cut : Int) :
    Calls Try.prog 10 #[.int .u64 (v : Int), .string (Bs s), .int .i64 cut] w (Ret fun u w' => Ext w w' ∧ u = .bool true) := by
  refine law03_VintBack.ok _ _ _ ?_
  unfold law03_VintBack.vc
  refine ⟨fun _ => CallK.exact (vintAwake w) fun w1 hE1 => ⟨true, rfl, hE1, rfl⟩, fun hs3 w1 B1 hN1 hE1 hB1 => ?_⟩
  have hr1 : RdB [] w1 ⟨some ⟨B1, 0, none⟩, 1, 1⟩ [7] := Box.rdB (xs := [7]) hB1 (by decide) [] (by simp)
  have hpv := Vint.put_most hv
  have hps := Vint.put_most (v := s.length) (by omega)
  have hpv1 := List.length_pos_iff.2 (Vint.put_ne v)
  have hps1 := List.length_pos_iff.2 (Vint.put_ne s.length)
  refine CallK.ext (vintPut v hv hr1 (by simp)) fun u w2 hE2 ⟨d2, hv2, ho2, _⟩ => ⟨d2, hv2, ?_⟩
  refine CallK.ext (vintPutText s ho2.rd (by simp; omega)) fun u w3 hE3 ⟨d3, hv3, ho3, _⟩ => ⟨d3, hv3, ?_⟩
  have hE13 := (hE1.trans hE2).trans hE3
  have h3 := ho3.rd
  have hl3 := h3.len
  have hm3 := h3.most
  simp only [List.length_append, List.length_cons, List.length_nil] at hl3
  have g1 := vintGet 1 h3
  rw [show [7] ++ Vint.put v ++ Vint.put s.length ++ s = [7] ++ (Vint.put v ++ (Vint.put s.length ++ s)) by simp] at g1
  have e1 := Vint.getAt_put [7] (Vint.put s.length ++ s) hv
  rw [show (([7] : List UInt8).length : Int) = 1 from rfl] at e1
  rw [e1] at g1
  refine CallK.exact g1 fun w4 hE4 => ⟨_, _, _, rfl, ?_⟩
  dsimp only
  have hpos : ([7] : List UInt8).length + (Vint.put v).length = ([7] ++ Vint.put v).length := by simp; omega
  rw [hpos]
  have g2 := vintGetText ((([7] ++ Vint.put v).length : Nat) : Int) (s.length : Int) (by omega) (h3.ext hE4)
  have e2 := getText_ok (a := [7] ++ Vint.put v) (s := s) (r := []) (most := (s.length : Int)) (by omega) (by omega)
  rw [List.append_nil, ← List.append_assoc] at e2
  rw [e2] at g2
  refine CallK.exact g2 fun w5 hE5 => ⟨_, _, _, rfl, ⟨by omega, by omega⟩, ?_⟩
  refine CallK.exact (place cut _ (by omega) (by omega)) fun w6 hE6 => ⟨_, rfl, ⟨by omega, by omega⟩, fun hbad => by omega, fun _ => ?_⟩
  have hE46 := (hE4.trans hE5).trans hE6
  have hk0 := Int.emod_nonneg cut (show (s.length : Int) + 1 ≠ 0 by omega)
  have hk1 := Int.emod_lt_of_pos cut (show (0 : Int) < (s.length : Int) + 1 by omega)
  obtain ⟨k, hk⟩ : ∃ k : Nat, cut.emod ((s.length : Int) + 1) = (k : Int) := ⟨(cut % ((s.length : Int) + 1)).toNat, by show cut % _ = _; omega⟩
  rw [hk]
  have hkn : k ≤ s.length := by have : cut % ((s.length : Int) + 1) = k := hk; omega
  refine ⟨⟨by omega, by omega⟩, ⟨by omega, by omega⟩, ?_⟩
  rw [show ((d3.n : Int) - (k : Int)).toNat = d3.n - k by omega]
  have h6 := (h3.ext hE46).cut 0 (d3.n - k) d3.c (by omega) (by omega) (by omega) (by omega)
  have et : (([7] ++ Vint.put v ++ Vint.put s.length ++ s).drop 0).take (d3.n - k - 0) = ([7] ++ Vint.put v) ++ (Vint.put s.length ++ s.take (s.length - k)) := by
    rw [List.drop_zero, Nat.sub_zero, List.take_append, List.take_of_length_le (by simp; omega)]
    rw [← List.append_assoc]
    congr 2
    simp; omega
  rw [et] at h6
  have g3 := vintGetText ((([7] ++ Vint.put v).length : Nat) : Int) (s.length : Int) (by omega) h6
  refine CallK.exact g3 fun w7 hE7 => ⟨_, _, _, rfl, ⟨by omega, by omega⟩, ?_⟩
  have g4 := vintGetText ((([7] ++ Vint.put v).length : Nat) : Int) ((s.length : Int) - 1) (by omega) (h3.ext (hE46.trans hE7))
  refine CallK.exact g4 fun w8 hE8 => ⟨_, _, _, rfl, true, fun _ => vintAwake _, fun w9 hE9 => ⟨(((hE13.trans hE46).trans hE7).trans hE8).trans hE9, ?_⟩⟩
  have e4 : (Vint.getText ([7] ++ Vint.put v ++ Vint.put s.length ++ s) ((([7] ++ Vint.put v).length : Nat) : Int) ((s.length : Int) - 1)).2.2 = 2 := by
    unfold Vint.getText
    rw [List.append_assoc ([7] ++ Vint.put v), Vint.getAt_put _ _ (by omega)]
    dsimp only
    rw [if_neg (by omega), if_pos (by omega)]
  have e3 : (Vint.getText (([7] ++ Vint.put v) ++ (Vint.put s.length ++ s.take (s.length - k))) ((([7] ++ Vint.put v).length : Nat) : Int) (s.length : Int)).2.2 = if k = 0 then 0 else 9 := by
    unfold Vint.getText
    rw [Vint.getAt_put _ _ (by omega)]
    dsimp only
    rw [if_neg (by omega), if_neg (by omega)]
    by_cases hk0 : k = 0
    · rw [if_pos hk0, if_neg (by simp; omega)]
    · rw [if_neg hk0, if_pos (by simp; omega)]
  rw [e3, e4, hl3]
  by_cases hk0 : k = 0
  · subst hk0; simp; omega
  · simp [hk0]; omega

end Go.Proofs.Ytanhcenminbkmaa
