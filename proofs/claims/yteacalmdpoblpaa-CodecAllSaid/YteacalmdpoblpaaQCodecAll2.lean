/-
  The document's decoding computes the plain one. The document's decoding; any operations as bytes, any bytes as operations.
-/
import Derived.Test.YteacalmdpoblpaaQCodecAll1
import Derived.Test.YteacalmdpoblpaaQCodecAllGlaw24CodecAll
namespace Go.Proofs.Yteacalmdpoblpaa
section
open Go.RowKit Go.MapKept Cdc

namespace Cdc

theorem strsL_short (b : Str) (lim : Int) : ∀ (n : Nat) (all : List Str) (r : Rs), (∀ s ∈ all, s.length ≤ b.length) → ∀ s ∈ (strsL b lim n all r).1, s.length ≤ b.length
  | 0, all, r, h => h
  | n + 1, all, r, h => by
    rw [strsL]
    split
    · exact h
    · split
      · exact h
      · refine strsL_short b lim n _ _ fun s hs => ?_
        rcases List.mem_append.1 hs with h1 | h1
        · exact h s h1
        · simp at h1; subst h1
          unfold Vint.getText
          split
          · simp
          · split
            · simp
            · split
              · simp
              · simp only [List.length_take, List.length_drop]; omega

theorem wordL_in (b : Str) (all : List Str) (r : Rs) : (wordL b all r).1 = [] ∨ (wordL b all r).1 ∈ all := by
  unfold wordL
  split
  · exact .inl rfl
  · rename_i h
    simp only
    by_cases hk : (numL b ((all.length : Int) - 1) r).1.toNat < all.length
    · right; rw [List.getD_eq_getElem?_getD, List.getElem?_eq_getElem hk]; exact List.getElem_mem hk
    · left; rw [List.getD_eq_getElem?_getD, List.getElem?_eq_none (by omega)]; rfl

theorem oneL_short {b : Str} {all : List Str} (h : ∀ s ∈ all, s.length ≤ b.length) (r : Rs) : (oneL b all r).1.name.length ≤ b.length ∧ (oneL b all r).1.text.length ≤ b.length := by
  have hw : ∀ r, (wordL b all r).1.length ≤ b.length := fun r => by
    rcases wordL_in b all r with e | e
    · rw [e]; simp
    · exact h _ e
  have hn : ∀ k r, (nameL b all k r).1.length ≤ b.length := fun k r => by
    unfold nameL; split
    · exact hw _
    · simp
  have ht : ∀ k r, (txtL b all k r).1.length ≤ b.length := fun k r => by
    unfold txtL; split
    · exact hw _
    · simp
  exact ⟨hn _ _, ht _ _⟩

theorem opsL_short {b : Str} {all : List Str} (h : ∀ s ∈ all, s.length ≤ b.length) : ∀ (n : Nat) (l : List OpT) (r : Rs), (∀ o ∈ l, o.name.length ≤ b.length ∧ o.text.length ≤ b.length) → ∀ o ∈ (opsL b all n l r).1, o.name.length ≤ b.length ∧ o.text.length ≤ b.length
  | 0, l, r, hl => hl
  | n + 1, l, r, hl => by
    rw [opsL]
    split
    · exact hl
    · refine opsL_short h n _ _ fun o ho => ?_
      rcases List.mem_append.1 ho with h1 | h1
      · exact hl o h1
      · simp at h1; subst h1; exact oneL_short h _

theorem texts_sub (o : OpT) : ∀ s ∈ textsO o, s = o.name ∨ s = o.text := by
  intro s hs
  unfold textsO at hs
  split at hs
  · simpa using hs
  · split at hs
    · simp at hs; exact .inl hs
    · split at hs
      · simp at hs; exact .inr hs
      · cases hs

theorem numL_range {b : Str} {most : Int} (h0 : 0 ≤ most) (hm : most ≤ 9223372036854775807) (r : Rs) : 0 ≤ (numL b most r).1 ∧ (numL b most r).1 ≤ most := by
  have hw : most64 most = most.toNat := by unfold most64; rw [IntKind.wrap_u64]; omega
  unfold numL
  split
  · exact ⟨by simp, h0⟩
  · rename_i h
    have h3 : ¬ most64 most < (Vint.getAt b r.at_).1 := fun h' => h (.inr h')
    rw [hw] at h3
    simp only
    unfold int
    rw [IntKind.wrap_i64]; omega

theorem strsL_end {b : Str} {lim : Int} {all : List Str} {n : Nat} {r : Rs} (h : n = 0 ∨ r.bad = true) : strsL b lim n all r = (all, r) := by
  cases n with
  | zero => rfl
  | succ n =>
    rcases h with h | h
    · cases h
    · rw [strsL, if_pos h]

theorem opsL_end {b : Str} {all : List Str} {n : Nat} {l : List OpT} {r : Rs} (h : n = 0 ∨ r.bad = true) : opsL b all n l r = (l, r) := by
  cases n with
  | zero => rfl
  | succ n =>
    rcases h with h | h
    · cases h
    · rw [opsL, if_pos h]

end Cdc

section

variable {w0 w w' : World} {B : Nat} {T : TypeId} {b : Sl} {bs : Str} {r : Rs}

theorem Rdr.numLC (h : Rdr w0 w B T b bs r) (most : Int) : Calls Try.prog 38 #[.pointer (some ⟨B, 0, none⟩), .int .i64 most] w (Ret fun u w' => Chg [B] w w' ∧ u = .int .i64 (numL bs most r).1 ∧ Box w' B T [b.v, .int .i64 ((numL bs most r).2.at_ : Int), .bool (numL bs most r).2.bad]) := by
  refine ref24_R_number.ok _ _ ?_
  unfold ref24_R_number.vc
  intro w1 hE1
  have h1 := h.box.ext hE1
  have hmw : IntKind.u64.wrap most = ((most64 most : Nat) : Int) := by unfold most64; rw [IntKind.wrap_u64]; omega
  rw [hmw]
  refine ⟨b, h1.cell 0 _ rfl, _, h1.cell 1 _ rfl, _, _, _, fun w' hE => refGet (r.at_ : Int) ((h.rd.ext hE1).ext hE), fun w2 hE2 => ?_⟩
  have h2 := h1.ext hE2
  have hE := hE1.trans hE2
  refine ⟨r.bad, h2.cell 2 _ rfl, fun hc => ⟨B, 2, T, _, rfl, h2, by simp, (fun _ hb => by cases hb), fun w3 hC hB => ?_⟩, fun hc => ⟨B, 1, T, _, rfl, h2, by simp, (fun _ hb => by cases hb), fun w3 hC hB => ?_⟩⟩
  · have e : numL bs most r = (0, ⟨r.at_, true⟩) := if_pos (by
      rcases hc with (h | h) | h
      · exact .inl (.inl h)
      · exact .inl (.inr (by omega))
      · exact .inr (by omega))
    rw [e]; exact ⟨hE.ext.trans hC, rfl, hB⟩
  · have e : numL bs most r = (int (Vint.getAt bs r.at_).1, ⟨(Vint.getAt bs r.at_).2.1, false⟩) := if_neg (by
      rintro ((h | h) | h)
      · rw [hc.1.1] at h; cases h
      · exact hc.1.2 (by omega)
      · exact hc.2 (by omega))
    rw [e]
    rw [hc.1.1] at hB
    exact ⟨hE.ext.trans hC, rfl, hB⟩

theorem Rdr.numL {bx : List Nat} {K : Value → World → Prop} (h : Rdr w0 w B T b bs r) (most : Int) (hbx : ∀ x ∈ bx, w0.heap.size ≤ x) (k : ∀ w', Rdr w0 w' B T b bs (numL bs most r).2 → Chg [B] w w' → K (.int .i64 (Cdc.numL bs most r).1) w') :
    CallK Try.prog 38 #[.pointer (some ⟨B, 0, none⟩), .int .i64 most] w bx K := h.call hbx (h.numLC most) k

theorem Rdr.wordLC (h : Rdr w0 w B T b bs r) {sa : Sl} {all : List Str} (ha : Row [B] w0 sa 1 (all.map wc)) : Calls Try.prog 50 #[.pointer (some ⟨B, 0, none⟩), sa.v] w (Ret fun u w' => Chg [B] w w' ∧ u = .string (Bs (wordL bs all r).1) ∧ Box w' B T [b.v, .int .i64 ((wordL bs all r).2.at_ : Int), .bool (wordL bs all r).2.bad]) := by
  refine ref24_R_word.ok _ _ ?_
  unfold ref24_R_word.vc
  have hl := ha.len
  rw [List.length_map] at hl
  have hm : sa.n ≤ 9223372036854775807 := by have h1 := ha.cap; have h2 := ha.most; unfold maxLen at h2; omega
  rw [hl]
  refine ⟨⟨by omega, by omega⟩, h.numL _ (by simp) fun w1 h1 hC1 => ⟨_, rfl, fun hc => ⟨B, 2, T, _, rfl, h1.box, by simp, (fun _ hb => by cases hb), fun w2 hC hB => ?_⟩, fun hc => ?_⟩⟩
  · have e : wordL bs all r = ([], ⟨(Cdc.numL bs ((all.length : Int) - 1) r).2.at_, true⟩) := if_pos (by omega)
    rw [e]; exact ⟨hC1.trans hC, rfl, hB⟩
  · have e : wordL bs all r = (all.getD (Cdc.numL bs ((all.length : Int) - 1) r).1.toNat [], (Cdc.numL bs ((all.length : Int) - 1) r).2) := if_neg (by omega)
    have hr := numL_range (b := bs) (most := (all.length : Int) - 1) (by omega) (by omega) r
    obtain ⟨p, hp, hcell⟩ := (h1.row ha (by simp)).wAt (k := (Cdc.numL bs ((all.length : Int) - 1) r).1.toNat) (by omega)
    rw [e]
    exact ⟨⟨by omega, by omega⟩, p, hp, _, hcell, hC1, rfl, h1.box⟩

theorem Rdr.wordL {sa : Sl} {all : List Str} {bx : List Nat} {K : Value → World → Prop} (h : Rdr w0 w B T b bs r) (ha : Row [B] w0 sa 1 (all.map wc)) (hbx : ∀ x ∈ bx, w0.heap.size ≤ x) (k : ∀ w', Rdr w0 w' B T b bs (wordL bs all r).2 → Chg [B] w w' → K (.string (Bs (Cdc.wordL bs all r).1)) w') :
    CallK Try.prog 50 #[.pointer (some ⟨B, 0, none⟩), sa.v] w bx K := h.call hbx (h.wordLC ha) k

theorem Rdr.oneLC (h : Rdr w0 w B T b bs r) {sa : Sl} {all : List Str} (ha : Row [B] w0 sa 1 (all.map wc)) : Calls Try.prog 40 #[.pointer (some ⟨B, 0, none⟩), sa.v] w (Ret fun u w' => Chg [B] w w' ∧ u = ov (oneL bs all r).1 ∧ Box w' B T [b.v, .int .i64 ((oneL bs all r).2.at_ : Int), .bool (oneL bs all r).2.bad]) := by
  refine ref24_R_one.ok _ _ ?_
  unfold ref24_R_one.vc
  have ha1 : Row [B] w sa 1 (all.map wc) := h.row ha (by simp)
  intro w1 B1 hN1 hE1
  have h0 : Rdr w w1 B T b bs r := ⟨hE1.ext, h.box.lt, h.box.ext hE1, h.rd⟩
  have hbx1 : ∀ x ∈ [B1], w.heap.size ≤ x := by simpa using hN1.ge
  refine h0.numL 127 hbx1 fun w2 h2 hC2 => ⟨_, rfl, h2.numL 1048576 hbx1 fun w3 h3 hC3 => ⟨_, rfl, fun w4 B2 hN4 hE4 => ?_⟩⟩
  have s1 := hE1.size
  have s2 := hC2.size
  have s3 := hC3.size
  have bxs : ∀ x ∈ [B1, B2], w.heap.size ≤ x := fun x hx => by
    have := hN1.ge; have := hN4.ge
    simp at hx; rcases hx with rfl | rfl <;> omega
  have bx2 : ∀ x ∈ [B2], w.heap.size ≤ x := fun x hx => bxs x (by simp at hx; simp [hx])
  have h4 := h3.ext hE4
  have hone : oneL bs all r = (⟨(Cdc.numL bs 127 r).1, (Cdc.numL bs 1048576 (Cdc.numL bs 127 r).2).1, (placeL bs (Cdc.numL bs 127 r).1 (Cdc.numL bs 1048576 (Cdc.numL bs 127 r).2).2).1.1, (placeL bs (Cdc.numL bs 127 r).1 (Cdc.numL bs 1048576 (Cdc.numL bs 127 r).2).2).1.2,
    (whatL bs (Cdc.numL bs 127 r).1 (placeL bs (Cdc.numL bs 127 r).1 (Cdc.numL bs 1048576 (Cdc.numL bs 127 r).2).2).2).1, (nameL bs all (Cdc.numL bs 127 r).1 (whatL bs (Cdc.numL bs 127 r).1 (placeL bs (Cdc.numL bs 127 r).1 (Cdc.numL bs 1048576 (Cdc.numL bs 127 r).2).2).2).2).1,
    (txtL bs all (Cdc.numL bs 127 r).1 (nameL bs all (Cdc.numL bs 127 r).1 (whatL bs (Cdc.numL bs 127 r).1 (placeL bs (Cdc.numL bs 127 r).1 (Cdc.numL bs 1048576 (Cdc.numL bs 127 r).2).2).2).2).2).1⟩,
    (txtL bs all (Cdc.numL bs 127 r).1 (nameL bs all (Cdc.numL bs 127 r).1 (whatL bs (Cdc.numL bs 127 r).1 (placeL bs (Cdc.numL bs 127 r).1 (Cdc.numL bs 1048576 (Cdc.numL bs 127 r).2).2).2).2).2).2) := rfl
  rw [hone]
  generalize (Cdc.numL bs 1048576 (Cdc.numL bs 127 r).2) = i at *
  generalize (Cdc.numL bs 127 r).1 = k at *
  refine ⟨fun c d w' => c = (placeL bs k i.2).1.1 ∧ d = (placeL bs k i.2).1.2 ∧ Rdr w w' B T b bs (placeL bs k i.2).2, ⟨fun hk => ?_, fun hk => ?_⟩, ?_⟩
  · refine h4.numL _ bxs fun w5 h5 _ => ⟨_, rfl, h5.numL _ bxs fun w6 h6 _ => ⟨_, rfl, fun w7 hC7 => ?_⟩⟩
    unfold placeL
    rw [if_pos hk]
    exact ⟨rfl, rfl, h6.new hC7 bx2⟩
  · unfold placeL
    rw [if_neg (by omega)]
    exact ⟨rfl, rfl, h4⟩
  rintro _ _ w8 ⟨rfl, rfl, h8⟩
  generalize placeL bs k i.2 = p at *
  refine ⟨fun c w' => c = (whatL bs k p.2).1 ∧ Rdr w w' B T b bs (whatL bs k p.2).2, ⟨fun hk => ?_, fun hk => ?_⟩, ?_⟩
  · refine h8.numL _ bxs fun w5 h5 _ => ⟨_, rfl, fun w7 hC7 => ?_⟩
    unfold whatL
    rw [if_pos hk]
    exact ⟨rfl, h5.new hC7 bx2⟩
  · unfold whatL
    rw [if_neg hk]
    exact ⟨rfl, h8⟩
  rintro _ w9 ⟨rfl, h9⟩
  generalize whatL bs k p.2 = q at *
  refine ⟨fun c w' => c = (nameL bs all k q.2).1 ∧ Rdr w w' B T b bs (nameL bs all k q.2).2, ⟨fun hk => ?_, fun hk => ?_⟩, ?_⟩
  · refine h9.wordL ha1 bxs fun w5 h5 _ => ⟨_, rfl, fun w7 hC7 => ?_⟩
    unfold nameL
    rw [if_pos hk]
    exact ⟨rfl, h5.new hC7 bx2⟩
  · unfold nameL
    rw [if_neg (by omega)]
    exact ⟨rfl, h9⟩
  rintro _ w10 ⟨rfl, h10⟩
  generalize nameL bs all k q.2 = n at *
  refine ⟨fun hk => h10.wordL ha1 bxs fun w5 h5 _ => ⟨_, rfl, fun w7 hC7 => ?_⟩, fun hk w7 hC7 => ?_⟩
  · unfold txtL
    rw [if_pos hk]
    have h11 := h5.new hC7 bxs
    exact ⟨h11.chg, rfl, h11.box⟩
  · unfold txtL
    rw [if_neg (by omega)]
    have h11 := h10.new hC7 hbx1
    exact ⟨h11.chg, rfl, h11.box⟩

theorem Rdr.oneL {sa : Sl} {all : List Str} {bx : List Nat} {K : Value → World → Prop} (h : Rdr w0 w B T b bs r) (ha : Row [B] w0 sa 1 (all.map wc)) (hbx : ∀ x ∈ bx, w0.heap.size ≤ x) (k : ∀ w', Rdr w0 w' B T b bs (oneL bs all r).2 → Chg [B] w w' → K (ov (Cdc.oneL bs all r).1) w') :
    CallK Try.prog 40 #[.pointer (some ⟨B, 0, none⟩), sa.v] w bx K := h.call hbx (h.oneLC ha) k

end
end

section
open Go.RowKit Go.MapKept Cdc

theorem refDecode {X : List Nat} {w : World} {p : Sl} {ps : Str} (hp : RdB X w p ps) :
    Calls Try.prog 15 #[p.v] w (Ret (DecR w (decL ps))) := by
  refine ref24_Decode.ok _ ?_
  unfold ref24_Decode.vc
  have hl := hp.len
  have hm := hp.most
  refine ⟨⟨by omega, by omega⟩, fun h => DecR.none (Chg.refl _ _) (by unfold decL; rw [if_pos (by omega)]), fun h65 => ⟨fun h => DecR.none (Chg.refl _ _) (by unfold decL; rw [if_neg (by omega), if_pos (by omega)]), fun h26 w1 hE1 => ?_⟩⟩
  have hdec : decL ps = if ps.drop (ps.length - 4) ≠ lowB 4 (Crc.more 0 (ps.take (ps.length - 4))) then ((0, 0, []), 11)
      else if ((parseL ps).2 = true ∨ (enc (parseL ps).1.1 (parseL ps).1.2.1 (parseL ps).1.2.2).2 ≠ 0) ∨ (enc (parseL ps).1.1 (parseL ps).1.2.1 (parseL ps).1.2.2).1 ≠ ps then ((0, 0, []), 10) else ((parseL ps).1, 0) := by
    conv => lhs; unfold decL
    rw [if_neg (by omega), if_neg (by omega)]
  have e4 : ((p.n : Int) - 4).toNat = ps.length - 4 := by omega
  rw [e4]
  have hb0 : ∀ {w' : World}, Ext w w' → RdB [] w' (p.cut 1 0 (ps.length - 4) p.c) (ps.take (ps.length - 4)) := fun hE => by
    have := ((hp.less (A' := []) (by simp)).ext hE).cut 0 (ps.length - 4) p.c (by omega) (by omega) (by omega) (by omega)
    rwa [List.drop_zero, Nat.sub_zero] at this
  have hs0 : ∀ {w' : World}, Ext w w' → RdB [] w' (p.cut 1 (ps.length - 4) p.n p.c) (ps.drop (ps.length - 4)) := fun hE => by
    have := ((hp.less (A' := []) (by simp)).ext hE).cut (ps.length - 4) p.n p.c (by omega) (by omega) (by omega) (by omega)
    rwa [List.take_of_length_le (by rw [List.length_drop]; omega)] at this
  have h48 : ∀ {w' : World}, Ext w w' → RdB [] w' (p.cut 1 4 12 p.c) ((ps.drop 4).take 8) := fun hE => ((hp.less (A' := []) (by simp)).ext hE).cut 4 12 p.c (by omega) (by omega) (by omega) (by omega)
  have h128 : ∀ {w' : World}, Ext w w' → RdB [] w' (p.cut 1 12 20 p.c) ((ps.drop 12).take 8) := fun hE => ((hp.less (A' := []) (by simp)).ext hE).cut 12 20 p.c (by omega) (by omega) (by omega) (by omega)
  have l8 : ∀ l : List UInt8, (l.take 8).length ≤ 8 := fun l => by rw [List.length_take]; omega
  refine ⟨⟨by omega, by omega⟩, ps.drop (ps.length - 4), fun w' hE => conv8 (hs0 (hE1.trans hE)), ⟨by omega, by omega⟩, _, fun w' hE => refMore 0 (by decide) (hb0 (hE1.trans hE)), fun s w' => OwnB [] w' s 5 (lowB 4 (Crc.more 0 (ps.take (ps.length - 4)))), fun s w' w'' hE h => Own.ext h hE, fun w' hE => four _, lowB 4 (Crc.more 0 (ps.take (ps.length - 4))), fun s w' hE h => conv8 (OwnB.rd h), fun hne w2 hE2 => DecR.none (hE1.trans hE2) (by rw [hdec, if_pos hne]), fun heq w2 hE2 => ?_⟩
  have hE02 := hE1.trans hE2
  rw [if_neg heq] at hdec
  refine ⟨⟨by omega, by omega, by omega⟩, _, fun w' hE => refOf (h48 (hE02.trans hE)) (l8 _), ⟨by omega, by omega, by omega⟩, _, fun w' hE => refOf (h128 (hE02.trans hE)) (l8 _), ⟨by omega, by omega⟩, fun w3 B hN3 hE3 hB3 => ?_⟩
  have hps : parseL ps = ((val (((ps.drop 4).take 8).map fun x => x.toNat), val (((ps.drop 12).take 8).map fun x => x.toNat),
    (opsL (ps.take (ps.length - 4)) (strsL (ps.take (ps.length - 4)) ps.length (numL (ps.take (ps.length - 4)) ps.length ⟨20, false⟩).1.toNat [] (numL (ps.take (ps.length - 4)) ps.length ⟨20, false⟩).2).1 (numL (ps.take (ps.length - 4)) 1500 (strsL (ps.take (ps.length - 4)) ps.length (numL (ps.take (ps.length - 4)) ps.length ⟨20, false⟩).1.toNat [] (numL (ps.take (ps.length - 4)) ps.length ⟨20, false⟩).2).2).1.toNat [] (numL (ps.take (ps.length - 4)) 1500 (strsL (ps.take (ps.length - 4)) ps.length (numL (ps.take (ps.length - 4)) ps.length ⟨20, false⟩).1.toNat [] (numL (ps.take (ps.length - 4)) ps.length ⟨20, false⟩).2).2).2).1),
    (opsL (ps.take (ps.length - 4)) (strsL (ps.take (ps.length - 4)) ps.length (numL (ps.take (ps.length - 4)) ps.length ⟨20, false⟩).1.toNat [] (numL (ps.take (ps.length - 4)) ps.length ⟨20, false⟩).2).1 (numL (ps.take (ps.length - 4)) 1500 (strsL (ps.take (ps.length - 4)) ps.length (numL (ps.take (ps.length - 4)) ps.length ⟨20, false⟩).1.toNat [] (numL (ps.take (ps.length - 4)) ps.length ⟨20, false⟩).2).2).1.toNat [] (numL (ps.take (ps.length - 4)) 1500 (strsL (ps.take (ps.length - 4)) ps.length (numL (ps.take (ps.length - 4)) ps.length ⟨20, false⟩).1.toNat [] (numL (ps.take (ps.length - 4)) ps.length ⟨20, false⟩).2).2).2).2.bad) := rfl
  rw [hl]
  generalize val (((ps.drop 4).take 8).map fun x => x.toNat) = x at *
  generalize val (((ps.drop 12).take 8).map fun x => x.toNat) = y at *
  generalize hbs : ps.take (ps.length - 4) = bs at *
  have hbl : bs.length ≤ 65536 := by rw [← hbs, List.length_take]; omega
  generalize hcut : p.cut 1 0 (ps.length - 4) p.c = c at *
  have hE03 := hE02.trans hE3
  have hR3 : Rdr w3 w3 B 70 c bs ⟨20, false⟩ := ⟨Chg.refl _ _, hB3.lt, hB3, (Row.fresh (hb0 hE02) (by decide) hN3.ge).ext hE3⟩
  have hBw : ∀ b ∈ [B], w.heap.size ≤ b := by simpa using Nat.le_trans hE02.size hN3.ge
  have hk0 := numL_range (b := bs) (most := (ps.length : Int)) (by omega) (by omega) ⟨20, false⟩
  refine hR3.numL _ (by simp) fun w4 hR4 hC4 => ⟨_, rfl, ?_⟩
  generalize numL bs ps.length ⟨20, false⟩ = N at *
  refine ⟨fun sa w' => ∃ (all : List Str) (r : Rs), Rdr w3 w' B 70 c bs r ∧ Own [B] w' sa 1 9 (all.map wc) ∧ strsL bs ps.length N.1.toNat [] N.2 = (all, r), ?_, ?_⟩
  · refine ⟨fun sa k w' => ∃ (m : Nat) (all : List Str) (r : Rs), k = (m : Int) ∧ Rdr w3 w' B 70 c bs r ∧ Own [B] w' sa 1 9 (all.map wc) ∧ (∀ b ∈ sa.blk, w3.heap.size ≤ b) ∧ strsL bs ps.length N.1.toNat [] N.2 = strsL bs ps.length m all r ∧ all.length + m ≤ 65536, fun _ k _ => k.toNat,
      ⟨N.1.toNat, [], N.2, by omega, hR4, Own.nil _ _ _ _, by simp [Sl.blk], rfl, by simp; omega⟩, ?_⟩
    rintro sa _ w5 ⟨m, all, r, rfl, hR5, hO5, hb5, heq5, hlen5⟩
    have hOl := hO5.len
    rw [List.length_map] at hOl
    refine ⟨r.bad, fun _ => hR5.box.cell 2 _ rfl, fun hc w6 hE6 => ?_, fun hc => ⟨all, r, hR5, hO5, ?_⟩⟩
    · obtain ⟨k, rfl⟩ : ∃ k, m = k + 1 := ⟨m - 1, by omega⟩
      have hR6 := hR5.ext hE6
      rw [strsL, if_neg (by rw [hc.2]; decide)] at heq5
      refine ⟨c, hR6.box.cell 0 _ rfl, _, hR6.box.cell 1 _ rfl, _, _, _, fun w' hE => refGetText (r.at_ : Int) (ps.length : Int) (by omega) (hR6.rd.ext hE), fun herr w7 hE7 => ⟨B, 2, _, _, rfl, (hR6.ext hE7).box, by simp, (fun _ hb => by cases hb), fun w8 hC8 hB8 => ?_⟩, fun hok w7 hE7 => ⟨B, 1, _, _, rfl, (hR6.ext hE7).box, by simp, (fun _ hb => by cases hb), fun w8 hC8 hB8 w9 B9 hN9 hE9 hB9 => ?_⟩⟩
      · rw [if_pos (by omega)] at heq5
        exact ⟨all, ⟨r.at_, true⟩, ⟨(hR6.ext hE7).chg.trans hC8, hR6.old, hB8, hR6.rd0⟩, (hO5.ext (hE6.trans hE7)).chg hC8 (by simp), heq5⟩
      · rw [if_neg (by omega)] at heq5
        rw [hc.2] at hB8
        have hR8 : Rdr w3 w8 B 70 c bs ⟨(Vint.getText bs r.at_ ps.length).2.1, false⟩ := ⟨(hR6.ext hE7).chg.trans hC8, hR6.old, hB8, hR6.rd0⟩
        have hR9 := hR8.ext hE9
        have hO9 := ((hO5.ext (hE6.trans hE7)).chg hC8 (by simp)).ext hE9
        refine App.runK Try.underlying46 ti_9 rfl (by decide) (.inl hO9) (by simpa using hR9.box.lt) (Own.many (us := [wc (Vint.getText bs r.at_ ps.length).1]) hB9 (by simp [wc]) (by simp [maxLen]) (by simp)).row (ones_wc _) (by simp) (by simp [maxLen]; omega) (by simp; omega) (by simp) fun s' w10 hO10 hC10 hb10 => ?_
        exact ⟨s', rfl, ⟨by omega, by omega⟩, ⟨k, _, _, by omega, hR9.new hC10 fun b hb => hb5 b (Sl.own_blk hb), by simpa using hO10, fun b hb => (hb10 b hb).elim (fun h => hb5 b (Sl.own_blk h)) (fun h => Nat.le_trans (Nat.le_trans hR8.chg.size hE9.size) h), heq5, by simp; omega⟩, by dsimp only; omega⟩
    · rw [heq5]
      exact strsL_end (by
        rcases hc with h | h
        · exact .inl (by omega)
        · exact .inr h)
  rintro sa w5 ⟨all, r, hR5, hO5, hstrs⟩
  have hshort := strsL_short bs ps.length N.1.toNat [] N.2 (by simp)
  rw [hstrs] at hps hshort
  simp only at hps hshort
  have hm0 := numL_range (b := bs) (most := 1500) (by decide) (by decide) r
  refine hR5.numL _ (by simp) fun w6 hR6 hC6 => ⟨_, rfl, ?_⟩
  have hO6 := hO5.chg hC6 (by simp)
  generalize numL bs 1500 r = M at *
  refine ⟨fun sl k w' => ∃ (m : Nat) (L : List OpT) (r : Rs), k = (m : Int) ∧ Rdr w6 w' B 70 c bs r ∧ Own [B] w' sl 7 42 (L.map oc) ∧ (∀ b ∈ sl.blk, w6.heap.size ≤ b) ∧ opsL bs all M.1.toNat [] M.2 = opsL bs all m L r ∧ L.length + m ≤ 1500, fun _ k _ => k.toNat,
    ⟨M.1.toNat, [], M.2, by omega, hR6.base, Own.nil _ _ _ _, by simp [Sl.blk], rfl, by simp; omega⟩, ?_⟩
  rintro sl _ w7 ⟨m, L, r7, rfl, hR7, hO7, hb7, heq7, hlen7⟩
  have hLl := hO7.len
  rw [List.length_map] at hLl
  refine ⟨r7.bad, fun _ => hR7.box.cell 2 _ rfl, fun hc => ?_, fun hc => ?_⟩
  · obtain ⟨k, rfl⟩ : ∃ k, m = k + 1 := ⟨m - 1, by omega⟩
    refine hR7.oneL hO6.row (by simp) fun w8 hR8 hC8 => ⟨_, _, _, _, _, _, _, rfl, fun w9 B9 hN9 hE9 hB9 => ?_⟩
    have hR9 := hR8.ext hE9
    have hO9 := (hO7.chg hC8 (by simp)).ext hE9
    refine App.runK Try.underlying23 ti_42 rfl (by decide) (.inl hO9) (by simpa using hR9.box.lt) (Own.many (us := [oc (oneL bs all r7).1]) hB9 (by simp [oc]) (by simp [maxLen]) (by simp)).row (cones_oc _) (by simp) (by simp [maxLen]; omega) (by simp; omega) (by simp) fun s' w10 hO10 hC10 hb10 => ?_
    refine ⟨s', rfl, ⟨by omega, by omega⟩, ⟨k, L ++ [(oneL bs all r7).1], (oneL bs all r7).2, by omega, hR9.new hC10 fun b hb => hb7 b (Sl.own_blk hb), by simpa using hO10, fun b hb => (hb10 b hb).elim (fun h => hb7 b (Sl.own_blk h)) (fun h => Nat.le_trans (Nat.le_trans hR8.chg.size hE9.size) h), ?_, by simp; omega⟩, by dsimp only; omega⟩
    rw [heq7, opsL, if_neg (by rw [hc.2]; decide)]
  · have hend := opsL_end (b := bs) (all := all) (n := m) (l := L) (r := r7) (by
      rcases hc with h | h
      · exact .inl (by omega)
      · exact .inr h)
    have hpar := opsL_par bs all M.1.toNat [] M.2 (by simp)
    have hsh := opsL_short hshort M.1.toNat [] M.2 (by simp)
    rw [heq7, hend] at hps hpar hsh
    simp only at hps hpar hsh
    have hE7 : Ext w w7 := Chg.fresh (Chg.fresh hE03 hR6.chg hBw) hR7.chg hBw
    refine CallK.ext (refEncode x y hO7.row hpar fun o ho s hs => ?_) ?_
    · have h1 := hsh o ho
      rcases texts_sub o s hs with rfl | rfl <;> omega
    rintro v w8 hE8 ⟨s8, rfl, hO8, _⟩
    rw [hps] at hdec
    simp only at hdec
    refine ⟨s8, _, rfl, r7.bad, (hR7.ext hE8).box.cell 2 _ rfl, (enc x y L).1, fun _ => conv8 (OwnB.rd hO8), ps, fun _ => conv8 (hp.ext (hE7.trans hE8)), fun hbad => DecR.none (hE7.trans hE8) (by rw [hdec, if_pos hbad]), fun hgood => ?_⟩
    rw [hdec, if_neg (by
      rintro ((h | h) | h)
      · rw [hgood.1.1] at h; cases h
      · exact hgood.1.2 h
      · exact hgood.2 h)]
    exact ⟨hE7.trans hE8, sl, rfl, (hO7.less (by simp)).ext hE8, fun b hb => Nat.le_trans (Nat.le_trans hE03.size hR6.chg.size) (hb7 b hb)⟩

theorem fewOps2 {X : List Nat} {w : World} {b : Sl} {l : List OpT} (h : Row X w b 7 (l.map oc)) :
    Calls Try.prog 8 #[b.v] w (Ret fun v w' => Ext w w' ∧ ∃ r : Bool, v = .bool r ∧ (r = true → l.length ≤ 100 ∧ ∀ o ∈ l, o.name.length ≤ 200 ∧ o.text.length ≤ 6000)) := by
  refine law24_few.ok _ ?_
  unfold law24_few.vc
  have hn := h.len
  simp only [List.length_map] at hn
  refine ⟨fun i w' => ∃ k : Nat, i = (k : Int) ∧ k ≤ l.length ∧ Ext w w' ∧ ∀ o ∈ l.take k, o.name.length ≤ 200 ∧ o.text.length ≤ 6000, fun i _ => 100 - i.toNat, ⟨0, rfl, by omega, Chg.refl _ _, by simp⟩, ?_⟩
  rintro _ w1 ⟨k, rfl, hkl, hE, hall⟩
  refine ⟨fun hc => ?_, fun hc => ⟨hE, _, rfl, fun h => ?_⟩⟩
  · obtain ⟨p, hp, hcell⟩ := (h.ext hE).boxed (k := k) (by omega) (d := op0)
    have htk := take_succD l op0 (k := k) (by omega)
    generalize l.getD k op0 = o at hcell htk
    have h5 := hcell 5 (.string (Bs o.name)) rfl
    have h6 := hcell 6 (.string (Bs o.text)) rfl
    refine ⟨⟨by omega, by omega⟩, p, hp, o.name, by rw [Int.toNat_natCast]; exact h5, p, fun _ => ⟨⟨by omega, by omega⟩, hp⟩, o.text, fun _ => by rw [Int.toNat_natCast]; exact h6, fun _ => ⟨hE, false, rfl, fun h => by cases h⟩, fun hg => ⟨⟨by omega, by omega⟩, ⟨k + 1, by omega, by omega, hE, fun q hq => ?_⟩, by dsimp only; omega⟩⟩
    rw [htk, List.mem_append] at hq
    rcases hq with h1 | h1
    · exact hall q h1
    · simp at h1; subst h1; omega
  · have h100 := of_decide_eq_true h
    have hk : k = l.length := by omega
    rw [hk, List.take_length] at hall
    exact ⟨by omega, hall⟩

theorem codecAllLaw {w : World} (x y : Nat) {l p : Sl} {ops : List OpT} {ps : Str} (hl : Row [] w l 7 (ops.map oc)) (hpa : ∀ o ∈ ops, o.par ≤ 9223372036854775807 ∧ o.at_ ≤ 9223372036854775807) (hp : RdB [] w p ps) :
    Calls Try.prog 3 #[.int .u64 (x : Int), .int .u64 (y : Int), l.v, p.v] w (Ret fun v w' => Ext w w' ∧ v = .bool true) := by
  refine law24_CodecAll.ok _ _ _ _ ?_
  unfold law24_CodecAll.vc
  have hpn := hp.len
  refine CallK.ext (fewOps2 hl) ?_
  rintro v w1 hE1 ⟨few, rfl, hfew⟩
  refine ⟨few, rfl, fun _ => CallK.exact (cdcAwake w1) fun w2 hE2 => ⟨_, rfl, hE1.trans hE2, rfl⟩, fun ⟨hf, hp3⟩ => ?_⟩
  obtain ⟨hl100, hshort⟩ := hfew hf
  refine CallK.ext (opsCopy (hl.ext hE1) (by omega)) ?_
  rintro v w2 hE2 ⟨l2, rfl, hO2⟩
  refine ⟨l2, rfl, CallK.ext (encode x y hO2.row hpa) ?_⟩
  rintro v w3 hE3 ⟨e, rfl, hO3, _⟩
  have hE03 := hE1.trans (hE2.trans hE3)
  refine ⟨e, _, rfl, CallK.ext (refEncode x y (hl.ext hE03) hpa fun o ho s hs => ?_) ?_⟩
  · have h1 := hshort o ho
    rcases texts_sub o s hs with rfl | rfl <;> omega
  rintro v w4 hE4 ⟨f, rfl, hO4, _⟩
  have hE04 := hE03.trans hE4
  refine ⟨f, _, rfl, CallK.ext (bytesCopy (hp.ext hE04) (by omega) [] (by simp)) ?_⟩
  rintro v w5 hE5 ⟨c, rfl, hc, _⟩
  refine ⟨c, rfl, CallK.ext (decode (OwnB.rd hc)) ?_⟩
  rintro v w6 hE6 ⟨m, rfl, hm, _⟩
  have hE06 := hE04.trans (hE5.trans hE6)
  have hdl := refDecode (hp.ext hE06)
  rw [decL_eq] at hdl
  refine ⟨_, _, m, _, rfl, CallK.ext hdl ?_⟩
  rintro v w7 hE7 ⟨n, rfl, hn, _⟩
  refine ⟨_, _, n, _, rfl, (enc x y ops).1, conv8 (OwnB.rd (Own.ext hO3 (hE4.trans (hE5.trans (hE6.trans hE7))))), (enc x y ops).1, conv8 (OwnB.rd (Own.ext hO4 (hE5.trans (hE6.trans hE7)))), true, fun _ => ?_, fun w8 hE8 => ⟨true, fun _ => cdcAwake w8, fun w9 hE9 => ⟨hE06.trans (hE7.trans (hE8.trans hE9)), ?_⟩⟩⟩
  · refine Ret.mono (sameOps (hm.ext hE7).row hn.row) ?_
    rintro v w' ⟨h1, r, rfl, h2⟩
    exact ⟨h1, by rw [h2 rfl]⟩
  · simp
end


end Go.Proofs.Yteacalmdpoblpaa
