/-
  What the proof of the statement leans on: texts one behind the other.
-/
import Derived.Test.YtghmgfkdnolcdaaGreatQApplyAll2
import Derived.Test.YtghmgfkdnolcdaaGreatQApplyAllGref05
import Derived.Test.YtghmgfkdnolcdaaGreatQApplyAllGref04
import Derived.Test.YtghmgfkdnolcdaaGreatQApplyAllGref06P1
import Derived.Test.YtghmgfkdnolcdaaGreatQApplyAllGref06P2
import Derived.Laws.MakeOwn
namespace Go.Proofs.YtghmgfkdnolcdaaGreat
section
open Go.RowKit Go.MapKept
theorem ones_ndc (x : Nd) : ∀ u ∈ [ndc x].flatten, u.oneCell' = true := by intro u hu; simp [ndc] at hu; rcases hu with rfl | rfl | rfl | rfl | rfl | rfl | rfl | rfl <;> rfl
section
variable {A : List Nat} {w : World} {D : Nat} {l : Sl} {M : Nat} {m : List (Int × Value)} {X : List Nd}
theorem domPut {B : List Nat} {sa sk : Sl} {ats : List (Str × Str)} (h : Arena A w D l M m X) (hA : ∀ b ∈ A, b < w.heap.size) {id : Int} (hid : ∀ y ∈ X, y.r.id ≠ id) (ha : Row B w sa 2 (ats.map ac)) (hats : ats.length ≤ 1000000) (hX : X.length + 1 ≤ 1000000) (par kind : Int) (name text : Str) :
  Calls Tryz.prog 66 #[.pointer (some ⟨D, 0, none⟩), .int .i64 id, .int .i64 par, .agg #[.int .i64 kind, .string (Bs name), .string (Bs text), sa.v, sk.v]] w (Ret fun v w' => Mod A w w' ∧ v = .tuple #[] ∧ ∃ l' m' x, Arena A w' D l' M m' (X ++ [x]) ∧ x.r = ⟨id, par, kind, name, text, ats, []⟩) := by
 refine dom_Dom_put.ok _ _ _ _ _ _ _ _ ?_
 unfold dom_Dom_put.vc
 intro w1 B1 hN1 hE1
 have hb1 := hN1.ge
 have hDlt := h.box.lt
 have hMlt := h.map.lt
 have hn := h.row.len
 rw [List.length_map] at hn
 refine CallK.ext (cloneAttrs (ha.ext hE1) (by omega)) ?_
 rintro v w2 hE2 ⟨s, rfl, hs⟩
 refine ⟨s, rfl, fun w3 hC3 => ?_⟩
 have hE02 := hE1.trans hE2
 have hE03 : Ext w w3 := Chg.fresh hE02 hC3 (by simpa using hb1)
 have h3 := h.ext hE03
 have hs3 : Own (List.range w1.heap.size) w3 s 2 63 (ats.map ac) := hs.chg hC3 fun b hb => by simp only [List.mem_singleton] at hb; rw [hb]; exact List.mem_range.2 hN1.lt
 refine ⟨some M, by rw [Addr.add_lit]; exact h3.box.cell 1 _ rfl, l, by rw [Addr.add_lit]; exact h3.box.cell 0 _ rfl, fun w4 hE4 => ?_⟩
 have h4 := h3.ext hE4
 have hE04 := hE03.trans hE4
 have hMD : M ≠ D := h4.map.box h4.box
 refine mapUpdate_run keyNum numV_inj Tryz.underlying81 Tryz.underlying3 h4.map id (numV (l.n : Int)) (by simp; omega) fun w5 hC5 hM5 w6 hE6 => ?_
 have hM6 := hM5.ext hE6
 have hbox6 : Box w6 D 84 [l.v, .map (some M)] := (h4.box.keep hC5 (by simpa using hMD.symm)).ext hE6
 refine ⟨l, by rw [Addr.add_lit]; exact hbox6.cell 0 _ rfl, fun w7 B7 hE7 hB7 hbox7 _ => ?_⟩
 have hrow7 : Own (B1 :: A) w7 l 8 88 (X.map ndc) := (((h4.row.keep hC5 (fun b hb hm => h4.row.noMap h4.map (by simp only [List.mem_singleton] at hm; exact hm ▸ hb))).ext hE6).ext hE7).cons fun hm => by
  have := (h.row.blk _ hm).2; omega
 have hsz4 := hE04.size
 have hsz7 : w.heap.size ≤ w7.heap.size := Nat.le_trans (Nat.le_trans hE04.size hC5.size) (Nat.le_trans hE6.size hE7.size)
 have h17 : w1.heap.size ≤ w7.heap.size := by have := hE2.size; have := hC3.size; have := hE4.size; have := hC5.size; have := hE6.size; have := hE7.size; omega
 let x : Nd := ⟨⟨id, par, kind, name, text, ats, []⟩, s, Sl.nil⟩
 have hone : Own [] w7 (Sl.mk (some ⟨B7, 0, none⟩) 1 1) 8 88 [ndc x] := Own.one (A := []) (cs := ndc x) hbox7 (by simp)
 refine App.runK Tryz.underlying82 ti_88 rfl (by decide) (.inl hrow7) (fun b hb => ?_) hone.row (ones_ndc x) (by simp) (by simp only [maxLen, List.length_singleton]; omega) (by simp only [List.length_singleton]; omega) (by simp) fun l' w8 hrow8 hC8 hbl8 => ⟨l', rfl, fun w9 hE9 w10 hE10 => ?_⟩
 ·rcases List.mem_cons.1 hb with rfl | hb
  ·have := hN1.lt; omega
  ·have := hA b hb; omega
 have hE810 := hE9.trans hE10
 have hDl : D ∉ l.own := fun hm => (h.row.other h.box (by decide)) (Sl.own_blk hm)
 have hbox10 : Box w10 D 84 [l.v, .map (some M)] := ((hbox6.ext hE7).keep hC8 hDl).ext hE810
 refine ⟨D, 0, 84, _, by rw [Addr.add_lit], hbox10, by simp, by simp; omega, fun w11 hC11 hB11 => ?_⟩
 have hmod : Mod A w w11 := by
  have m1 : Mod A w w4 := Mod.ext hE04
  have m2 : Mod A w4 w5 := Mod.of hC5 (by simpa using h.mA)
  have m3 : Mod A w5 w7 := Mod.ext (hE6.trans hE7)
  have m4 : Mod A w7 w8 := Mod.of hC8 fun b hb => (h.row.blk b (Sl.own_blk hb)).1
  have m5 : Mod A w10 w11 := Mod.of hC11 (by simpa using h.dA)
  exact ((((m1.trans m2).trans m3).trans m4).trans (Mod.ext hE810)).trans m5
 have kp : ∀ {s : Sl} {size : Nat} {T : TypeId} {vs : List (List Value)}, T ≠ 84 → T ≠ 88 → Own A w s size T vs → Own A w11 s size T vs := fun {s size T vs} h1 h2 ho => by
  have a1 := ho.ext hE04
  have a2 := a1.keep hC5 fun b hb hm => a1.noMap h4.map (by simp only [List.mem_singleton] at hm; exact hm ▸ hb)
  have a3 := (a2.ext hE6).ext hE7
  have a4 := (a3.keep hC8 fun b hb hm => (a3.apart hrow7 h2) b hb (Sl.own_blk hm)).ext hE810
  exact a4.keep hC11 fun b hb hm => (a4.other hbox10 h1) (by simp only [List.mem_singleton] at hm; exact hm ▸ hb)
 have hs11 : Own A w11 s 2 63 (ats.map ac) := by
  have a1 := hs3.ext hE4
  have a2 := a1.keep hC5 fun b hb hm => a1.noMap h4.map (by simp only [List.mem_singleton] at hm; exact hm ▸ hb)
  have a3 := (a2.ext hE6).ext hE7
  have a4 := (a3.keep hC8 fun b hb hm => (a3.apart hrow7 (by decide)) b hb (Sl.own_blk hm)).ext hE810
  have a5 := a4.keep hC11 fun b hb hm => (a4.other hbox10 (by decide)) (by simp only [List.mem_singleton] at hm; exact hm ▸ hb)
  exact a5.less fun b hb => List.mem_range.2 (by have := hA b hb; have := hE1.size; omega)
 have hrow11 : Own A w11 l' 8 88 ((X ++ [x]).map ndc) := by
  have a1 := hrow8.ext hE810
  have a2 := a1.keep hC11 fun b hb hm => (a1.other hbox10 (by decide)) (by simp only [List.mem_singleton] at hm; exact hm ▸ hb)
  rw [List.map_append]
  exact a2.less fun b hb => List.mem_cons_of_mem _ hb
 have hM11 := (((hM6.ext hE7).chg hC8 (fun hm => h.row.noMap h.map (Sl.own_blk hm))).ext hE810).chg hC11 (by simpa using hMD)
 refine ⟨hmod, rfl, l', _, x, h.push x hid hB11 hrow11 hmod (fun y hy => ⟨kp (by decide) (by decide) (h.sa y hy), kp (by decide) (by decide) (h.sk y hy)⟩) hs11 (Own.nil _ _ _ _) (fun b hb => ?_) (by simp [x, Sl.blk]) ⟨hats, by simp [x]⟩ hM11 (by rw [hn]) hX, rfl⟩
 have := (hs.blk b hb).1
 have h1 := hE1.size
 simp at this; omega
end
theorem numL_append : ∀ (ks js : List T) (i : Nat), I.numL (ks ++ js) i = I.numL ks i ++ I.numL js (i + (ks.map T.size).sum)
 |[], js, i => by rw [List.nil_append, I.numL]; rfl
 |t :: r, js, i => by
  rw [List.cons_append, I.numL, I.numL, numL_append r js, List.cons_append, List.map_cons, List.sum_cons, Nat.add_assoc]
theorem numL_snoc {ks : List T} {k : Nat} (h : k < ks.length) (i : Nat) : I.numL (ks.take (k + 1)) i = I.numL (ks.take k) i ++ [I.num (ks.getD k T.nul) (i + ((ks.take k).map T.size).sum)] := by
 rw [take_getD h, numL_append, I.numL, I.numL]
theorem recs_len (u : I) (p : Int) : (u.recs p).length = u.toT.size := by rw [I.size_ids, ← I.recs_id u p, List.length_map]
theorem numL_len : ∀ (ks : List T) (i : Nat) (p : Int), ((I.numL ks i).flatMap fun u => u.recs p).length = (ks.map T.size).sum
 |[], i, p => by rw [I.numL]; rfl
 |t :: r, i, p => by
  rw [I.numL, List.flatMap_cons, List.length_append, numL_len r, recs_len, I.num_toT]; rfl
theorem domLay {D M : Nat} : ∀ (t : T), t.span ≤ 900000 → ∀ {A : List Nat} {w : World} {l : Sl} {m : List (Int × Value)} {X : List Nd} {sa sk : Sl} (par : Int), Arena A w D l M m X → (∀ b ∈ A, b < w.heap.size) → Safe A w t sa sk → (∀ y ∈ X, y.r.id < X.length) → X.length + t.size ≤ 300 →
  Calls Tryz.prog 60 #[.pointer (some ⟨D, 0, none⟩), tv t sa sk, .int .i64 par] w (Ret fun v w' => Mod A w w' ∧ v = .int .i64 (X.length : Int) ∧ ∃ l' m' Y, Arena A w' D l' M m' (X ++ Y) ∧ Y.map Nd.r = (I.num t X.length).recs par) := T.ind' fun t ih hb A w l m X sa sk par h hA hS hids hsz => by
 refine dom_Dom_lay.ok _ _ _ _ _ _ _ ?_
 unfold dom_Dom_lay.vc
 intro w1 B1 hN1 hE1
 have hb1 := hN1.ge
 have hn := h.row.len
 rw [List.length_map] at hn
 have hat : t.attrs.length ≤ 1000000 := by have := T.attrs_span t; omega
 have hkl := T.kids_span t
 have hts := T.size_eq t
 have hnk := hS.nkids
 have hA1 : ∀ b ∈ B1 :: A, b < w1.heap.size := fun b hb => by
  rcases List.mem_cons.1 hb with rfl | hb
  ·exact hN1.lt
  ·have := hA b hb; have := hE1.size; omega
 have h1 : Arena (B1 :: A) w1 D l M m X := (h.wide (A' := B1 :: A) fun b hb => by
  rcases List.mem_cons.1 hb with rfl | hb
  ·exact .inr hb1
  ·exact .inl hb).ext hE1
 have hS1 : Safe (B1 :: A) w1 t sa sk := (hS.mod (Mod.ext hE1)).more fun x hx => List.mem_cons_of_mem _ hx
 refine ⟨l, by rw [Addr.add_lit]; exact h1.box.cell 0 _ rfl, ?_⟩
 have hput := domPut (sk := sk) h1 hA1 (id := (l.n : Int)) (fun y hy => by have := hids y hy; omega) hS1.attrs hat (by omega) par t.kind t.name t.text
 refine CallK.mod hput (by simp) ?_
 rintro v w2 hM2 ⟨rfl, l2, m2, x0, h2, hx0⟩
 refine ⟨rfl, fun j w' => ∃ (k : Nat) (l' : Sl) (m' : List (Int × Value)) (x : Nd) (Y : List Nd), j = (k : Int) ∧ k ≤ t.kids.length ∧ Arena (B1 :: A) w' D l' M m' (X ++ x :: Y) ∧ x.r = ⟨(X.length : Int), par, t.kind, t.name, t.text, t.attrs, (I.numL (t.kids.take k) (X.length + 1)).map I.id⟩ ∧ Y.map Nd.r = (I.numL (t.kids.take k) (X.length + 1)).flatMap (fun u => u.recs (X.length : Int)) ∧ Mod (B1 :: A) w1 w', fun j _ => t.kids.length - j.toNat,
  ⟨0, l2, m2, x0, [], rfl, by omega, h2, by rw [hx0, hn]; simp [I.numL], by simp [I.numL], hM2⟩, ?_⟩
 rintro _ w3 ⟨k, l3, m3, x, Y, rfl, hk, h3, hx, hY, hM3⟩
 have hsz3 := hM3.size
 have hYl : Y.length = ((t.kids.take k).map T.size).sum := by rw [← List.length_map (f := Nd.r), hY, numL_len]
 have hsum : ((t.kids.take k).map T.size).sum ≤ (t.kids.map T.size).sum := sum_take_le T.size _ _
 have hidx : ∀ z ∈ X ++ x :: Y, z.r.id < ((X ++ x :: Y).length : Int) := fun z hz => by
  rw [List.length_append, List.length_cons]
  rcases List.mem_append.1 hz with hz | hz
  ·have := hids z hz; omega
  ·rcases List.mem_cons.1 hz with rfl | hz
   ·rw [hx]; simp only; omega
   ·have hm : z.r.id ∈ (Y.map Nd.r).map Rec.id := List.mem_map_of_mem (List.mem_map_of_mem hz)
    rw [hY, I.map_flatMap_congr (fun v _ => I.recs_id v _), I.numL_ids _ (fun u _ => I.num_ids u)] at hm
    obtain ⟨q, hq, e⟩ := List.mem_map.1 hm
    have := List.mem_range'_1.1 hq
    omega
 refine ⟨fun hlt => ?_, fun hge => ⟨?_, by rw [hn], l3, m3, x :: Y, h3.wide (fun b hb => .inl (List.mem_cons_of_mem _ hb)), ?_⟩⟩
 ·have hk' : k < t.kids.length := by omega
  have hS3 : Safe (B1 :: A) w3 t sa sk := hS1.mod hM3
  obtain ⟨p, sau, sku, hp, _, hc, hru⟩ := hS3.kid hk'
  rw [Int.toNat_natCast]
  have hm := getD_mem (d := T.nul) hk'
  have hsk := sum_take T.size hk'
  have hs2 : ((t.kids.take (k + 1)).map T.size).sum ≤ (t.kids.map T.size).sum := sum_take_le T.size _ _
  refine ⟨⟨by omega, hlt⟩, p, hp, _, _, _, sau, sku, hc, fun w4 B4 hN4 hE4 => ?_⟩
  have hb4 := hN4.ge
  have hA4 : ∀ b ∈ B4 :: B1 :: A, b < w4.heap.size := fun b hb => by
   rcases List.mem_cons.1 hb with rfl | hb
   ·exact hN4.lt
   ·have := hA1 b hb; have := hE4.size; omega
  have h4 : Arena (B4 :: B1 :: A) w4 D l3 M m3 (X ++ x :: Y) := (h3.wide (A' := B4 :: B1 :: A) fun b hb => by
   rcases List.mem_cons.1 hb with rfl | hb
   ·exact .inr hb4
   ·exact .inl hb).ext hE4
  have hSu : Safe (B4 :: B1 :: A) w4 (t.kids.getD k T.nul) sau sku := (Safe.mod (A := B1 :: A) hru (Mod.ext hE4)).more fun b hb => List.mem_cons_of_mem _ hb
  have hcall := ih _ hm (by have := T.kid_span hm; omega) (X.length : Int) h4 hA4 hSu hidx (by rw [List.length_append, List.length_cons]; omega)
  rw [hn]
  refine CallK.mod hcall (by simp) ?_
  rintro v w5 hM5 ⟨rfl, l5, m5, Y5, h5, hY5⟩
  have hlen : (X ++ x :: Y).length = X.length + 1 + ((t.kids.take k).map T.size).sum := by rw [List.length_append, List.length_cons, hYl]; omega
  refine ⟨_, rfl, fun w6 hE6 => ?_⟩
  have h6 := h5.ext hE6
  have hX6 : (X ++ x :: Y ++ Y5)[X.length]? = some x := by simp
  obtain ⟨g, hg, hgb, hcx⟩ := h6.at hX6
  have hxm := List.mem_of_getElem? hX6
  have hn5 := h6.row.len
  rw [List.length_map, List.length_append, hlen] at hn5
  refine ⟨l5, by rw [Addr.add_lit]; exact h6.box.cell 0 _ rfl, l5, by rw [Addr.add_lit]; exact h6.box.cell 0 _ rfl, ⟨g, 0, none⟩, ⟨⟨by omega, by omega⟩, hg⟩, x.sk, ?_, fun w7 B7 hE7 hB7 hbox7 _ => ?_⟩
  ·rw [Int.toNat_natCast, Addr.add_lit, Nat.zero_add]; exact hcx 7 _ rfl
  have h7 := h6.ext hE7
  have hk7 := h7.sk x hxm
  have hxk : x.r.kids.length ≤ 300 := by
   rw [hx]; simp only [List.length_map]
   have hnl : ∀ (ks : List T) (i : Nat), (I.numL ks i).length = ks.length := fun ks => by
    induction ks with
    |nil => intro i; rw [I.numL]; rfl
    |cons a r ih => intro i; rw [I.numL, List.length_cons, ih]; rfl
   rw [hnl, List.length_take]; have := len_sizes t.kids; omega
  have hkn := hk7.len
  rw [List.length_map] at hkn
  have hbox7' : Box w7 B7 3 (ic (((X ++ x :: Y).length : Nat) : Int)) := hbox7
  refine App.runK Tryz.underlying78 ti_3 rfl (by decide) (.inl hk7) (fun b hb => by have := hA4 b hb; have := hM5.size; have := hE6.size; have := hE7.size; omega) (Own.one (A := []) hbox7' (by simp)).row (ones_ics [_]) (by simp) (by simp only [maxLen, List.length_singleton]; omega) (by simp only [List.length_singleton]; omega) (by simp) fun r w8 ho8 hC8 hbl8 => ⟨r, rfl, ?_⟩
  have honly := fun b (hb : b ∈ x.sk.own) => h7.only hX6 (b := b) (.inr (Sl.own_blk hb))
  have hD8 : Box w8 D 84 [l5.v, .map (some M)] := h7.box.keep hC8 fun hm => (honly D hm).2.1 rfl
  obtain ⟨cur, hcur, hcurl⟩ : ∃ cur, Box w7 g 88 cur ∧ cur.length = l5.c * 8 := by
   rcases h7.row.at_ with e | ⟨g', cur, e1, _, e3, e4, _⟩
   ·rw [e] at hg; cases hg
   ·rw [hg] at e1; cases e1; exact ⟨cur, e3, e4⟩
  have hcur8 : Box w8 g 88 cur := hcur.keep hC8 fun hm => (honly g hm).2.2.2.1 (by rw [hgb]; simp)
  have hcx7 : Cells w7 ⟨g, X.length * 8, none⟩ (ndc x) := hcx.ext hE7
  have hcx8 : Cells w8 ⟨g, X.length * 8, none⟩ (ndc x) := hcx7.chg hC8 fun hm => (honly g hm).2.2.2.1 (by rw [hgb]; simp)
  refine ⟨by rw [Addr.add_lit]; exact hD8.cell 0 _ rfl, by rw [Addr.add_lit]; exact hD8.cell 0 _ rfl, by rw [Int.toNat_natCast, Addr.add_lit, Nat.zero_add]; exact hcx8 7 _ rfl, fun w9 hE9 => ⟨⟨g, 0, none⟩, ⟨⟨by omega, by omega⟩, hg⟩, fun w10 hE10 => ?_⟩⟩
  have hE810 := hE9.trans hE10
  have hcap := h7.row.cap
  have hroom : X.length * 8 + 7 + 1 ≤ cur.length := by rw [hcurl]; omega
  refine ⟨g, X.length * 8 + 7, 88, cur, by rw [Int.toNat_natCast, Addr.add_lit, Addr.add_lit, Nat.zero_add], hcur8.ext hE810, hroom, by simp, fun w11 hC11 hB11 => ⟨⟨by omega, by omega⟩, ?_, by dsimp only; omega⟩⟩
  let x' : Nd := ⟨{ x.r with kids := x.r.kids ++ [((X ++ x :: Y).length : Int)] }, x.sa, r⟩
  have hsa8 : Own (B4 :: B1 :: A) w10 x'.sa 2 63 (x'.r.attrs.map ac) := ((h7.sa x hxm).keep hC8 fun b hb hm => ((h7.sa x hxm).apart hk7 (by decide)) b hb (Sl.own_blk hm)).ext hE810
  have hsk8 : Own (B4 :: B1 :: A) w10 x'.sk 1 3 (x'.r.kids.map ic) := by
   show Own _ _ _ _ _ ((x.r.kids ++ [((X ++ x :: Y).length : Int)]).map ic)
   rw [List.map_append]
   exact ho8.ext hE810
  obtain ⟨hup, hupC⟩ := h7.upd hX6 x' rfl (hC8.trans (hE810.mono (by simp))) (fun b hb => .inr (.inl (Sl.own_blk hb))) hsa8 hsk8 (fun b hb => .inl hb) (fun b hb => (hbl8 b hb).imp Sl.own_blk id) ⟨(h7.fit x hxm).1, by simp only [x', List.length_append, List.length_singleton]; omega⟩ hg (hcur8.ext hE810) hC11 hB11 (by simp) rfl
  have hset : (X ++ x :: Y ++ Y5).set X.length x' = X ++ x' :: (Y ++ Y5) := by simp
  rw [hset] at hup
  refine ⟨k + 1, l5, m5, x', Y ++ Y5, by omega, by omega, hup.wide (fun b hb => .inl (List.mem_cons_of_mem _ hb)), ?_, ?_, ?_⟩
  ·show ({ x.r with kids := _ } : Rec) = _
   rw [hx, numL_snoc hk', List.map_append, hlen]
   simp only [List.map_cons, List.map_nil, I.num_id]
  ·rw [List.map_append, hY, hY5, numL_snoc hk', List.flatMap_append, hlen]
   simp
  ·have m1 : Mod (B1 :: A) w4 w5 := hM5.less fun b hb => List.mem_cons_of_mem _ hb
   have m2 : Mod (B1 :: A) w7 w11 := (Mod.of hupC fun b hb => by
    rcases List.mem_cons.1 hb with rfl | hb
    ·exact (h7.row.blk b (by rw [hgb]; simp)).1
    ·exact (honly b hb).1).less fun b hb => List.mem_cons_of_mem _ hb
   exact (((hM3.trans (Mod.ext hE4)).trans m1).trans (Mod.ext (hE6.trans hE7))).trans m2
 ·exact (Mod.ext hE1).trans (hM3.less fun b hb => List.mem_cons_of_mem _ hb)
 ·have hkl' : k = t.kids.length := by omega
  subst hkl'
  rw [List.take_length] at hx hY
  rw [List.map_cons, hY, I.recs_eq, hx, I.num_eq]
  rfl
theorem domNew {X0 : List Nat} {w : World} {t : T} {sa sk : Sl} (hr : RdT X0 w t sa sk) (hb : t.span ≤ 900000) :
  Calls Tryz.prog 27 #[tv t sa sk] w (Ret fun v w' => Ext w w' ∧ ((t.check = false ∧ v = .tuple #[.pointer none, .int .i64 1]) ∨ (t.check = true ∧ ∃ D, v = .tuple #[.pointer (some ⟨D, 0, none⟩), .int .i64 0] ∧ Dom (List.range w.heap.size) w' D (I.num t 0)))) := by
 refine dom_New.ok _ _ _ _ _ ?_
 unfold dom_New.vc
 intro w1 B1 hN1 hE1
 have hb1 := hN1.ge
 refine CallK.exact (treeCheckS (t := t) (by omega) (hr.ext hE1)) fun w2 hE2 => ⟨_, rfl, fun hf => ⟨hE1.trans hE2, .inl ⟨hf, rfl⟩⟩, fun ht => ?_⟩
 refine makeMap_run numV (.int .i64) fun M w3 hE3 hM3 hMap => ⟨some M, rfl, fun w4 D hN4 hE4 hbox => ?_⟩
 have hE14 := (hE2.trans hE3).trans hE4
 have hE04 := hE1.trans hE14
 have hD := hN4.ge
 have hsz12 := hE2.size
 have hsz3 := hE3.size
 have hA0 : ∀ b ∈ List.range w1.heap.size, b < w4.heap.size := fun b hb => by have := List.mem_range.1 hb; have := hE14.size; omega
 have hAr : Arena (List.range w1.heap.size) w4 D Sl.nil M [] [] := by
  refine ⟨hbox, fun hm => ?_, fun hm => ?_, Own.nil _ _ _ _, by simp, by simp, by simp, hMap.ext hE4, fun k => rfl, by simp, by simp, by simp, by simp⟩
  ·have := List.mem_range.1 hm; omega
  ·have := List.mem_range.1 hm; omega
 have hS : Safe (List.range w1.heap.size) w4 t sa sk := (Safe.of (hr.ext hE1) fun x hx => List.mem_range.2 hx).mod (Mod.ext hE14)
 have hs : t.size ≤ 300 := by
  unfold T.check at ht
  simp only [Bool.and_eq_true, decide_eq_true_eq] at ht
  exact ht.1.1.1.1.2
 refine CallK.mod (domLay t hb (-1) hAr hA0 hS (by simp) (by simpa using hs)) (fun b hb => ?_) ?_
 ·simp only [List.mem_singleton] at hb; subst hb; exact List.mem_range.2 hN1.lt
 rintro v w5 hM5 ⟨rfl, l', m', Y, h5, hY⟩
 refine ⟨_, rfl, Mod.fresh hE04 hM5 (fun x hx => List.mem_range.2 (by have := hE1.size; omega)), .inr ⟨ht, D, rfl, l', M, m', Y, ?_, by rw [hY]; exact List.Perm.refl _, I.num_okay ht⟩⟩
 rw [List.nil_append] at h5
 exact h5.wide fun b hb => .inl (List.mem_range.2 (by have := List.mem_range.1 hb; have := hE1.size; omega))
end
section
open Go.RowKit Go.MapKept
theorem set_recs {X : List Nd} {j : Nat} {y y' : Nd} (hn : (X.map fun x => x.r.id).Nodup) (hj : X[j]? = some y) (G : Rec → Rec) (hG : y'.r = G y.r) (hid : ∀ z : Rec, z.id ≠ y.r.id → G z = z) : (X.set j y').map Nd.r = (X.map Nd.r).map G := by
 apply List.ext_getElem?
 intro k
 rw [List.getElem?_map, List.getElem?_map, List.getElem?_map, List.getElem?_set]
 by_cases h : j = k
 ·subst h
  obtain ⟨h1, _⟩ := List.getElem?_eq_some_iff.1 hj
  rw [if_pos rfl, if_pos h1, hj]
  simp [hG]
 ·rw [if_neg h]
  cases hx : X[k]? with
  |none => rfl
  |some z =>
   have hne : z.r.id ≠ y.r.id := fun e => h (getNd hn hj hx rfl e).1
   simp [hid z.r hne]
section
variable {A : List Nat} {w : World} {D : Nat} {l : Sl} {M : Nat} {m : List (Int × Value)} {X : List Nd}
theorem Arena.cur (h : Arena A w D l M m X) {g : Nat} (hg : l.a = some ⟨g, 0, none⟩) : ∃ cur, Box w g 88 cur ∧ ∀ {i : Nat} {x : Nd}, X[i]? = some x → i * 8 + 8 ≤ cur.length := by
 rcases h.row.at_ with e | ⟨g', cur, e1, _, e3, e4, _⟩
 ·rw [e] at hg; cases hg
 ·rw [hg] at e1; cases e1
  refine ⟨cur, e3, fun {i x} hi => ?_⟩
  have h1 := h.row.len
  have h2 := h.row.cap
  rw [List.length_map] at h1
  have := (List.getElem?_eq_some_iff.1 hi).1
  rw [e4]; omega
theorem domParA (h : Arena A w D l M m X) {i : Nat} {x : Nd} (hi : X[i]? = some x) : Calls Tryz.prog 92 #[.pointer (some ⟨D, 0, none⟩), .int .i64 x.r.id] w (Ret fun v w' => Ext w w' ∧ v = .int .i64 x.r.par) := by
 refine dom_Dom_Parent.ok _ _ ?_
 unfold dom_Dom_Parent.vc
 refine CallK.ext (domNode h x.r.id) ?_
 rintro v w1 hE1 (⟨hn, rfl⟩ | ⟨j, y, g, hj, hy, hg, rfl⟩)
 ·exact absurd rfl (hn x (List.mem_of_getElem? hi))
 ·obtain ⟨rfl, rfl⟩ := getNd h.nodup hj hi hy rfl
  obtain ⟨g', hg', _, hc⟩ := (h.ext hE1).at hi
  rw [hg] at hg'; cases hg'
  exact ⟨some ⟨g, j * 8, none⟩, rfl, fun hb => (by cases hb), fun _ => ⟨_, rfl, _, hc 1 _ rfl, hE1, rfl⟩⟩
theorem domOut (h : Arena A w D l M m X) {i j : Nat} {x y : Nd} (hi : X[i]? = some x) (hj : X[j]? = some y) (hy : y.r.id = x.r.par) :
  Calls Tryz.prog 68 #[.pointer (some ⟨D, 0, none⟩), .int .i64 x.r.id] w (Ret fun v w' => Mod A w w' ∧ v = .tuple #[] ∧ ∃ y', Arena A w' D l M m (X.set j y') ∧ y'.r = { y.r with kids := y.r.kids.filter fun k => decide (k ≠ x.r.id) }) := by
 refine dom_Dom_out.ok _ _ ?_
 unfold dom_Dom_out.vc
 intro w1 B1 hN1 hE1
 have hb1 := hN1.ge
 refine CallK.exact (domParA (h.ext hE1) hi) fun w2 hE2 => ⟨_, rfl, ?_⟩
 refine CallK.ext (domNode (h.ext (hE1.trans hE2)) x.r.par) ?_
 rintro v w3 hE3 (⟨hn, rfl⟩ | ⟨j', z, g, hj', hz, hg, rfl⟩)
 ·exact absurd hy (hn y (List.mem_of_getElem? hj))
 obtain ⟨rfl, rfl⟩ := getNd h.nodup hj' hj hz hy
 have hE03 := (hE1.trans hE2).trans hE3
 have h3 := h.ext hE03
 obtain ⟨g', hg', hgb, hc⟩ := h3.at hj
 rw [hg] at hg'; cases hg'
 have hzm := List.mem_of_getElem? hj
 have hk3 := h3.sk z hzm
 refine ⟨_, rfl, _, rfl, z.sk, hc 7 _ rfl, fun hbox => ?_⟩
 have hap : B1 ∉ z.sk.blk := fun hm => by have := ((h.sk z hzm).blk B1 hm).2; omega
 refine CallK.chg (deleteInts hk3 (by have := (h.fit z hzm).2; omega) (hbox.cell 0 _ rfl) hap) (by simp) ?_
 rintro v w4 hC4 ⟨s', rfl, hs', hbs'⟩
 obtain ⟨cur, hcur, hlen⟩ := h3.cur hg
 have hl8 := hlen hj
 have honly := fun b (hb : b ∈ z.sk.blk) => h3.only hj (b := b) (.inr hb)
 have hcur4 : Box w4 g 88 cur := hcur.keep hC4 fun hm => (honly g hm).2.2.2.1 (by rw [hgb]; simp)
 refine ⟨s', rfl, _, rfl, g, j' * 8 + 7, 88, cur, by rw [Addr.add_lit], hcur4, by omega, by simp, fun w5 hC5 hB5 => ?_⟩
 let y' : Nd := ⟨{ z.r with kids := z.r.kids.filter fun k => decide (k ≠ x.r.id) }, z.sa, s'⟩
 obtain ⟨hup, hupC⟩ := h3.upd hj y' rfl hC4 (fun b hb => .inr (.inl hb)) ((h3.sa z hzm).keep hC4 fun b hb hm => ((h3.sa z hzm).apart hk3 (by decide)) b hb hm) hs' (fun b hb => .inl hb) (fun b hb => .inl (hbs' b hb)) ⟨(h.fit z hzm).1, Nat.le_trans (List.length_filter_le _ _) (h.fit z hzm).2⟩ hg hcur4 hC5 hB5 (by simp) rfl
 refine ⟨(Mod.ext hE03).trans (Mod.of hupC fun b hb => ?_), rfl, y', hup, rfl⟩
 rcases List.mem_cons.1 hb with rfl | hb
 ·exact (h3.row.blk b (by rw [hgb]; simp)).1
 ·exact (honly b hb).1
end
theorem domHolds {w : World} {p : Addr} {k : Int} (h : w.cell? ((p.add 2).add 0) = some (.int .i64 k)) (kind : Int) : Calls Tryz.prog 64 #[.pointer (some p), .int .i64 kind] w (Ret fun v w' => Ext w w' ∧ v = .bool (I.holds k kind)) := by
 refine dom_node_holds.ok _ _ ?_
 unfold dom_node_holds.vc
 refine ⟨k, h, k, fun _ => h, Chg.refl _ _, ?_⟩
 unfold I.holds
 by_cases h5 : kind = 5 <;> simp [h5]
def leaf (id kind : Int) (name text : Str) : I := .node id kind name text [] []
def oneT (kind : Int) (name text : Str) : T := .node 1 [] [] [] [.node kind name text [] []]
def insBad (R : I) (id kind : Int) (name text : Str) : Bool := (R.find id).isSome || decide (id < 1) || decide (1048576 < id) || !(oneT kind name text).check
def insE (R : I) (id p at_ kind : Int) (name text : Str) : Int :=
 if insBad R id kind name text = true then 1 else if 300 ≤ R.ids.length then 2 else match R.find p with
  |none => 3
  |some e => if I.holds e.1.kind kind = false then 4 else if at_ < 0 ∨ (e.1.kids.length : Int) < at_ then 5 else if 60 ≤ e.2.2 then 2 else 0
theorem leaf_toT (id kind : Int) (name text : Str) : (leaf id kind name text).toT = .node kind name text [] [] := by rw [leaf, I.toT_eq]; rfl
theorem leaf_ids (id kind : Int) (name text : Str) : (leaf id kind name text).ids = [id] := by rw [I.ids_eq]; rfl
theorem leaf_depth (id kind : Int) (name text : Str) : (leaf id kind name text).toT.depth = 1 := by rw [leaf_toT, T.depth_eq]; rfl
theorem leaf_recs (id kind : Int) (name text : Str) (p : Int) : (leaf id kind name text).recs p = [⟨id, p, kind, name, text, [], []⟩] := by rw [I.recs_eq]; rfl
theorem oneT_node {kind : Int} {name text : Str} (h : (oneT kind name text).check = true) : nodeOk (.node kind name text [] []) = true := by
 unfold T.check at h
 simp only [Bool.and_eq_true] at h
 have h2 := h.2
 unfold kidsOk oneT at h2
 simp only [T.kids, List.all_cons, List.all_nil, Bool.and_true, Bool.and_eq_true] at h2
 exact h2.1
theorem ins_okay {R : I} (hR : R.Okay) {id p at_ kind : Int} {name text : Str} (h : insE R id p at_ kind name text = 0) : (R.ins p at_.toNat (leaf id kind name text)).Okay ∧ id ∉ R.ids ∧ p ∈ R.ids := by
 unfold insE at h
 by_cases h1 : insBad R id kind name text = true
 ·rw [if_pos h1] at h; cases h
 rw [if_neg h1] at h
 by_cases h2 : 300 ≤ R.ids.length
 ·rw [if_pos h2] at h; cases h
 rw [if_neg h2] at h
 unfold insBad at h1
 simp only [Bool.or_eq_true, Bool.not_eq_true', decide_eq_true_eq, not_or, Bool.not_eq_false] at h1
 obtain ⟨⟨⟨g1, g2⟩, g3⟩, g4⟩ := h1
 cases hf : R.find p with
 |none => rw [hf] at h; cases h
 |some e =>
  rw [hf] at h
  simp only at h
  by_cases h3 : I.holds e.1.kind kind = false
  ·rw [if_pos h3] at h; cases h
  rw [if_neg h3] at h
  by_cases h4 : at_ < 0 ∨ (e.1.kids.length : Int) < at_
  ·rw [if_pos h4] at h; cases h
  rw [if_neg h4] at h
  by_cases h5 : 60 ≤ e.2.2
  ·rw [if_pos h5] at h; cases h
  obtain ⟨e1, e2⟩ := I.find_some hf
  have hid : id ∉ R.ids := fun hm => by
   have := I.find_none (s := R) (x := id)
   cases hq : R.find id with
   |none => exact (this.1 hq) hm
   |some q => rw [hq] at g1; exact g1 rfl
  refine ⟨hR.ins at_.toNat e1 e2 (show I.holds e.1.kind kind = true by simpa using h3) (by rw [leaf_toT]; exact oneT_node g4) (List.nodup_append.2 ⟨hR.nodup, by rw [leaf_ids]; simp, fun a ha b hb e => ?_⟩) (fun x hx => ?_) (by rw [leaf_ids]; simp; omega) (by rw [leaf_depth]; omega), hid, e2 ▸ I.mem_all e1⟩
  ·rw [leaf_ids, List.mem_singleton] at hb; exact hid (hb ▸ e ▸ ha)
  ·rw [leaf_ids, List.mem_singleton] at hx; omega
theorem domInsert {A : List Nat} {w : World} {D : Nat} {R : I} (h : Dom A w D R) (hA : ∀ b ∈ A, b < w.heap.size) (id p at_ kind : Int) (name text : Str) :
  Calls Tryz.prog 32 #[.pointer (some ⟨D, 0, none⟩), .int .i64 id, .int .i64 p, .int .i64 at_, .agg #[.int .i64 kind, .string (Bs name), .string (Bs text), Sl.nil.v, Sl.nil.v]] w (Ret fun v w' => v = .int .i64 (insE R id p at_ kind name text) ∧ if insE R id p at_ kind name text = 0 then Mod A w w' ∧ Dom A w' D (R.ins p at_.toNat (leaf id kind name text)) else Ext w w') := by
 have hR := h.okay
 obtain ⟨E, hE⟩ : ∃ E, E = insE R id p at_ kind name text := ⟨_, rfl⟩
 rw [← hE]
 have hokay : E = 0 → _ := fun e => ins_okay hR (hE.symm.trans e)
 unfold insE at hE
 refine dom_Dom_Insert.ok _ _ _ _ _ _ _ _ _ ?_
 unfold dom_Dom_Insert.vc
 intro w1 B1 hN1 hE1
 have hb1 := hN1.ge
 have h1' := h.ext hE1
 have h0 := h
 obtain ⟨l, M, m, X, hA0, hp, _⟩ := h
 refine CallK.ext (domNode (hA0.ext hE1) p) ?_
 intro v w2 hE2 hv
 have hE02 := hE1.trans hE2
 obtain ⟨r, hr, hnone, hsome⟩ : ∃ r : Option Addr, v = .pointer r ∧ (r = none → R.find p = none) ∧ (∀ a, r = some a → ∃ i x g, X[i]? = some x ∧ x.r.id = p ∧ l.a = some ⟨g, 0, none⟩ ∧ a = ⟨g, i * 8, none⟩) := by
  rcases hv with ⟨hn, rfl⟩ | ⟨i, x, g, hi, hx, hg, rfl⟩
  ·exact ⟨none, rfl, fun _ => recNone hp hn, fun a ha => by cases ha⟩
  ·exact ⟨_, rfl, fun e => (by cases e), fun a ha => ⟨i, x, g, hi, hx, hg, (Option.some.inj ha).symm⟩⟩
 refine ⟨r, hr, CallK.exact (domHas (h1'.ext hE2) id) fun w3 hE3 => ⟨_, rfl, fun b w' => b = insBad R id kind name text ∧ Ext w1 w', ⟨fun hbad => ?_, fun hgood w4 hE4 B4 hB4 hbox4 => ?_⟩, ?_⟩⟩
 ·refine ⟨?_, hE2.trans hE3⟩
  unfold insBad
  rcases hbad with (hb | hb) | hb
  ·rw [hb]; simp
  ·simp [hb]
  ·simp [hb]
 ·have hbox := hbox4 ⟨by simp, by simp⟩
  have hrd : RdT [] w4 (oneT kind name text) Sl.nil (Sl.mk (some ⟨B4, 0, none⟩) 1 1) := .mk [(Sl.nil, Sl.nil)] (Row.nil _ _ _) rfl (Own.one (A := []) (cs := tc (.node kind name text [] []) (Sl.nil, Sl.nil)) hbox (by simp)).row (fun i t q ht hq => by
   cases i with
   |zero => simp at ht hq; subst ht; subst hq; exact RdT.nil _ _ _ _ _
   |succ i => simp at ht)
  have hspan : (oneT kind name text).span ≤ 1099511627776 := by
   unfold T.span
   rw [T.size_eq, T.slots_eq]
   simp [oneT, T.kids, T.attrs, T.size_eq, T.slots_eq]
  refine ⟨_, fun _ => treeCheckS (t := oneT kind name text) hspan hrd, fun w5 hE5 => ⟨?_, ((hE2.trans hE3).trans hE4).trans hE5⟩⟩
  unfold insBad
  obtain ⟨⟨g1, g2⟩, g3⟩ := hgood
  rw [g1]
  simp [g2, g3]
 rintro b w4 ⟨hb, hE14⟩
 have hE4 := hE1.trans hE14
 rw [← hb] at hE
 refine ⟨fun hbt => ⟨?_, ?_⟩, fun hbf => ?_⟩
 ·rw [hE, if_pos hbt]
 ·rw [if_neg (by rw [hE, if_pos hbt]; decide)]; exact hE4
 rw [if_neg (by rw [hbf]; decide)] at hE
 have h4 := hA0.ext hE4
 have hln : l.n = R.ids.length := by
  have h1 := hA0.row.len
  have h2 := hp.length_eq
  rw [List.length_map] at h1 h2
  rw [h1, h2, ← I.recs_id R (-1), List.length_map]
 refine ⟨l, by rw [Addr.add_lit]; exact h4.box.cell 0 _ rfl, fun h300 => ⟨?_, ?_⟩, fun hlt => ⟨fun hno => ⟨?_, ?_⟩, fun hso => ?_⟩⟩
 ·rw [hE, if_pos (by omega)]
 ·rw [if_neg (by rw [hE, if_pos (by omega)]; decide)]; exact hE4
 ·cases hr0 : r with
  |some a => rw [hr0] at hno; cases hno
  |none => rw [hE, if_neg (by omega), hnone hr0]
 ·cases hr0 : r with
  |some a => rw [hr0] at hno; cases hno
  |none => rw [if_neg (by rw [hE, if_neg (by omega), hnone hr0]; exact (by decide : ¬ (3 : Int) = 0))]; exact hE4
 rw [if_neg (by omega)] at hE
 obtain ⟨a, hra⟩ : ∃ a, r = some a := by cases hr0 : r with
  |some a => exact ⟨a, rfl⟩
  |none => rw [hr0] at hso; cases hso
 obtain ⟨i, x, g, hi, hx, hg, rfl⟩ := hsome a hra
 subst hra
 obtain ⟨e, he, hxr⟩ := recOf hp hR hi
 rw [hx] at he
 rw [he] at hE
 simp only at hE
 have hxm := List.mem_of_getElem? hi
 have at4 : ∀ w', Ext w w' → Cells w' ⟨g, i * 8, none⟩ (ndc x) := fun w' hE' => by
  obtain ⟨g', hg', _, hc⟩ := (hA0.ext hE').at hi
  rw [hg] at hg'; cases hg'; exact hc
 have hkind : x.r.kind = e.1.kind := by rw [hxr]; rfl
 have hkids : x.r.kids = e.1.kids.map I.id := by rw [hxr]; rfl
 have hskn : x.sk.n = e.1.kids.length := by
  have := (hA0.sk x hxm).len
  rw [List.length_map, hkids, List.length_map] at this; exact this
 have hcell : w4.cell? (((⟨g, i * 8, none⟩ : Addr).add 2).add 0) = some (.int .i64 e.1.kind) := by rw [← hkind]; exact at4 w4 hE4 2 _ rfl
 refine CallK.exact (domHolds hcell kind) fun w5 hE5 => ⟨_, rfl, fun hf => ⟨?_, ?_⟩, fun ht => ?_⟩
 ·rw [hE, if_pos hf]
 ·rw [if_neg (by rw [hE, if_pos hf]; decide)]; exact hE4.trans hE5
 rw [if_neg (by rw [ht]; decide)] at hE
 have hE05 := hE4.trans hE5
 refine ⟨_, fun _ => rfl, x.sk, fun _ => at4 w5 hE05 7 _ rfl, fun hbad => ⟨?_, ?_⟩, fun hgood => ?_⟩
 ·rw [hE, if_pos (by rw [← hskn]; exact hbad)]
 ·rw [if_neg (by rw [hE, if_pos (by rw [← hskn]; exact hbad)]; decide)]; exact hE05
 rw [if_neg (by rw [← hskn]; omega)] at hE
 have hlev : lev R p = e.2.2 := by unfold lev; rw [he]
 refine CallK.exact (domLevel (h0.ext hE05) p) fun w6 hE6 => ⟨_, rfl, fun hb6 => ⟨?_, ?_⟩, fun hb6 => ?_⟩
 ·rw [hE, if_pos (by rw [← hlev]; omega)]
 ·rw [if_neg (by rw [hE, if_pos (by rw [← hlev]; omega)]; decide)]; exact hE05.trans hE6
 rw [if_neg (by rw [← hlev]; omega)] at hE
 obtain ⟨hok, hidn, hpm⟩ := hokay hE
 have hE06 := hE05.trans hE6
 have h6 : Arena (B1 :: A) w6 D l M m X := (hA0.wide (A' := B1 :: A) fun b hb => by
  rcases List.mem_cons.1 hb with rfl | hb
  ·exact .inr hb1
  ·exact .inl hb).ext hE06
 have hB1lt : B1 < w6.heap.size := by have := hN1.lt; have := hE14.size; have := hE5.size; have := hE6.size; omega
 have hA6 : ∀ b ∈ B1 :: A, b < w6.heap.size := fun b hb => by
  rcases List.mem_cons.1 hb with rfl | hb
  ·exact hB1lt
  ·have := hA b hb; have := hE06.size; omega
 have hnid : ∀ y ∈ X, y.r.id ≠ id := fun y hy e => hidn (by
  rw [← I.recs_id R (-1), ← (hp.map Rec.id).mem_iff, List.map_map, ← e]
  exact List.mem_map_of_mem (f := Rec.id ∘ Nd.r) hy)
 have hXl : X.length = R.ids.length := by have := hA0.row.len; rw [List.length_map] at this; omega
 refine CallK.mod (domPut (B := []) (sk := Sl.nil) (ats := []) h6 hA6 hnid (Row.nil _ _ _) (by simp) (by omega) p kind name text) (by simp) ?_
 rintro v w7 hM7 ⟨rfl, l7, m7, x7, h7, hx7⟩
 refine ⟨rfl, ?_⟩
 have hi7 : (X ++ [x7])[i]? = some x := by rw [List.getElem?_append_left (List.getElem?_eq_some_iff.1 hi).1]; exact hi
 refine CallK.ext (domNode h7 p) ?_
 rintro v w8 hE8 (⟨hn, rfl⟩ | ⟨j, y, g7, hj, hy, hg7, rfl⟩)
 ·exact absurd hx (hn x (List.mem_of_getElem? hi7))
 obtain ⟨rfl, rfl⟩ := getNd h7.nodup hj hi7 hy hx
 have h8 := h7.ext hE8
 obtain ⟨g', hg', hgb, hc8⟩ := h8.at hj
 rw [hg7] at hg'; cases hg'
 refine ⟨_, rfl, _, rfl, y.sk, hc8 7 _ rfl, fun w9 B9 hN9 hE9 hbox9 => ?_⟩
 have hb9 := hN9.ge
 have h9 := h8.ext hE9
 have hym := List.mem_of_getElem? hj
 have hk9 := h9.sk y hym
 have hkb : ∀ b ∈ y.sk.blk, b < w8.heap.size := fun b hb => ((h8.sk y hym).blk b hb).2
 have hat : (at_.toNat : Int) = at_ := by omega
 have hone : Own [] w9 (Sl.mk (some ⟨B9, 0, none⟩) 1 1) 1 3 [ic id] := Own.one (A := []) (cs := ic id) hbox9 (by simp)
 have hlk : y.r.kids.length = e.1.kids.length := by rw [hkids, List.length_map]
 have hins := slicesInsert_int (i := at_.toNat) hk9 (fun b hb => by have := hA6 b hb; have := hM7.size; have := hE8.size; have := hE9.size; omega) hone (fun b hb hm => by
  simp [Sl.blk] at hb; subst hb
  have := hkb b hm; omega) (ones_ics [id]) (ones_ics _) (by simp) (by rw [List.length_map, hlk]; omega) (by have := (h8.fit y hym).2; simp; omega)
 rw [hat] at hins
 refine CallK.chg hins (by simp) ?_
 rintro v w10 hC10 ⟨s', rfl, hs', hbs'⟩
 obtain ⟨cur, hcur, hlen⟩ := h9.cur hg7
 have hl8 := hlen hj
 have honly := fun b (hb : b ∈ y.sk.blk) => h9.only hj (b := b) (.inr hb)
 have hcur10 : Box w10 g7 88 cur := hcur.keep hC10 fun hm => (honly g7 hm).2.2.2.1 (by rw [hgb]; simp)
 refine ⟨s', rfl, _, rfl, g7, j * 8 + 7, 88, cur, by rw [Addr.add_lit], hcur10, by omega, by simp, fun w11 hC11 hB11 => ?_⟩
 let y' : Nd := ⟨{ y.r with kids := insAt at_.toNat id y.r.kids }, y.sa, s'⟩
 have hs'' : Own (B1 :: A) w10 y'.sk 1 3 (y'.r.kids.map ic) := by
  show Own _ _ _ _ _ ((insAt at_.toNat id y.r.kids).map ic)
  rw [insAt_map]
  unfold insAt
  rw [List.append_assoc] at hs'
  exact hs'
 obtain ⟨hup, hupC⟩ := h9.upd hj y' rfl hC10 (fun b hb => .inr (.inl hb)) ((h9.sa y hym).keep hC10 fun b hb hm => ((h9.sa y hym).apart hk9 (by decide)) b hb hm) hs'' (fun b hb => .inl hb) hbs' ⟨(h9.fit y hym).1, by show (insAt _ _ _).length ≤ _; rw [insAt_len, hlk]; have := kids_few hR (I.find_some he).1; omega⟩ hg7 hcur10 hC11 hB11 (by simp) rfl
 refine ⟨by rw [hE], ?_⟩
 rw [if_pos hE]
 have hmod : Mod A w w11 := by
  have m1 : Mod A w6 w7 := hM7.less fun b hb => List.mem_cons_of_mem _ hb
  have m2 : Mod A w9 w11 := (Mod.of hupC fun b hb => by
   rcases List.mem_cons.1 hb with rfl | hb
   ·exact (h9.row.blk b (by rw [hgb]; simp)).1
   ·exact (honly b hb).1).less fun b hb => List.mem_cons_of_mem _ hb
  exact (((Mod.ext hE06).trans m1).trans (Mod.ext (hE8.trans hE9))).trans m2
 refine ⟨hmod, l7, M, m7, _, hup.wide (fun b hb => .inl (List.mem_cons_of_mem _ hb)), ?_, hok⟩
 have hyid : y.r.id = p := hx
 rw [set_recs (G := I.insK p at_.toNat id) h9.nodup hj (by
  unfold I.insK; rw [if_pos hyid]) (fun z hz => by unfold I.insK; rw [if_neg (by rw [← hyid]; exact hz)])]
 rw [List.map_append, List.map_append]
 refine List.Perm.trans ?_ (I.ins_recs R at_.toNat (leaf id kind name text) (-1) hR.nodup hpm).symm
 rw [leaf_recs]
 refine (hp.map _).append ?_
 have hne : id ≠ p := fun e => hidn (e ▸ hpm)
 rw [List.map_cons, List.map_cons, List.map_nil, List.map_nil, hx7]
 unfold I.insK
 rw [if_neg (show ({ id := id, par := p, kind := kind, name := name, text := text, attrs := [], kids := [] } : Rec).id ≠ p from hne)]
end
section
open Go.RowKit Go.MapKept
theorem erase_map {α β : Type} (f : α → β) : ∀ (l : List α) (j : Nat), (l.eraseIdx j).map f = (l.map f).eraseIdx j
 |[], _ => rfl
 |_ :: _, 0 => rfl
 |x :: r, j + 1 => by rw [List.eraseIdx_cons_succ, List.map_cons, List.map_cons, List.eraseIdx_cons_succ, erase_map f r j]
section
variable {κ : Type} [DecidableEq κ]
def mdel (m : List (κ × Value)) (k : κ) : List (κ × Value) := m.filter fun p => decide (p.1 ≠ k)
theorem mget_none {m : List (κ × Value)} {k : κ} (h : k ∉ m.map fun p => p.1) : mget m k = none := by
 unfold mget
 rw [List.find?_eq_none.2 fun p hp => ?_]
 ·rfl
 ·have : p.1 ≠ k := fun e => h (by rw [← e]; exact List.mem_map_of_mem hp)
  simpa using this
theorem mdel_none {m : List (κ × Value)} {k : κ} (h : k ∉ m.map fun p => p.1) : mdel m k = m := List.filter_eq_self.2 fun p hp => by
 have : p.1 ≠ k := fun e => h (by rw [← e]; exact List.mem_map_of_mem hp)
 simpa using this
theorem mget_del (m : List (κ × Value)) (k j : κ) : mget (mdel m k) j = if j = k then none else mget m j := by
 by_cases h : j = k
 ·rw [if_pos h]
  refine mget_none fun hm => ?_
  obtain ⟨p, hp, e⟩ := List.mem_map.1 hm
  have := (List.mem_filter.1 hp).2
  simp at this
  exact this (e.trans h)
 ·rw [if_neg h]
  induction m with
  |nil => rfl
  |cons p r ih =>
   unfold mdel at ih ⊢
   by_cases hp : p.1 = k
   ·rw [List.filter_cons, if_neg (by simp [hp]), ih]
    have : ¬ p.1 = j := fun e => h (e.symm.trans hp)
    simp [mget, this]
   ·rw [List.filter_cons, if_pos (by simpa using hp)]
    by_cases hj : p.1 = j
    ·simp [mget, hj]
    ·have e1 : mget (p :: List.filter (fun p => decide (p.1 ≠ k)) r) j = mget (List.filter (fun p => decide (p.1 ≠ k)) r) j := by simp [mget, hj]
     have e2 : mget (p :: r) j = mget r j := by simp [mget, hj]
     rw [e1, e2, ih]
theorem mdel_keys {m : List (κ × Value)} (k : κ) (h : (m.map fun p => p.1).Nodup) : ((mdel m k).map fun p => p.1).Nodup := List.Nodup.sublist ((List.filter_sublist (l := m)).map _) h
theorem erase_filter : ∀ {m : List (κ × Value)} {k : κ} {j : Nat} {p : κ × Value}, (m.map fun p => p.1).Nodup → m[j]? = some p → p.1 = k → m.eraseIdx j = mdel m k
 |[], _, _, _, _, h, _ => by simp at h
 |q :: r, k, 0, p, hn, h, hp => by
  simp only [List.getElem?_cons_zero, Option.some.injEq] at h
  subst h
  rw [List.map_cons] at hn
  have h1 := (List.nodup_cons.1 hn).1
  rw [List.eraseIdx_cons_zero]
  unfold mdel
  rw [List.filter_cons, if_neg (by simp [hp])]
  exact (mdel_none (by rw [← hp]; exact h1)).symm
 |q :: r, k, j + 1, p, hn, h, hp => by
  rw [List.getElem?_cons_succ] at h
  rw [List.map_cons] at hn
  obtain ⟨h1, h2⟩ := List.nodup_cons.1 hn
  have hq : q.1 ≠ k := fun e => h1 (by rw [e, ← hp]; exact List.mem_map_of_mem (List.mem_of_getElem? h))
  rw [List.eraseIdx_cons_succ, erase_filter h2 h hp]
  unfold mdel
  rw [List.filter_cons, if_pos (by simpa using hq)]
theorem mapDelete_run {P : Program} {w : World} {bx : List Nat} {B : Nat} {t kt et ty : TypeId} {d : TypeDesc} {f : κ → Value} {m : List (κ × Value)} {K : World → Prop} (hf : ∀ x, IsKey d (f x)) (hi : ∀ x y, f x = f y → x = y) (ht : P.underlying t = some (.map kt et)) (hk : P.underlying kt = some d)
  (h : MapIs f d w B m) (hn : (m.map fun p => p.1).Nodup) (k : κ) (hbx : B ∉ bx) (kk : ∀ w', Chg [B] w w' → MapIs f d w' B (mdel m k) → K w') : RunN P (Builtin.delete_ #[t, kt] ty #[.map (some B), f k]) w bx K := by
 obtain ⟨es, clock, hb, he⟩ := h.at_
 have chg : ∀ o, Chg [B] w { w with heap := w.heap.setIfInBounds B o } := fun o => ⟨rfl, rfl, rfl, by simp, fun i _ hi => by simp [Ne.symm (show i ≠ B by simpa using hi)]⟩
 have fin : ∀ es', es'.toList.map (fun e => (e.key, e.val)) = (mdel m k).map (fun p => (f p.1, p.2)) → (Builtin.delete_ #[t, kt] ty #[.map (some B), f k]).run P w = .ok (.tuple #[]) { w with heap := w.heap.setIfInBounds B (.map es' clock) } → RunN P (Builtin.delete_ #[t, kt] ty #[.map (some B), f k]) w bx K := fun es' h1 h2 =>
  ⟨_, h2, (chg _).noTouch _ (fun b hb hm => hbx (by simp at hm; rwa [← hm])), (chg _).size, kk _ (chg _) ⟨es', clock, (heap_set hb).1, h1⟩⟩
 rcases find_of hf hi k es.toList m 0 he with ⟨h1, h2, h3⟩ | ⟨j, u, h1, h2, hj, ⟨e, hje, hke⟩, h5⟩
 ·have hno : k ∉ m.map fun p => p.1 := fun hm => by
   obtain ⟨p, hp, e⟩ := List.mem_map.1 hm
   unfold mget at h2
   rw [Option.map_eq_none_iff, List.find?_eq_none] at h2
   exact h2 p hp (by simpa using e)
  refine fin es (by rw [mdel_none hno]; exact he) ?_
  simp [Builtin.delete_, run_underlying ht, Go.MapKept.run_getObj_map hb, Go.MapKept.run_checkKey hk (hf k), Go.MapKept.run_findKey hk h1, Go.MapKept.run_setObj_map _ hb, Result.andThen]
 ·have hj' : es[j]? = some e := by simpa using hje
  obtain ⟨p, hp, hpk⟩ : ∃ p, m[j]? = some p ∧ p.1 = k := by
   have h6 : (es.toList.map fun e => (e.key, e.val))[j]? = some (e.key, e.val) := by rw [List.getElem?_map, hje]; rfl
   rw [he, List.getElem?_map] at h6
   cases hm : m[j]? with
   |none => rw [hm] at h6; cases h6
   |some p =>
    rw [hm] at h6
    simp only [Option.map_some, Option.some.injEq, Prod.mk.injEq] at h6
    exact ⟨p, rfl, hi _ _ (h6.1.trans hke)⟩
  refine fin (es.eraseIdxIfInBounds j) ?_ ?_
  ·rw [← erase_filter hn hp hpk]
   have e1 : (es.eraseIdxIfInBounds j).toList = es.toList.eraseIdx j := by
    have hlt : j < es.size := (Array.getElem?_eq_some_iff.1 hj').1
    simp [Array.eraseIdxIfInBounds, hlt]
   rw [e1, erase_map, he, erase_map]
  ·simp [Builtin.delete_, run_underlying ht, Go.MapKept.run_getObj_map hb, Go.MapKept.run_checkKey hk (hf k), Go.MapKept.run_findKey hk h1, Go.MapKept.run_setObj_map _ hb, Result.andThen]
end
theorem swap_perm {α : Type} {X : List α} {i : Nat} {x z : α} (hi : X[i]? = some x) (hz : X[X.length - 1]? = some z) : ((X.set i z).take (X.length - 1) ++ [x]).Perm X := by
 obtain ⟨hil, hix⟩ := List.getElem?_eq_some_iff.1 hi
 obtain ⟨hzl, hzx⟩ := List.getElem?_eq_some_iff.1 hz
 have hX : X = X.take (X.length - 1) ++ [z] := by
  have := List.take_succ_eq_append_getElem hzl
  rw [hzx, show X.length - 1 + 1 = X.length by omega, List.take_length] at this
  exact this
 by_cases h : i = X.length - 1
 ·subst h
  have hxz : x = z := by rw [hi] at hz; exact Option.some.inj hz
  have hs : X.set (X.length - 1) z = X := by rw [← hzx]; exact List.set_getElem_self hzl
  rw [hs, hxz, ← hX]
 ·have hlt : i < X.length - 1 := by omega
  have h1 : (X.set i z).take (X.length - 1) = (X.take (X.length - 1)).set i z := List.take_set
  have h2 : X.take (X.length - 1) = (X.take (X.length - 1)).take i ++ x :: (X.take (X.length - 1)).drop (i + 1) := by
   have hl : i < (X.take (X.length - 1)).length := by rw [List.length_take]; omega
   have hg : (X.take (X.length - 1))[i] = x := by rw [List.getElem_take, hix]
   rw [← hg, ← List.drop_eq_getElem_cons hl, List.take_append_drop]
  rw [h1]
  generalize X.take (X.length - 1) = P at hX h2
  have hl : (P.take i).length = i := by
   have hPl : P.length = X.length - 1 := by
    have := congrArg List.length hX
    rw [List.length_append, List.length_singleton] at this; omega
   rw [List.length_take]; omega
  have h3 : P.set i z = P.take i ++ z :: P.drop (i + 1) := by
   have := congrArg (fun l => l.set i z) h2
   rw [this, List.set_append_right _ _ (by omega), hl, Nat.sub_self]; rfl
  rw [h3, hX, h2]
  have e4 : P.take i ++ x :: P.drop (i + 1) = P := h2.symm
  have p1 : (P.take i ++ z :: P.drop (i + 1) ++ [x]).Perm (z :: x :: (P.take i ++ P.drop (i + 1))) := by
   refine (List.perm_append_singleton x _).trans ?_
   refine (List.Perm.cons x List.perm_middle).trans (List.Perm.swap z x _)
  have p2 : (P.take i ++ x :: P.drop (i + 1) ++ [z]).Perm (z :: x :: (P.take i ++ P.drop (i + 1))) := by
   refine (List.perm_append_singleton z _).trans ?_
   exact List.Perm.cons z List.perm_middle
  rw [e4] at p2 ⊢
  exact p1.trans p2.symm
theorem findAt_eq {X : List Nd} (hn : (X.map fun x => x.r.id).Nodup) {q : Nat} {y : Nd} (hq : X[q]? = some y) : findAt X y.r.id 0 = some q := by
 rcases findAt_spec X y.r.id 0 with ⟨_, h⟩ | ⟨j, z, h1, h2, h3⟩
 ·exact absurd rfl (h y (List.mem_of_getElem? hq))
 ·have := (getNd hn h2 hq h3 rfl).1
  rw [h1, this, Nat.zero_add]
theorem findAt_none {X : List Nd} {k : Int} (h : ∀ x ∈ X, x.r.id ≠ k) : findAt X k 0 = none := by
 rcases findAt_spec X k 0 with ⟨h1, _⟩ | ⟨j, z, _, h2, h3⟩
 ·exact h1
 ·exact absurd h3 (h z (List.mem_of_getElem? h2))
section
variable {A : List Nat} {w w1 : World} {D : Nat} {l : Sl} {M : Nat} {m : List (Int × Value)} {X : List Nd}
theorem Arena.cut (h : Arena A w D l M m X) {i : Nat} {x z : Nd} (hi : X[i]? = some x) (hz : X[X.length - 1]? = some z) {m' : List (Int × Value)} (hm' : m' = mdel (mput m z.r.id (numV (i : Int))) x.r.id) {l' : Sl}
  (hbox : Box w1 D 84 [l'.v, .map (some M)]) (hrow : Own A w1 l' 8 88 (((X.set i z).take (X.length - 1)).map ndc)) (hmap : MapIs numV (.int .i64) w1 M m')
  (oth : ∀ y ∈ X, Own A w1 y.sa 2 63 (y.r.attrs.map ac) ∧ Own A w1 y.sk 1 3 (y.r.kids.map ic)) : Arena A w1 D l' M m' ((X.set i z).take (X.length - 1)) := by
 have hperm := swap_perm hi hz
 obtain ⟨hil, _⟩ := List.getElem?_eq_some_iff.1 hi
 have cs : ∀ {j : Nat} {y : Nd}, ((X.set i z).take (X.length - 1))[j]? = some y → j < X.length - 1 ∧ ((j = i ∧ y = z) ∨ (j ≠ i ∧ X[j]? = some y)) := fun {j y} hy => by
  rw [List.getElem?_take] at hy
  split at hy
  ·rename_i hlt
   exact ⟨hlt, set_at hi hy⟩
  ·cases hy
 have mem : ∀ {y : Nd}, y ∈ (X.set i z).take (X.length - 1) → y ∈ X := fun {y} hy => hperm.mem_iff.1 (List.mem_append_left _ hy)
 have hnd : ((((X.set i z).take (X.length - 1)) ++ [x]).map fun x => x.r.id).Nodup := (hperm.map _).nodup_iff.2 h.nodup
 rw [List.map_append] at hnd
 obtain ⟨hnd1, _, hnd3⟩ := List.nodup_append.1 hnd
 have hnx : ∀ y ∈ (X.set i z).take (X.length - 1), y.r.id ≠ x.r.id := fun y hy => hnd3 _ (List.mem_map_of_mem (f := fun x : Nd => x.r.id) hy) _ (by simp)
 refine ⟨hbox, h.dA, h.mA, hrow, fun y hy => (oth y (mem hy)).1, fun y hy => (oth y (mem hy)).2, fun j k y q hjk hy hq => ?_, hmap, fun k => ?_, by rw [hm']; exact mdel_keys _ (mput_keys _ _ h.mkeys), hnd1, by rw [List.length_take, List.length_set]; have := h.few; omega, fun y hy => h.fit y (mem hy)⟩
 ·obtain ⟨hjl, hj⟩ := cs hy
  obtain ⟨hkl, hk⟩ := cs hq
  rcases hj with ⟨rfl, rfl⟩ | ⟨hj, hy'⟩
  ·rcases hk with ⟨rfl, _⟩ | ⟨hk, hq'⟩
   ·exact absurd rfl hjk
   ·exact h.apart (X.length - 1) k y q (by omega) hz hq'
  ·rcases hk with ⟨_, e⟩ | ⟨hk, hq'⟩
   ·rw [e]; exact h.apart j (X.length - 1) y z (by omega) hy' hz
   ·exact h.apart j k y q hjk hy' hq'
 ·rw [hm', mget_del, mget_put, h.keys]
  by_cases hkx : k = x.r.id
  ·rw [if_pos hkx, findAt_none (fun y hy => by rw [hkx]; exact hnx y hy)]; rfl
  rw [if_neg hkx]
  by_cases hkz : k = z.r.id
  ·rw [if_pos hkz]
   have hne : i ≠ X.length - 1 := fun e => hkx (by rw [hkz]; rw [e, hz] at hi; rw [Option.some.inj hi])
   have hg : ((X.set i z).take (X.length - 1))[i]? = some z := by
    rw [List.getElem?_take, if_pos (by omega), List.getElem?_set, if_pos rfl, if_pos hil]
   rw [hkz, findAt_eq hnd1 hg]; rfl
  ·rw [if_neg hkz]
   rcases findAt_spec X k 0 with ⟨h1, h2⟩ | ⟨q, y, h1, h2, h3⟩
   ·rw [h1, findAt_none fun y hy => h2 y (mem hy)]
   ·rw [h1, Nat.zero_add]
    have hqi : q ≠ i := fun e => hkx (by rw [e, hi] at h2; rw [← h3, Option.some.inj h2])
    have hqn : q ≠ X.length - 1 := fun e => hkz (by rw [e, hz] at h2; rw [← h3, Option.some.inj h2])
    have hql := (List.getElem?_eq_some_iff.1 h2).1
    have hg : ((X.set i z).take (X.length - 1))[q]? = some y := by
     rw [List.getElem?_take, if_pos (by omega), List.getElem?_set, if_neg (fun e => hqi e.symm)]; exact h2
    rw [← h3, findAt_eq hnd1 hg]
end
end
section
open Go.RowKit Go.MapKept
theorem rec_kids {s : I} {q : Int} {r : Rec} (h : r ∈ s.recs q) : ∀ k ∈ r.kids, k ∈ s.ids := by
 unfold I.recs at h
 obtain ⟨e, he, rfl⟩ := List.mem_map.1 h
 intro k hk
 obtain ⟨u, hu, rfl⟩ := List.mem_map.1 (show k ∈ e.1.kids.map I.id from hk)
 exact I.mem_all (I.all_kid he hu)
def outK (p id : Int) (r : Rec) : Rec := if r.id = p then { r with kids := r.kids.filter fun k => decide (k ≠ id) } else r
def parK (id p : Int) (r : Rec) : Rec := if r.id = id then { r with par := p } else r
theorem map_none {G : Rec → Rec} {x : Int} {L : List Rec} (hG : ∀ r : Rec, r.id ≠ x → G r = r) (h : x ∉ L.map Rec.id) : L.map G = L := I.map_self fun r hr => hG r fun e => h (by rw [← e]; exact List.mem_map_of_mem hr)
structure CutOf (R : I) (e : I × Int × Nat) (s0 : I) (i : Nat) : Prop where
 eq : R = s0.ins e.2.1 i e.1
 okay : s0.Okay
 par : e.2.1 ∈ s0.ids
 del : R.del e.1.id = s0
 nodup : (s0.ids ++ e.1.ids).Nodup
 node : nodeOk e.1.toT = true
 sum : s0.ids.length + e.1.ids.length ≤ 300
 rng : ∀ x ∈ e.1.ids, 0 ≤ x ∧ x ≤ 1048576
 ids : ∀ x, x ∈ R.ids ↔ x ∈ s0.ids ∨ x ∈ e.1.ids
theorem cutOf {R : I} (hR : R.Okay) {e : I × Int × Nat} (he : e ∈ R.all (-1) 1) (hk : e.1.kind ≠ 1) : ∃ s0 i, CutOf R e s0 i := by
 have hne : e.1.id ≠ R.id := fun h => by
  have : e = (R, -1, 1) := I.all_inj hR.nodup he (I.all_self _ _ _) h
  rw [this] at hk
  exact hk (I.check_iff.1 hR.check).1
 obtain ⟨s0, p, i, u, hs, hu, hp, hid, hperm⟩ := I.parts R hR.nodup (I.mem_all he) hne
 have hnd : (s0.ids ++ u.ids).Nodup := hperm.nodup_iff.2 hR.nodup
 have hn0 := (List.nodup_append.1 hnd).1
 obtain ⟨f, hf, hfp⟩ := I.all_mem hp (-1) 1
 have hm := I.ins_mem (u := u) i hn0 hf hfp
 rw [← hs] at hm
 have he2 : e = (u, p, f.2.2 + 1) := I.all_inj hR.nodup he hm hu.symm
 subst he2
 have hRo := hR
 rw [hs] at hRo
 obtain ⟨p1, p2, p3, p4, p5, p6⟩ := hRo.part i hn0 hf hfp
 refine ⟨s0, i, hs, hRo.out i hn0 hp, hp, ?_, hnd, p1, p4, p5, fun x => ?_⟩
 ·rw [hs]
  exact I.del_ins s0 i u hn0 fun hm => (List.nodup_append.1 hnd).2.2 _ hm _ (I.id_mem u) rfl
 ·rw [← hperm.mem_iff, List.mem_append]
theorem CutOf.out {R : I} {e : I × Int × Nat} {s0 : I} {i : Nat} (h : CutOf R e s0 i) : ((R.recs (-1)).map (outK e.2.1 e.1.id)).Perm (s0.recs (-1) ++ e.1.recs e.2.1) := by
 have hp := (I.ins_recs s0 i e.1 (-1) (List.nodup_append.1 h.nodup).1 h.par).map (outK e.2.1 e.1.id)
 rw [← h.eq, List.map_append, List.map_map] at hp
 have hid : e.1.id ∉ s0.ids := fun hm => (List.nodup_append.1 h.nodup).2.2 _ hm _ (I.id_mem e.1) rfl
 have e1 : (s0.recs (-1)).map (outK e.2.1 e.1.id ∘ I.insK e.2.1 i e.1.id) = s0.recs (-1) := I.map_self fun r hr => by
  show outK _ _ (I.insK _ _ _ r) = r
  unfold outK I.insK
  by_cases h1 : r.id = e.2.1
  ·rw [if_pos h1, if_pos h1, insAt_filter (fun k hk => ?_) (by simp)]
   have : k ≠ e.1.id := fun e2 => hid (by rw [← e2]; exact rec_kids hr k hk)
   simpa using this
  ·rw [if_neg h1, if_neg h1]
 have e2 : (e.1.recs e.2.1).map (outK e.2.1 e.1.id) = e.1.recs e.2.1 := map_none (x := e.2.1) (fun r hr => by unfold outK; rw [if_neg hr]) (by
  rw [I.recs_id]; exact fun hm => (List.nodup_append.1 h.nodup).2.2 _ h.par _ hm rfl)
 rw [e1, e2] at hp
 exact hp
section
variable {A : List Nat} {w : World} {D : Nat} {R : I}
theorem rowOf {X : List Nd} (hp : (X.map Nd.r).Perm (R.recs (-1))) {e : I × Int × Nat} (he : e ∈ R.all (-1) 1) : ∃ (j : Nat) (y : Nd), X[j]? = some y ∧ y.r = e.1.rec0 e.2.1 := by
 have : e.1.rec0 e.2.1 ∈ X.map Nd.r := hp.mem_iff.2 (by unfold I.recs; exact List.mem_map_of_mem (f := fun e : I × Int × Nat => e.1.rec0 e.2.1) he)
 obtain ⟨y, hy, e1⟩ := List.mem_map.1 this
 obtain ⟨j, hj, e2⟩ := List.getElem_of_mem hy
 exact ⟨j, y, by rw [List.getElem?_eq_getElem hj, e2], e1⟩
def delE (R : I) (id : Int) : Int := match R.find id with
 |none => 3
 |some e => if e.1.kind = 1 then 4 else if e.1.kids = [] then 0 else 7
theorem domDelete (h : Dom A w D R) (hA : ∀ b ∈ A, b < w.heap.size) (id : Int) :
  Calls Tryz.prog 35 #[.pointer (some ⟨D, 0, none⟩), .int .i64 id] w (Ret fun v w' => v = .int .i64 (delE R id) ∧ if delE R id = 0 then Mod A w w' ∧ Dom A w' D (R.del id) else Ext w w') := by
 have hR := h.okay
 obtain ⟨E, hE⟩ : ∃ E, E = delE R id := ⟨_, rfl⟩
 rw [← hE]
 unfold delE at hE
 refine dom_Dom_Delete.ok _ _ ?_
 unfold dom_Dom_Delete.vc
 obtain ⟨l, M, m, X, h0, hp, _⟩ := h
 refine CallK.ext (domNode h0 id) ?_
 rintro v w1 hE1 (⟨hn, rfl⟩ | ⟨i, x, g, hi, hx, hg, rfl⟩)
 ·have hf := recNone hp hn
  rw [hf] at hE
  exact ⟨none, rfl, fun _ => ⟨by rw [hE], by rw [if_neg (by rw [hE]; exact (by decide : ¬ (3 : Int) = 0))]; exact hE1⟩, fun hb => by cases hb⟩
 obtain ⟨e, he, hxr⟩ := recOf hp hR hi
 rw [hx] at he
 rw [he] at hE
 simp only at hE
 obtain ⟨e1, e2⟩ := I.find_some he
 have h1 := h0.ext hE1
 obtain ⟨g', hg', hgb, hc⟩ := h1.at hi
 rw [hg] at hg'; cases hg'
 have hxm := List.mem_of_getElem? hi
 have hkind : x.r.kind = e.1.kind := by rw [hxr]; rfl
 have hskn : x.sk.n = e.1.kids.length := by
  have := (h0.sk x hxm).len
  rw [List.length_map, hxr] at this
  rw [this]; simp [I.rec0]
 refine ⟨_, rfl, fun hb => (by cases hb), fun _ => ⟨_, rfl, e.1.kind, by rw [← hkind]; exact hc 2 _ rfl, fun hk1 => ⟨?_, ?_⟩, fun hk1 => ⟨_, rfl, x.sk, hc 7 _ rfl, fun hkn => ⟨?_, ?_⟩, fun hkn => ?_⟩⟩⟩
 ·rw [hE, if_pos hk1]
 ·rw [if_neg (by rw [hE, if_pos hk1]; decide)]; exact hE1
 ·have : ¬ e.1.kids = [] := fun h => by rw [hskn, h] at hkn; simp at hkn
  rw [hE, if_neg hk1, if_neg this]
 ·have : ¬ e.1.kids = [] := fun h => by rw [hskn, h] at hkn; simp at hkn
  rw [if_neg (by rw [hE, if_neg hk1, if_neg this]; decide)]; exact hE1
 have hk0 : e.1.kids = [] := by
  cases hq : e.1.kids with
  |nil => rfl
  |cons a r => rw [hskn, hq] at hkn; exact absurd (by simp) hkn
 rw [if_neg hk1, if_pos hk0] at hE
 obtain ⟨s0, i0, hcut⟩ := cutOf hR e1 hk1
 obtain ⟨f, hf, hfid, _, _⟩ : ∃ f, R.find e.2.1 = some f ∧ f.1.id = e.2.1 ∧ f.2.2 + 1 = e.2.2 ∧ e.1 ∈ f.1.kids := by
  rcases up hR e1 with h | h
  ·rw [h] at hk1; exact absurd (I.check_iff.1 hR.check).1 hk1
  ·exact h
 obtain ⟨j, y, hj, hyr⟩ := rowOf hp (I.find_some hf).1
 have hyid : y.r.id = x.r.par := by rw [hyr, hxr]; exact hfid
 have hout := domOut h1 hi hj hyid
 rw [hx] at hout
 refine CallK.mod hout (by simp) ?_
 rintro v w2 hM2 ⟨rfl, y', h2, hy'⟩
 refine ⟨rfl, some M, by rw [Addr.add_lit]; exact h2.box.cell 1 _ rfl, ?_⟩
 have hij : i ≠ j := fun e => by
  subst e
  rw [hi] at hj
  have : x = y := Option.some.inj hj
  have hnp : e.2.1 ≠ e.1.id := fun e3 => (List.nodup_append.1 hcut.nodup).2.2 _ hcut.par _ (I.id_mem e.1) e3
  exact hnp (by rw [← hfid, e2, ← hx, this, hyr]; rfl)
 have hi2 : (X.set j y')[i]? = some x := by rw [List.getElem?_set, if_neg (fun e => hij e.symm)]; exact hi
 have hlk := (lookup_run keyNum numV_inj Tryz.underlying81 Tryz.underlying3 (tiNum.zeroValue w2) h2.map id).2
 have hfi : findAt (X.set j y') id 0 = some i := by rw [← hx]; exact findAt_eq h2.nodup hi2
 rw [h2.keys, hfi] at hlk
 refine ⟨(i : Int), hlk, fun w3 hE3 => ?_⟩
 have h3 := h2.ext hE3
 have hn := h2.row.len
 rw [List.length_map] at hn
 obtain ⟨z, hz⟩ : ∃ z, (X.set j y')[(X.set j y').length - 1]? = some z := ⟨_, List.getElem?_eq_getElem (by have := (List.getElem?_eq_some_iff.1 hi2).1; omega)⟩
 have hil := (List.getElem?_eq_some_iff.1 hi2).1
 obtain ⟨g', hg', hgb, hcz⟩ := h3.at hz
 rw [hg] at hg'; cases hg'
 have hfew := h2.few
 have hnat : ((l.n : Int) - 1).toNat = (X.set j y').length - 1 := by omega
 refine ⟨l, by rw [Addr.add_lit]; exact h3.box.cell 0 _ rfl, l, by rw [Addr.add_lit]; exact h3.box.cell 0 _ rfl, ⟨by omega, by omega⟩, ⟨g, 0, none⟩, ⟨⟨by omega, by omega⟩, hg⟩, z.r.id, z.r.par, z.r.kind, z.r.name, z.r.text, z.sa, Sl.nil, z.sk, by rw [hnat, Addr.add_lit, Nat.zero_add]; exact hcz, fun w4 B4 hE4 hB4 hbox4 w5 hC5 => ?_⟩
 have hE35 : Ext w3 w5 := Chg.fresh hE4 hC5 (by simpa using hB4)
 have h5 := h3.ext hE35
 refine ⟨l, by rw [Addr.add_lit]; exact h5.box.cell 0 _ rfl, ⟨g, 0, none⟩, ⟨⟨by omega, by omega⟩, hg⟩, fun w6 hE6 => ?_⟩
 have h6 := h5.ext hE6
 have hE36 := hE35.trans hE6
 obtain ⟨cur, hcur, hlen⟩ := h6.cur hg
 have hl8 := hlen hi2
 have hglt : g < w3.heap.size := (h3.row.blk g (by rw [hgb]; simp)).2
 rw [Int.toNat_natCast]
 refine ⟨g, i * 8, 88, cur, by rw [Addr.add_lit, Nat.zero_add], hcur, by omega, by simp; omega, fun w7 hC7 hB7 w8 hE8 => ?_⟩
 have hrow7 : Own A w7 l 8 88 (((X.set j y').set i z).map ndc) := by
  have hil' : i < ((X.set j y').map ndc).length := by simpa using hil
  have hgD : ((X.set j y').map ndc).getD i [] = ndc x := by rw [List.getD_eq_getElem?_getD, List.getElem?_map, hi2]; rfl
  have := (h6.row).put (o := 0) (us := ndc z) hg hcur hil' (by simp [ndc]) hB7
  rw [hgD] at this
  have e9 : putAt (ndc x) 0 (ndc z) = ndc z := rfl
  rw [e9, ← List.map_set] at this
  exact this
 have hgA : g ∉ A := (h3.row.blk g (by rw [hgb]; simp)).1
 have hgM : g ≠ M := fun e => (h6.row.noMap h6.map) (by rw [hgb, e]; simp)
 have hgDm : g ≠ D := fun e => (h6.row.other h6.box (by decide)) (by rw [hgb, e]; simp)
 have hMD : M ≠ D := h6.map.box h6.box
 have hb8 : Box w8 D 84 [l.v, .map (some M)] := (h6.box.keep hC7 (by simpa using fun e => hgDm e.symm)).ext hE8
 have hm8 := (h6.map.chg hC7 (by simpa using fun e => hgM e.symm)).ext hE8
 refine ⟨some M, by rw [Addr.add_lit]; exact hb8.cell 1 _ rfl, fun w9 hE9 => ?_⟩
 have hMw3 : M < w3.heap.size := h3.map.lt
 refine mapUpdate_run keyNum numV_inj Tryz.underlying81 Tryz.underlying3 (hm8.ext hE9) z.r.id (numV (i : Int)) (by simp; omega) fun w10 hC10 hm10 => ?_
 have hb10 : Box w10 D 84 [l.v, .map (some M)] := (hb8.ext hE9).keep hC10 (by simpa using hMD.symm)
 refine ⟨some M, by rw [Addr.add_lit]; exact hb10.cell 1 _ rfl, ?_⟩
 refine mapDelete_run keyNum numV_inj Tryz.underlying81 Tryz.underlying3 hm10 (mput_keys _ _ h2.mkeys) id (by simp) fun w11 hC11 hm11 w12 hE12 => ?_
 have hb12 : Box w12 D 84 [l.v, .map (some M)] := (hb10.keep hC11 (by simpa using hMD.symm)).ext hE12
 have hcap := h2.row.cap
 refine ⟨l, by rw [Addr.add_lit]; exact hb12.cell 0 _ rfl, l, by rw [Addr.add_lit]; exact hb12.cell 0 _ rfl, ⟨by omega, by omega⟩, ⟨by omega, by omega⟩, fun w13 hE13 => ?_⟩
 rw [hnat]
 refine ⟨D, 0, 84, _, by rw [Addr.add_lit], hb12.ext hE13, by simp, by simp, fun w14 hC14 hB14 => ?_⟩
 have kp : ∀ {s : Sl} {size : Nat} {T : TypeId} {vs : List (List Value)}, T ≠ 84 → T ≠ 88 → Own A w6 s size T vs → Own A w14 s size T vs := fun {s size T vs} t1 t2 ho => by
  have a1 := ho.keep hC7 fun b hb hm => (ho.other hcur t2) (by simp only [List.mem_singleton] at hm; exact hm ▸ hb)
  have a2 := (a1.ext hE8).ext hE9
  have a3 := a2.keep hC10 fun b hb hm => (a2.noMap (hm8.ext hE9)) (by simp only [List.mem_singleton] at hm; exact hm ▸ hb)
  have a4 := ((a3.keep hC11 fun b hb hm => (a3.noMap hm10) (by simp only [List.mem_singleton] at hm; exact hm ▸ hb)).ext hE12).ext hE13
  exact a4.keep hC14 fun b hb hm => (a4.other (hb12.ext hE13) t1) (by simp only [List.mem_singleton] at hm; exact hm ▸ hb)
 have hrow14 : Own A w14 l 8 88 (((X.set j y').set i z).map ndc) := by
  have a2 := (hrow7.ext hE8).ext hE9
  have a3 := a2.keep hC10 fun b hb hm => (a2.noMap (hm8.ext hE9)) (by simp only [List.mem_singleton] at hm; exact hm ▸ hb)
  have a4 := ((a3.keep hC11 fun b hb hm => (a3.noMap hm10) (by simp only [List.mem_singleton] at hm; exact hm ▸ hb)).ext hE12).ext hE13
  exact a4.keep hC14 fun b hb hm => (a4.other (hb12.ext hE13) (by decide)) (by simp only [List.mem_singleton] at hm; exact hm ▸ hb)
 have hne : l ≠ Sl.nil := fun e => by rw [e] at hg; cases hg
 have hcutrow := hrow14.pre (k := (X.set j y').length - 1) (by simp) hne
 rw [← List.map_take] at hcutrow
 have hm14 := ((hm11.ext hE12).ext hE13).chg hC14 (by simpa using hMD)
 have hfin := h6.cut hi2 hz (m' := _) (by rw [hx]) hB14 hcutrow hm14 fun q hq => ⟨kp (by decide) (by decide) (h6.sa q hq), kp (by decide) (by decide) (h6.sk q hq)⟩
 refine ⟨by rw [hE], ?_⟩
 rw [if_pos hE]
 have hmod : Mod A w w14 := by
  have m1 : Mod A w w2 := (Mod.ext hE1).trans hM2
  have m2 : Mod A w2 w6 := Mod.ext (hE3.trans hE36)
  have m3 : Mod A w6 w7 := Mod.of hC7 (by simpa using hgA)
  have m4 : Mod A w9 w10 := Mod.of hC10 (by simpa using h2.mA)
  have m5 : Mod A w10 w11 := Mod.of hC11 (by simpa using h2.mA)
  have m6 : Mod A w13 w14 := Mod.of hC14 (by simpa using h2.dA)
  exact (((((m1.trans m2).trans m3).trans (Mod.ext (hE8.trans hE9))).trans m4).trans m5).trans ((Mod.ext (hE12.trans hE13)).trans m6)
 refine ⟨hmod, _, M, _, _, hfin, ?_, by rw [← e2, hcut.del]; exact hcut.okay⟩
 have hx1 : ((X.set j y').map Nd.r).Perm (s0.recs (-1) ++ e.1.recs e.2.1) := by
  rw [set_recs (G := outK e.2.1 e.1.id) h0.nodup hj (by
   unfold outK
   rw [if_pos (by rw [hyr]; exact hfid), hy', e2]) (fun q hq => by
   unfold outK
   rw [if_neg (by rw [← hfid]; intro e3; exact hq (by rw [e3, hyr]; rfl))])]
  exact (hp.map _).trans hcut.out
 have hsw := (swap_perm hi2 hz).map Nd.r
 rw [List.map_append] at hsw
 have hur : e.1.recs e.2.1 = [x.r] := by rw [I.recs_eq, hk0, hxr]; rfl
 rw [hur] at hx1
 have := hsw.trans hx1
 rw [List.map_cons, List.map_nil] at this
 rw [← e2, hcut.del]
 exact (List.perm_append_right_iff _).1 this
end
end
section
open Go.RowKit Go.MapKept
def movE (R : I) (id p at_ : Int) : Int := match R.find id, R.find p with
 |some e, some f => if e.1.kind = 1 ∨ I.holds f.1.kind e.1.kind = false then 4 else if within R id p = true then 6
  else if at_ < 0 ∨ (if e.2.1 = p then (f.1.kids.length : Int) - 1 else (f.1.kids.length : Int)) < at_ then 5 else if 60 < f.2.2 + e.1.toT.depth then 2 else 0
 |_, _ => 3
def movR (R : I) (id p at_ : Int) : I := match R.find id with
 |some e => (R.del id).ins p at_.toNat e.1
 |none => R
theorem CutOf.entry {R : I} {e : I × Int × Nat} {s0 : I} {i : Nat} (h : CutOf R e s0 i) (hR : R.Okay) {f : I × Int × Nat} (hf : f ∈ R.all (-1) 1) (hp : f.1.id ∈ s0.ids) : ∃ f0 ∈ s0.all (-1) 1, f = I.insE e.2.1 i e.1 f0 ∧ f0.1.id = f.1.id := by
 obtain ⟨f0, hf0, hid⟩ := I.all_mem hp (-1) 1
 have hm := I.ins_other (u := e.1) i (List.nodup_append.1 h.nodup).1 h.par hf0
 rw [← h.eq] at hm
 refine ⟨f0, hf0, I.all_inj hR.nodup hf hm ?_, hid⟩
 show f.1.id = (f0.1.ins _ _ _).id
 rw [I.ins_id, hid]
theorem ins_kidlen (s : I) (p : Int) (i : Nat) (u : I) : (s.ins p i u).kids.length = if s.id = p then s.kids.length + 1 else s.kids.length := by
 by_cases h : s.id = p
 ·rw [if_pos h, I.ins_here i u h, I.mk_kids, insAt_len]
 ·rw [if_neg h, I.ins_deep i u h, I.mk_kids, List.length_map]
theorem mov_okay {R : I} (hR : R.Okay) {id p at_ : Int} (h : movE R id p at_ = 0) : ∃ e f s0 i f0, R.find id = some e ∧ R.find p = some f ∧ e.1.kind ≠ 1 ∧ CutOf R e s0 i ∧ movR R id p at_ = s0.ins p at_.toNat e.1 ∧ (s0.ins p at_.toNat e.1).Okay ∧ p ∈ s0.ids ∧ f0 ∈ s0.all (-1) 1 ∧ f = I.insE e.2.1 i e.1 f0 ∧ f0.1.id = p ∧ 0 ≤ at_ ∧ at_ ≤ f0.1.kids.length := by
 unfold movE at h
 cases he : R.find id with
 |none => rw [he] at h; cases h
 |some e =>
  cases hf : R.find p with
  |none => rw [he, hf] at h; cases h
  |some f =>
   rw [he, hf] at h
   simp only at h
   by_cases h1 : e.1.kind = 1 ∨ I.holds f.1.kind e.1.kind = false
   ·rw [if_pos h1] at h; cases h
   rw [if_neg h1] at h
   by_cases h2 : within R id p = true
   ·rw [if_pos h2] at h; cases h
   rw [if_neg h2] at h
   by_cases h3 : at_ < 0 ∨ (if e.2.1 = p then (f.1.kids.length : Int) - 1 else (f.1.kids.length : Int)) < at_
   ·rw [if_pos h3] at h; cases h
   rw [if_neg h3] at h
   by_cases h4 : 60 < f.2.2 + e.1.toT.depth
   ·rw [if_pos h4] at h; cases h
   obtain ⟨e1, e2⟩ := I.find_some he
   obtain ⟨f1, f2⟩ := I.find_some hf
   obtain ⟨s0, i, hc⟩ := cutOf hR e1 (fun hk => h1 (.inl hk))
   have hpe : p ∉ e.1.ids := fun hm => h2 (by unfold within; rw [he]; exact decide_eq_true hm)
   have hps : p ∈ s0.ids := by
    rcases (hc.ids p).1 (f2 ▸ I.mem_all f1) with hm | hm
    ·exact hm
    ·exact absurd hm hpe
   obtain ⟨f0, g1, g2, g3⟩ := hc.entry hR f1 (by rw [f2]; exact hps)
   have hkl : f.1.kids.length = if f0.1.id = e.2.1 then f0.1.kids.length + 1 else f0.1.kids.length := by rw [g2]; exact ins_kidlen _ _ _ _
   have hlev : f.2.2 = f0.2.2 := by rw [g2]; rfl
   have hkind : f.1.kind = f0.1.kind := by rw [g2]; exact I.ins_kind _ _ _ _
   refine ⟨e, f, s0, i, f0, rfl, rfl, fun hk => h1 (.inl hk), hc, ?_, hc.okay.ins at_.toNat g1 (g3.trans f2) (by rw [← hkind]; exact by simpa using fun hh => h1 (.inr hh)) hc.node hc.nodup hc.rng hc.sum (by omega), hps, g1, g2, g3.trans f2, by omega, ?_⟩
   ·unfold movR; rw [he]; simp only; rw [← e2, hc.del]
   ·rw [g3, f2] at hkl
    by_cases hq : e.2.1 = p
    ·rw [if_pos hq] at h3
     rw [if_pos hq.symm] at hkl
     omega
    ·rw [if_neg hq] at h3
     rw [if_neg (fun e => hq e.symm)] at hkl
     omega
section
variable {A : List Nat} {w : World} {D : Nat} {R : I}
theorem domMove (h : Dom A w D R) (hA : ∀ b ∈ A, b < w.heap.size) (id p at_ : Int) :
  Calls Tryz.prog 38 #[.pointer (some ⟨D, 0, none⟩), .int .i64 id, .int .i64 p, .int .i64 at_] w (Ret fun v w' => v = .int .i64 (movE R id p at_) ∧ if movE R id p at_ = 0 then Mod A w w' ∧ Dom A w' D (movR R id p at_) else Ext w w') := by
 have hR := h.okay
 obtain ⟨E, hE⟩ : ∃ E, E = movE R id p at_ := ⟨_, rfl⟩
 rw [← hE]
 have hokay : E = 0 → _ := fun e => mov_okay hR (hE.symm.trans e)
 unfold movE at hE
 refine dom_Dom_Move.ok _ _ _ _ ?_
 unfold dom_Dom_Move.vc
 have hd := h
 obtain ⟨l, M, m, X, h0, hp, _⟩ := h
 have un : ∀ {v : Value} {x : Int}, ((∀ y ∈ X, y.r.id ≠ x) ∧ v = .pointer none) ∨ (∃ i y g, X[i]? = some y ∧ y.r.id = x ∧ l.a = some ⟨g, 0, none⟩ ∧ v = .pointer (some ⟨g, i * 8, none⟩)) → ∃ r : Option Addr, v = .pointer r ∧ (r = none → R.find x = none) ∧ (∀ a, r = some a → ∃ i y g, X[i]? = some y ∧ y.r.id = x ∧ l.a = some ⟨g, 0, none⟩ ∧ a = ⟨g, i * 8, none⟩) := fun {v x} hv => by
  rcases hv with ⟨hn, rfl⟩ | ⟨i, y, g, hi, hx, hg, rfl⟩
  ·exact ⟨none, rfl, fun _ => recNone hp hn, fun a ha => by cases ha⟩
  ·exact ⟨_, rfl, fun e => (by cases e), fun a ha => ⟨i, y, g, hi, hx, hg, (Option.some.inj ha).symm⟩⟩
 refine CallK.ext (domNode h0 id) ?_
 intro v w1 hE1 hv
 obtain ⟨r1, rfl, hn1, hs1⟩ := un hv
 refine ⟨r1, rfl, CallK.ext (domNode (h0.ext hE1) p) ?_⟩
 intro v w2 hE2 hv
 obtain ⟨r2, rfl, hn2, hs2⟩ := un hv
 have hE02 := hE1.trans hE2
 refine ⟨r2, rfl, fun hno => ?_, fun hyes => ?_⟩
 ·have h3 : E = 3 := by
   rcases hno with hno | hno
   ·cases hr : r1 with
    |some a => rw [hr] at hno; cases hno
    |none => rw [hE, hn1 hr]
   ·cases hr : r2 with
    |some a => rw [hr] at hno; cases hno
    |none => rw [hE, hn2 hr]; cases R.find id <;> rfl
  exact ⟨by rw [h3], by rw [if_neg (by rw [h3]; decide)]; exact hE02⟩
 obtain ⟨a1, hr1⟩ : ∃ a, r1 = some a := by cases hr : r1 with
  |some a => exact ⟨a, rfl⟩
  |none => rw [hr] at hyes; cases hyes.1
 obtain ⟨a2, hr2⟩ : ∃ a, r2 = some a := by cases hr : r2 with
  |some a => exact ⟨a, rfl⟩
  |none => rw [hr] at hyes; cases hyes.2
 obtain ⟨i, x, g, hi, hx, hg, rfl⟩ := hs1 a1 hr1
 obtain ⟨k, z, g2, hk, hz, hg2, rfl⟩ := hs2 a2 hr2
 rw [hg] at hg2; cases hg2
 subst hr1 hr2
 obtain ⟨e, he, hxr⟩ := recOf hp hR hi
 obtain ⟨f, hf, hzr⟩ := recOf hp hR hk
 rw [hx] at he
 rw [hz] at hf
 rw [he, hf] at hE
 simp only at hE
 obtain ⟨e1, e2⟩ := I.find_some he
 obtain ⟨f1, f2⟩ := I.find_some hf
 have hxm := List.mem_of_getElem? hi
 have hzm := List.mem_of_getElem? hk
 have atx : ∀ w', Ext w w' → Cells w' ⟨g, i * 8, none⟩ (ndc x) := fun w' hE' => by
  obtain ⟨g', hg', _, hc⟩ := (h0.ext hE').at hi
  rw [hg] at hg'; cases hg'; exact hc
 have atz : ∀ w', Ext w w' → Cells w' ⟨g, k * 8, none⟩ (ndc z) := fun w' hE' => by
  obtain ⟨g', hg', _, hc⟩ := (h0.ext hE').at hk
  rw [hg] at hg'; cases hg'; exact hc
 have kx : x.r.kind = e.1.kind := by rw [hxr]; rfl
 have kz : z.r.kind = f.1.kind := by rw [hzr]; rfl
 have hzn : z.sk.n = f.1.kids.length := by
  have := (h0.sk z hzm).len
  rw [List.length_map, hzr] at this
  rw [this]; simp [I.rec0]
 have hpar : x.r.par = e.2.1 := by rw [hxr]; rfl
 have hhold := domHolds (w := w2) (p := ⟨g, k * 8, none⟩) (k := f.1.kind) (by rw [← kz]; exact atz w2 hE02 2 _ rfl) e.1.kind
 refine ⟨_, rfl, e.1.kind, by rw [← kx]; exact atx w2 hE02 2 _ rfl, _, fun _ => rfl, e.1.kind, fun _ => by rw [← kx]; exact atx w2 hE02 2 _ rfl, _, fun _ => hhold, fun w3 hE3 => ⟨fun hb => ?_, fun hgood => ?_⟩⟩
 ·have h4 : E = 4 := by rw [hE, if_pos hb]
  exact ⟨by rw [h4], by rw [if_neg (by rw [h4]; decide)]; exact hE02.trans hE3⟩
 rw [if_neg (by rintro (hb | hb); exact hgood.1 hb; rw [hb] at hgood; cases hgood.2)] at hE
 have hE03 := hE02.trans hE3
 refine CallK.exact (domWithin (hd.ext hE03) id p) fun w4 hE4 => ⟨_, rfl, fun hb => ?_, fun hnw => ?_⟩
 ·have h6 : E = 6 := by rw [hE, if_pos hb]
  exact ⟨by rw [h6], by rw [if_neg (by rw [h6]; decide)]; exact hE03.trans hE4⟩
 rw [if_neg (by rw [hnw]; decide)] at hE
 have hE04 := hE03.trans hE4
 have hkf := kids_few hR f1
 refine ⟨_, rfl, z.sk, atz w4 hE04 7 _ rfl, _, rfl, x.r.par, atx w4 hE04 1 _ rfl, fun rest w' => rest = (if e.2.1 = p then (f.1.kids.length : Int) - 1 else (f.1.kids.length : Int)) ∧ Ext w w', ⟨fun hq => ⟨⟨by omega, by omega⟩, by rw [if_pos (hpar ▸ hq), hzn], hE04⟩, fun hq => ⟨by rw [if_neg (hpar ▸ hq), hzn], hE04⟩⟩, ?_⟩
 rintro _ w5 ⟨rfl, hE5⟩
 refine ⟨fun hb => ?_, fun hgood2 => ?_⟩
 ·have h5 : E = 5 := by rw [hE, if_pos hb]
  exact ⟨by rw [h5], by rw [if_neg (by rw [h5]; decide)]; exact hE5⟩
 rw [if_neg (by rintro (hb | hb); exact hgood2.1 hb; exact hgood2.2 hb)] at hE
 have hlev : lev R p = f.2.2 := by unfold lev; rw [hf]
 have hlevb := lev_le hR p
 have hdb : e.1.toT.depth ≤ 60 := by
  have := I.depth_sub R (-1) 1 e e1
  have := (I.check_iff.1 hR.check).2.2.1
  have := I.all_ge R (-1) 1 e e1
  omega
 refine CallK.exact (domLevel (hd.ext hE5) p) fun w6 hE6 => ⟨_, rfl, ?_⟩
 have hht := domHeight (w := w6) e.1 (hd.ext (hE5.trans hE6)) e.2.1 e.2.2 e1
 rw [e2] at hht
 refine CallK.exact hht fun w7 hE7 => ⟨_, rfl, ⟨by omega, by omega⟩, fun hb => ?_, fun hgood3 => ?_⟩
 ·have h2 : E = 2 := by rw [hE, if_pos (by omega)]
  exact ⟨by rw [h2], by rw [if_neg (by rw [h2]; decide)]; exact (hE5.trans hE6).trans hE7⟩
 rw [if_neg (by omega)] at hE
 obtain ⟨e', f', s0, i0, f0, q1, q2, hk1, hc, hmov, hok, hps, hf0, hff, hf0p, hat0, hat1⟩ := hokay hE
 rw [he] at q1; cases q1
 rw [hf] at q2; cases q2
 have hE07 := (hE5.trans hE6).trans hE7
 have h7 := h0.ext hE07
 obtain ⟨pe, hpe, hpid, _, _⟩ : ∃ f, R.find e.2.1 = some f ∧ f.1.id = e.2.1 ∧ f.2.2 + 1 = e.2.2 ∧ e.1 ∈ f.1.kids := by
  rcases up hR e1 with h | h
  ·rw [h] at hk1; exact absurd (I.check_iff.1 hR.check).1 hk1
  ·exact h
 obtain ⟨j, y, hj, hyr⟩ := rowOf hp (I.find_some hpe).1
 have hyid : y.r.id = x.r.par := by rw [hyr, hxr]; exact hpid
 have hout := domOut h7 hi hj hyid
 rw [hx] at hout
 refine CallK.mod hout (by simp) ?_
 rintro v w8 hM8 ⟨rfl, y', h8, hy'⟩
 have hidn : id ∉ s0.ids := fun hm => (List.nodup_append.1 hc.nodup).2.2 _ hm _ (by rw [← e2]; exact I.id_mem e.1) rfl
 have hij : i ≠ j := fun h => by
  subst h
  have hxy : x = y := by rw [hi] at hj; exact Option.some.inj hj
  exact hidn (by rw [← hx, hxy, hyid, hpar]; exact hc.par)
 have hik : i ≠ k := fun h => by
  subst h
  have hxz : x = z := by rw [hi] at hk; exact Option.some.inj hk
  exact hidn (by rw [← hx, hxz, hz]; exact hps)
 have hi8 : (X.set j y')[i]? = some x := by rw [List.getElem?_set, if_neg (fun e => hij e.symm)]; exact hi
 obtain ⟨cur, hcur, hlen⟩ := h8.cur hg
 have hl8 := hlen hi8
 refine ⟨rfl, _, rfl, g, i * 8 + 1, 88, cur, by rw [Addr.add_lit], hcur, by omega, by simp, fun w9 hC9 hB9 => ?_⟩
 let x' : Nd := ⟨{ x.r with par := p }, x.sa, x.sk⟩
 obtain ⟨h9, hC9'⟩ := h8.upd hi8 x' rfl (Chg.refl [] w8) (by simp) (h8.sa x (List.mem_of_getElem? hi8)) (h8.sk x (List.mem_of_getElem? hi8)) (fun b hb => .inl hb) (fun b hb => .inl hb) (h8.fit x (List.mem_of_getElem? hi8)) hg hcur hC9 hB9 (by simp) rfl
 obtain ⟨q, hq, hqid, hqk⟩ : ∃ q, ((X.set j y').set i x')[k]? = some q ∧ q.r.id = p ∧ q.r.kids.length = f0.1.kids.length := by
  have hk0 : ((X.set j y').set i x')[k]? = (X.set j y')[k]? := by rw [List.getElem?_set, if_neg hik]
  rw [hk0, List.getElem?_set]
  have hzk : z.r.kids = f.1.kids.map I.id := by rw [hzr]; rfl
  have hfk : f.1.kids.length = if f0.1.id = e.2.1 then f0.1.kids.length + 1 else f0.1.kids.length := by rw [hff]; exact ins_kidlen _ _ _ _
  by_cases hjk : j = k
  ·subst hjk
   rw [if_pos rfl, if_pos (List.getElem?_eq_some_iff.1 hj).1]
   have hyz : y = z := by rw [hj] at hk; exact Option.some.inj hk
   refine ⟨y', rfl, by rw [hy']; show y.r.id = p; rw [hyz]; exact hz, ?_⟩
   have hpp : f0.1.id = e.2.1 := by rw [hf0p, ← hz, ← hyz, hyid, hpar]
   rw [hy']
   show (y.r.kids.filter _).length = _
   have hfm : f.1.kids.map I.id = insAt i0 id (f0.1.kids.map I.id) := by
    rw [hff]
    show (f0.1.ins e.2.1 i0 e.1).kids.map I.id = _
    rw [I.ins_here i0 e.1 hpp, I.mk_kids, insAt_map, e2]
   rw [hyz, hzk, hfm, insAt_filter (fun c hc' => ?_) (by simp), List.length_map]
   obtain ⟨u, hu, rfl⟩ := List.mem_map.1 hc'
   have : u.id ≠ id := fun e3 => hidn (by rw [← e3]; exact I.mem_all (I.all_kid hf0 hu))
   simpa using this
  ·rw [if_neg hjk, hk]
   refine ⟨z, rfl, hz, ?_⟩
   have hpp : ¬ f0.1.id = e.2.1 := fun e3 => hjk (getNd h0.nodup hj hk (hyid.trans hpar) (hz.trans (hf0p.symm.trans e3))).1
   rw [if_neg hpp] at hfk
   rw [hzk, List.length_map, hfk]
 obtain ⟨g', hg', hgb, hcq⟩ := h9.at hq
 rw [hg] at hg'; cases hg'
 refine ⟨_, rfl, q.sk, hcq 7 _ rfl, fun w10 B10 hN10 hE10 hbox10 => ?_⟩
 have hb10 := hN10.ge
 have h10 := h9.ext hE10
 have hqm := List.mem_of_getElem? hq
 have hk10 := h10.sk q hqm
 have hat : (at_.toNat : Int) = at_ := by omega
 have hone : Own [] w10 (Sl.mk (some ⟨B10, 0, none⟩) 1 1) 1 3 [ic id] := Own.one (A := []) (cs := ic id) hbox10 (by simp)
 have hfew := hc.okay
 have hkf0 := kids_few hfew hf0
 have hins := slicesInsert_int (i := at_.toNat) hk10 (fun b hb => by have := hA b hb; have := hE07.size; have := hM8.size; have := hC9.size; have := hE10.size; omega) hone (fun b hb hm => by
  simp [Sl.blk] at hb; subst hb
  have := ((h9.sk q hqm).blk b hm).2; omega) (ones_ics [id]) (ones_ics _) (by simp) (by rw [List.length_map, hqk]; omega) (by simp; omega)
 rw [hat] at hins
 refine CallK.chg hins (by simp) ?_
 rintro v w11 hC11 ⟨s', rfl, hs', hbs'⟩
 obtain ⟨cur2, hcur2, hlen2⟩ := h10.cur hg
 have hl10 := hlen2 hq
 have honly := fun b (hb : b ∈ q.sk.blk) => h10.only hq (b := b) (.inr hb)
 have hcur11 : Box w11 g 88 cur2 := hcur2.keep hC11 fun hm => (honly g hm).2.2.2.1 (by rw [hgb]; simp)
 refine ⟨s', rfl, _, rfl, g, k * 8 + 7, 88, cur2, by rw [Addr.add_lit], hcur11, by omega, by simp, fun w12 hC12 hB12 => ?_⟩
 let q' : Nd := ⟨{ q.r with kids := insAt at_.toNat id q.r.kids }, q.sa, s'⟩
 have hs'' : Own A w11 q'.sk 1 3 (q'.r.kids.map ic) := by
  show Own _ _ _ _ _ ((insAt at_.toNat id q.r.kids).map ic)
  rw [insAt_map]
  unfold insAt
  rw [List.append_assoc] at hs'
  exact hs'
 obtain ⟨hup, hupC⟩ := h10.upd hq q' rfl hC11 (fun b hb => .inr (.inl hb)) ((h10.sa q hqm).keep hC11 fun b hb hm => ((h10.sa q hqm).apart hk10 (by decide)) b hb hm) hs'' (fun b hb => .inl hb) hbs' ⟨(h10.fit q hqm).1, by show (insAt _ _ _).length ≤ _; rw [insAt_len, hqk]; omega⟩ hg hcur11 hC12 hB12 (by simp) rfl
 refine ⟨by rw [hE], ?_⟩
 rw [if_pos hE]
 have hgA : g ∉ A := (h9.row.blk g (by rw [hgb]; simp)).1
 have hmod : Mod A w w12 := by
  have m2 : Mod A w8 w9 := Mod.of hC9 (by simpa using hgA)
  have m3 : Mod A w10 w12 := Mod.of hupC fun b hb => by
   rcases List.mem_cons.1 hb with rfl | hb
   ·exact hgA
   ·exact (honly b hb).1
  exact ((((Mod.ext hE07).trans hM8).trans m2).trans (Mod.ext hE10)).trans m3
 refine ⟨hmod, l, M, m, _, hup, ?_, by rw [hmov]; exact hok⟩
 have hx1 : ((X.set j y').map Nd.r).Perm (s0.recs (-1) ++ e.1.recs e.2.1) := by
  rw [set_recs (G := outK e.2.1 e.1.id) h0.nodup hj (by
   unfold outK
   rw [if_pos (hyid.trans hpar), hy', e2]) (fun q hq => by
   unfold outK
   rw [if_neg (by rw [← hpar, ← hyid]; exact hq)])]
  exact (hp.map _).trans hc.out
 have hx2 : (((X.set j y').set i x').map Nd.r).Perm (s0.recs (-1) ++ e.1.recs p) := by
  rw [set_recs (G := parK id p) h8.nodup hi8 (by unfold parK; rw [if_pos hx]) (fun q hq => by unfold parK; rw [if_neg (by rw [← hx]; exact hq)])]
  refine (hx1.map _).trans ?_
  rw [List.map_append]
  have t1 : (s0.recs (-1)).map (parK id p) = s0.recs (-1) := map_none (x := id) (fun r hr => by unfold parK; rw [if_neg hr]) (by rw [I.recs_id]; exact hidn)
  have t2 : (e.1.recs e.2.1).map (parK id p) = e.1.recs p := by
   have hnu := I.nodup_kids (List.nodup_append.1 hc.nodup).2.1
   rw [I.recs_eq, I.recs_eq e.1 p, List.map_cons]
   have t3 : (e.1.kids.flatMap fun u => u.recs e.1.id).map (parK id p) = e.1.kids.flatMap fun u => u.recs e.1.id := map_none (x := id) (fun r hr => by unfold parK; rw [if_neg hr]) (by
    rw [I.map_flatMap_congr (fun v _ => I.recs_id v _), ← e2]; exact hnu.1)
   rw [t3]
   unfold parK
   rw [if_pos (show (e.1.rec0 e.2.1).id = id from e2)]; rfl
  rw [t1, t2]
 rw [set_recs (G := I.insK p at_.toNat id) h10.nodup hq (by unfold I.insK; rw [if_pos hqid]) (fun r hr => by unfold I.insK; rw [if_neg (by rw [← hqid]; exact hr)])]
 refine (hx2.map _).trans ?_
 rw [hmov, List.map_append]
 have t4 : (e.1.recs p).map (I.insK p at_.toNat id) = e.1.recs p := I.insK_none (by rw [I.recs_id]; exact fun hm => (List.nodup_append.1 hc.nodup).2.2 _ hps _ hm rfl)
 rw [t4, ← e2]
 exact (I.ins_recs s0 at_.toNat e.1 (-1) hc.okay.nodup hps).symm
end
end
section
open Go.RowKit
theorem bytesLess_cmp : ∀ a b : Str, Op.bytesLess a b = decide (cmpS a b < 0)
 |[], [] => rfl
 |[], _ :: _ => rfl
 |_ :: _, [] => rfl
 |a :: x, b :: y => by
  have ih := bytesLess_cmp x y
  unfold cmpS at ih ⊢
  simp only [Op.bytesLess, Lib.compareBytes, ih]
  by_cases h1 : a < b
  ·simp [h1]
  ·by_cases h2 : b < a
   ·have : ¬ a = b := fun e => by subst e; exact h1 h2
    simp [h1, h2, this]
   ·have : a = b := by
     have e1 : ¬ a.toNat < b.toNat := h1
     have e2 : ¬ b.toNat < a.toNat := h2
     exact UInt8.toNat_inj.1 (by omega)
    simp [this]
theorem cmpS_anti (a b : Str) : cmpS a b = - cmpS b a := cmpS_cmp.anti a b trivial trivial
theorem cmpS_zero (a b : Str) : cmpS a b = 0 ↔ a = b := cmpS_cmp.zero a b trivial trivial
theorem cmpS_lt {a b c : Str} (h1 : cmpS a b < 0) (h2 : cmpS b c < 0) : cmpS a c < 0 := by
 have h3 := cmpS_cmp.trans a b c trivial trivial trivial (by omega) (by omega)
 rcases Int.lt_or_eq_of_le h3 with h | h
 ·exact h
 ·have e := (cmpS_zero a c).1 h
  subst e
  have := cmpS_anti a b
  omega
def attrGet : List (Str × Str) → Str → Str × Bool
 |[], _ => ([], false)
 |p :: r, nm => if p.1 = nm then (p.2, true) else attrGet r nm
end
section
open Go.RowKit
namespace I
def upd : I → Int → Str → List (Str × Str) → I | .node i k n t0 a0 ks, x, t, a => .node i k n (if i = x then t else t0) (if i = x then a else a0) (ks.attach.map fun ⟨v, _⟩ => upd v x t a)
theorem upd_eq (s : I) (x : Int) (t : Str) (a : List (Str × Str)) : s.upd x t a = .node s.id s.kind s.name (if s.id = x then t else s.text) (if s.id = x then a else s.attrs) (s.kids.map fun v => v.upd x t a) := by
 cases s with
 |node i k n t0 a0 ks =>
  rw [upd]
  congr 1
  exact List.attach_map_val (f := fun v => upd v x t a)
theorem upd_id (s : I) (x : Int) (t : Str) (a : List (Str × Str)) : (s.upd x t a).id = s.id := by rw [upd_eq]; rfl
theorem upd_kind (s : I) (x : Int) (t : Str) (a : List (Str × Str)) : (s.upd x t a).kind = s.kind := by rw [upd_eq]; rfl
theorem upd_none : ∀ (s : I) {x : Int} (t : Str) (a : List (Str × Str)), x ∉ s.ids → s.upd x t a = s := ind' fun s ih x t a h => by
 have h1 : s.id ≠ x := fun e => h (e ▸ id_mem s)
 have h2 : (s.kids.map fun v => v.upd x t a) = s.kids := map_self fun v hv => ih v hv t a fun hm => h (kid_ids hv hm)
 rw [upd_eq, if_neg h1, if_neg h1, h2, eta]
theorem upd_all (x : Int) (t : Str) (a : List (Str × Str)) : ∀ (s : I) (p : Int) (d : Nat), (s.upd x t a).all p d = (s.all p d).map fun e => (e.1.upd x t a, e.2) := ind' fun s ih p d => by
 have hk : (s.upd x t a).kids = s.kids.map fun v => v.upd x t a := by rw [upd_eq]; rfl
 rw [all_eq, all_eq s, List.map_cons, upd_id, hk, map_flatMap_congr (fun v hv => rfl), List.flatMap_map]
 congr 1
 have key : ∀ l : List I, (∀ v ∈ l, v ∈ s.kids) → (l.flatMap fun v => (v.upd x t a).all s.id (d + 1)) = l.flatMap fun v => (v.all s.id (d + 1)).map fun e => (e.1.upd x t a, e.2) := fun l => by
  induction l with
  |nil => intro _; rfl
  |cons v r ihl =>
   intro hl
   rw [List.flatMap_cons, List.flatMap_cons, ih v (hl v (by simp)), ihl fun u hu => hl u (by simp [hu])]
 exact key s.kids fun v hv => hv
def updK (x : Int) (t : Str) (a : List (Str × Str)) (r : Rec) : Rec := if r.id = x then { r with text := t, attrs := a } else r
theorem upd_rec0 (s : I) (x : Int) (t : Str) (a : List (Str × Str)) (p : Int) : (s.upd x t a).rec0 p = updK x t a (s.rec0 p) := by
 have hk : ((s.kids.map fun v => v.upd x t a).map I.id) = s.kids.map I.id := by
  rw [List.map_map]; exact List.map_congr_left fun v _ => upd_id v x t a
 rw [upd_eq]
 unfold updK rec0
 simp only [mk_id, mk_kind, mk_name, mk_text, mk_attrs, mk_kids, hk]
 by_cases h : s.id = x
 ·rw [if_pos h, if_pos h, if_pos h]
 ·rw [if_neg h, if_neg h, if_neg h]
theorem upd_recs (s : I) (x : Int) (t : Str) (a : List (Str × Str)) (p : Int) : (s.upd x t a).recs p = (s.recs p).map (updK x t a) := by
 unfold recs
 rw [upd_all, List.map_map, List.map_map]
 exact List.map_congr_left fun e _ => upd_rec0 e.1 x t a e.2.1
theorem upd_ids (s : I) (x : Int) (t : Str) (a : List (Str × Str)) : (s.upd x t a).ids = s.ids := by
 rw [← recs_id _ 0, upd_recs, List.map_map, ← recs_id s 0]
 exact List.map_congr_left fun r _ => by show (updK x t a r).id = r.id; unfold updK; split <;> rfl
theorem upd_depth (x : Int) (t : Str) (a : List (Str × Str)) : ∀ s : I, (s.upd x t a).toT.depth = s.toT.depth := ind' fun s ih => by
 have e1 : (s.upd x t a).toT.depth = 1 + (((s.kids.map fun v => v.upd x t a).map toT).map T.depth).foldr max 0 := by rw [upd_eq, toT_eq, T.depth_eq]; rfl
 have e2 : s.toT.depth = 1 + ((s.kids.map toT).map T.depth).foldr max 0 := by rw [toT_eq s, T.depth_eq]; rfl
 rw [e1, e2, List.map_map, List.map_map, List.map_map]
 congr 2
 exact List.map_congr_left fun v hv => ih v hv
theorem upd_ok (x : Int) (t : Str) (a : List (Str × Str)) : ∀ (s : I), s.ids.Nodup → (∀ v ∈ s.nodes, v.id = x → nodeOk (I.node v.id v.kind v.name t a v.kids).toT = true) → nodeOk s.toT = true → nodeOk (s.upd x t a).toT = true := ind' fun s ih hn hx hs => by
 obtain ⟨n1, n2⟩ := nodup_kids hn
 by_cases h : s.id = x
 ·have h2 : (s.kids.map fun v => v.upd x t a) = s.kids := map_self fun v hv => upd_none v t a fun hm => n1 (by rw [h]; exact List.mem_flatMap.2 ⟨v, hv, hm⟩)
  rw [upd_eq, if_pos h, if_pos h, h2]
  exact hx s (self_nodes s) h
 ·rw [upd_eq, if_neg h, if_neg h]
  by_cases h2 : s.kind = 2
  ·obtain ⟨h3, h4⟩ := (node_el h2).1 hs
   refine (node_el (s := .node s.id s.kind s.name s.text s.attrs (s.kids.map fun v => v.upd x t a)) h2).2 ⟨h3, fun v hv => ?_⟩
   rw [mk_kids] at hv
   obtain ⟨v', hv', rfl⟩ := List.mem_map.1 hv
   exact ⟨ih v' hv' (nodup_kid n2 v' hv') (fun u hu => hx u (kid_nodes hv' hu)) (h4 v' hv').1, by rw [upd_kind]; exact (h4 v' hv').2⟩
  ·have hk := node_ne h2 hs
   rw [hk]
   have e : I.node s.id s.kind s.name s.text s.attrs (([] : List I).map fun v => v.upd x t a) = s := by rw [List.map_nil, ← hk, eta]
   rw [e]; exact hs
theorem Okay.upd {s : I} {x : Int} {t : Str} {a : List (Str × Str)} {f : I × Int × Nat} (h : s.Okay) (hf : f ∈ s.all (-1) 1) (hx : f.1.id = x) (hk : f.1.kind ≠ 1) (hok : nodeOk (I.node f.1.id f.1.kind f.1.name t a f.1.kids).toT = true) : (s.upd x t a).Okay := by
 obtain ⟨h1, h2, h3, h4, h5, h6, h7⟩ := check_iff.1 h.check
 have hne : s.id ≠ x := fun e => by
  have : f = (s, -1, 1) := all_inj h.nodup hf (all_self _ _ _) (hx.trans e.symm)
  rw [this] at hk; exact hk h1
 have hkids : (s.upd x t a).kids = s.kids.map fun v => v.upd x t a := by rw [upd_eq]; rfl
 refine ⟨check_iff.2 ⟨by rw [upd_kind]; exact h1, by rw [upd_ids]; exact h2, by rw [upd_depth]; exact h3, by rw [upd_eq]; exact h4, by rw [upd_eq, if_neg hne]; exact h5, by rw [upd_eq]; show (if s.id = x then a else s.attrs) = []; rw [if_neg hne]; exact h6, fun v hv => ?_⟩, by rw [upd_ids]; exact h.nodup, by rw [upd_ids]; exact h.rng, by rw [upd_id]; exact h.root⟩
 rw [hkids] at hv
 obtain ⟨v', hv', rfl⟩ := List.mem_map.1 hv
 refine upd_ok x t a v' (nodup_kid (nodup_kids h.nodup).2 v' hv') (fun u hu hux => ?_) (h7 v' hv')
 obtain ⟨k, hk, rfl⟩ := nodes_all (kid_nodes hv' hu) (-1) 1
 rw [all_inj h.nodup hk hf (hux.trans hx.symm)]
 exact hok
theorem Okay.node {s : I} (h : s.Okay) {f : I × Int × Nat} (hf : f ∈ s.all (-1) 1) (hk : f.1.kind ≠ 1) : nodeOk f.1.toT = true := by
 obtain ⟨h1, _, _, _, _, _, h7⟩ := check_iff.1 h.check
 rw [all_eq] at hf
 rcases List.mem_cons.1 hf with e | hf
 ·rw [e] at hk; exact absurd h1 hk
 ·obtain ⟨u, hu, hfu⟩ := List.mem_flatMap.1 hf
  exact (sub_ok u (h7 u hu) f.1 (mem_nodes hfu)).1
end I
theorem nameOk_pos {n : Str} (h : nameOk n = true) : cmpS [] n < 0 := by
 unfold nameOk at h
 simp only [Bool.and_eq_true] at h
 cases n with
 |nil => simp at h
 |cons c r => unfold cmpS; simp [Lib.compareBytes]
theorem attrsOk_iff : ∀ {l : List (Str × Str)} {last : Str}, attrsOk last l = true ↔ (∀ p ∈ l, nameOk p.1 = true ∧ p.2.length ≤ 4096 ∧ cmpS last p.1 < 0) ∧ l.Pairwise fun a b => cmpS a.1 b.1 < 0
 |[], last => by simp [attrsOk]
 |p :: r, last => by
  have ih := attrsOk_iff (l := r) (last := p.1)
  have hc : (!(Op.bytesLess p.1 last) && !(decide (p.1 = last))) = true ↔ cmpS last p.1 < 0 := by
   rw [bytesLess_cmp]
   have h1 := cmpS_anti last p.1
   have h2 := cmpS_zero p.1 last
   simp only [Bool.and_eq_true, Bool.not_eq_true', decide_eq_false_iff_not]
   constructor
   ·rintro ⟨g1, g2⟩
    have : cmpS p.1 last ≠ 0 := fun e => g2 (h2.1 e)
    omega
   ·intro g
    exact ⟨by omega, fun e => by have := h2.2 e; omega⟩
  rw [attrsOk, Bool.and_eq_true, Bool.and_eq_true, Bool.and_eq_true, hc, ih]
  simp only [decide_eq_true_eq]
  constructor
  ·rintro ⟨⟨⟨g1, g2⟩, g3⟩, g4, g5⟩
   refine ⟨fun q hq => ?_, List.pairwise_cons.2 ⟨fun q hq => (g4 q hq).2.2, g5⟩⟩
   rcases List.mem_cons.1 hq with rfl | hq
   ·exact ⟨g2, g3, g1⟩
   ·exact ⟨(g4 q hq).1, (g4 q hq).2.1, cmpS_lt g1 (g4 q hq).2.2⟩
  ·rintro ⟨g1, g2⟩
   obtain ⟨g3, g4⟩ := List.pairwise_cons.1 g2
   have g5 := g1 p (by simp)
   exact ⟨⟨⟨g5.2.2, g5.1⟩, g5.2.1⟩, fun q hq => ⟨(g1 q (by simp [hq])).1, (g1 q (by simp [hq])).2.1, g3 q hq⟩, g4⟩
theorem sorted_of {l : List (Str × Str)} {last : Str} (h : attrsOk last l = true) : Sorted l := fun j k hjk hk => by
 have := List.pairwise_iff_getElem.1 (attrsOk_iff.1 h).2 j k (by omega) hk hjk
 simpa [List.getD_eq_getElem?_getD, hk, show j < l.length by omega] using this
def lessA (l : List (Str × Str)) (n : Str) : List (Str × Str) := l.filter fun p => decide (cmpS p.1 n < 0)
def moreA (l : List (Str × Str)) (n : Str) : List (Str × Str) := l.filter fun p => decide (0 < cmpS p.1 n)
def withA (l : List (Str × Str)) (n v : Str) : List (Str × Str) := lessA l n ++ (n, v) :: moreA l n
def withoutA (l : List (Str × Str)) (n : Str) : List (Str × Str) := l.filter fun p => decide (p.1 ≠ n)
def hasA (l : List (Str × Str)) (n : Str) : Bool := l.any fun p => decide (p.1 = n)
theorem place_split {l : List (Str × Str)} {n : Str} {i : Nat} (hs : Sorted l) (hp : PlaceOf l n i) :
  (∀ p ∈ l.take i, cmpS p.1 n < 0) ∧ if hasAt l n i = true then (i < l.length ∧ (l.getD i ([], [])).1 = n ∧ ∀ p ∈ l.drop (i + 1), 0 < cmpS p.1 n) else ∀ p ∈ l.drop i, 0 < cmpS p.1 n := by
 have hget : ∀ {j : Nat}, (h : j < l.length) → l.getD j ([], []) = l[j] := fun h => by simp [List.getD_eq_getElem?_getD, h]
 refine ⟨fun p hp' => ?_, ?_⟩
 ·obtain ⟨j, hj, rfl⟩ := List.getElem_of_mem hp'
  rw [List.length_take] at hj
  have := hp.less j (by omega)
  rw [hget (by omega)] at this
  rw [List.getElem_take]; exact this
 ·by_cases h : hasAt l n i = true
  ·rw [if_pos h]
   unfold hasAt at h
   simp only [Bool.and_eq_true, decide_eq_true_eq] at h
   refine ⟨h.1, h.2, fun p hp' => ?_⟩
   obtain ⟨j, hj, rfl⟩ := List.getElem_of_mem hp'
   rw [List.length_drop] at hj
   rw [List.getElem_drop]
   have := hs i (i + 1 + j) (by omega) (by omega)
   rw [h.2, hget (by omega)] at this
   have := cmpS_anti n (l[i + 1 + j]'(by omega)).1
   omega
  ·rw [if_neg h]
   intro p hp'
   obtain ⟨j, hj, rfl⟩ := List.getElem_of_mem hp'
   rw [List.length_drop] at hj
   rw [List.getElem_drop]
   have h0 := hp.more (i + j) (by omega) (by omega)
   rw [hget (by omega)] at h0
   by_cases hj0 : j = 0
   ·subst hj0
    have hne : cmpS (l[i + 0]'(by omega)).1 n ≠ 0 := fun e => h (by
     have e2 := (cmpS_zero _ _).1 e
     unfold hasAt
     simp only [Nat.add_zero] at e2
     rw [hget (by omega), e2]
     simp; omega)
    omega
   ·have h1 := hs i (i + j) (by omega) (by omega)
    have h2 := hp.more i (Nat.le_refl _) (by omega)
    rw [hget (show i + j < l.length by omega)] at h1
    have hne : cmpS (l[i + j]'(by omega)).1 n ≠ 0 := fun e => by
     rw [(cmpS_zero _ _).1 e] at h1; omega
    omega
theorem filter_nil {α : Type} {P : α → Bool} {l : List α} (h : ∀ x ∈ l, P x = false) : l.filter P = [] := List.filter_eq_nil_iff.2 fun x hx => by rw [h x hx]; decide
theorem place_has {l : List (Str × Str)} {n : Str} {i : Nat} (hs : Sorted l) (hp : PlaceOf l n i) (h : hasAt l n i = true) : i < l.length ∧ (l.getD i ([], [])).1 = n ∧ lessA l n = l.take i ∧ moreA l n = l.drop (i + 1) ∧ withoutA l n = l.take i ++ l.drop (i + 1) ∧ hasA l n = true := by
 obtain ⟨h1, h2⟩ := place_split hs hp
 rw [if_pos h] at h2
 obtain ⟨hi, hn, h3⟩ := h2
 have hl : l = l.take i ++ l.getD i ([], []) :: l.drop (i + 1) := by
  have e : l.getD i ([], []) = l[i] := by simp [List.getD_eq_getElem?_getD, hi]
  rw [e, ← List.drop_eq_getElem_cons hi, List.take_append_drop]
 have z : cmpS n n = 0 := (cmpS_zero n n).2 rfl
 have ne1 : ∀ p ∈ l.take i, p.1 ≠ n := fun p hp e => by have := h1 p hp; rw [e] at this; omega
 have ne2 : ∀ p ∈ l.drop (i + 1), p.1 ≠ n := fun p hp e => by have := h3 p hp; rw [e] at this; omega
 refine ⟨hi, hn, ?_, ?_, ?_, ?_⟩
 ·refine (congrArg (fun l => lessA l n) hl).trans ?_
  unfold lessA
  rw [List.filter_append, List.filter_cons, filter_all (fun p hp => decide_eq_true (h1 p hp)), filter_nil (l := l.drop (i + 1)) (fun p hp => decide_eq_false (by have := h3 p hp; omega)), if_neg (by rw [hn]; simp; omega), List.append_nil]
 ·refine (congrArg (fun l => moreA l n) hl).trans ?_
  unfold moreA
  rw [List.filter_append, List.filter_cons, filter_nil (l := l.take i) (fun p hp => decide_eq_false (by have := h1 p hp; omega)), filter_all (l := l.drop (i + 1)) (fun p hp => decide_eq_true (h3 p hp)), if_neg (by rw [hn]; simp; omega), List.nil_append]
 ·refine (congrArg (fun l => withoutA l n) hl).trans ?_
  unfold withoutA
  rw [List.filter_append, List.filter_cons, filter_all (l := l.take i) (fun p hp => decide_eq_true (ne1 p hp)), filter_all (l := l.drop (i + 1)) (fun p hp => decide_eq_true (ne2 p hp)), if_neg (by rw [hn]; simp)]
 ·unfold hasA
  rw [List.any_eq_true]
  refine ⟨l.getD i ([], []), ?_, decide_eq_true hn⟩
  rw [List.getD_eq_getElem?_getD, List.getElem?_eq_getElem hi]; exact List.getElem_mem hi
theorem place_no {l : List (Str × Str)} {n : Str} {i : Nat} (hs : Sorted l) (hp : PlaceOf l n i) (h : hasAt l n i = false) : lessA l n = l.take i ∧ moreA l n = l.drop i ∧ hasA l n = false := by
 obtain ⟨h1, h2⟩ := place_split hs hp
 rw [if_neg (by rw [h]; decide)] at h2
 have hl : l = l.take i ++ l.drop i := (List.take_append_drop i l).symm
 have z : cmpS n n = 0 := (cmpS_zero n n).2 rfl
 refine ⟨?_, ?_, ?_⟩
 ·refine (congrArg (fun l => lessA l n) hl).trans ?_
  unfold lessA
  rw [List.filter_append, filter_all (fun p hp => decide_eq_true (h1 p hp)), filter_nil (l := l.drop i) (fun p hp => decide_eq_false (by have := h2 p hp; omega)), List.append_nil]
 ·refine (congrArg (fun l => moreA l n) hl).trans ?_
  unfold moreA
  rw [List.filter_append, filter_nil (l := l.take i) (fun p hp => decide_eq_false (by have := h1 p hp; omega)), filter_all (l := l.drop i) (fun p hp => decide_eq_true (h2 p hp)), List.nil_append]
 ·unfold hasA
  rw [Bool.eq_false_iff]
  intro ha
  obtain ⟨p, hp', e⟩ := List.any_eq_true.1 ha
  have e := of_decide_eq_true e
  rw [hl] at hp'
  rcases List.mem_append.1 hp' with hm | hm
  ·have := h1 p hm; rw [e] at this; omega
  ·have := h2 p hm; rw [e] at this; omega
theorem withA_ok {l : List (Str × Str)} (h : attrsOk [] l = true) {n v : Str} (hn : nameOk n = true) (hv : v.length ≤ 4096) : attrsOk [] (withA l n v) = true := by
 obtain ⟨h1, h2⟩ := attrsOk_iff.1 h
 refine attrsOk_iff.2 ⟨fun p hp => ?_, ?_⟩
 ·unfold withA at hp
  rcases List.mem_append.1 hp with hp | hp
  ·exact h1 p (List.mem_filter.1 hp).1
  ·rcases List.mem_cons.1 hp with rfl | hp
   ·exact ⟨hn, hv, nameOk_pos hn⟩
   ·exact h1 p (List.mem_filter.1 hp).1
 ·unfold withA
  refine List.pairwise_append.2 ⟨h2.filter _, List.pairwise_cons.2 ⟨fun q hq => ?_, h2.filter _⟩, fun p hp q hq => ?_⟩
  ·have := of_decide_eq_true (List.mem_filter.1 hq).2
   have := cmpS_anti n q.1
   show cmpS n q.1 < 0
   omega
  ·have hp' : cmpS p.1 n < 0 := of_decide_eq_true (List.mem_filter.1 hp).2
   rcases List.mem_cons.1 hq with rfl | hq
   ·exact hp'
   ·have := of_decide_eq_true (List.mem_filter.1 hq).2
    have := cmpS_anti n q.1
    exact cmpS_lt hp' (by omega)
theorem withoutA_ok {l : List (Str × Str)} (h : attrsOk [] l = true) (n : Str) : attrsOk [] (withoutA l n) = true := by
 obtain ⟨h1, h2⟩ := attrsOk_iff.1 h
 exact attrsOk_iff.2 ⟨fun p hp => h1 p (List.mem_filter.1 hp).1, h2.filter _⟩
theorem withA_len {l : List (Str × Str)} (h : attrsOk [] l = true) (n v : Str) : (withA l n v).length = if hasA l n = true then l.length else l.length + 1 := by
 have h2 := (attrsOk_iff.1 h).2
 unfold withA
 rw [List.length_append, List.length_cons]
 have key : ∀ l : List (Str × Str), l.Pairwise (fun a b => cmpS a.1 b.1 < 0) → (lessA l n).length + (moreA l n).length + (if hasA l n = true then 1 else 0) = l.length := fun l => by
  induction l with
  |nil => intro _; rfl
  |cons p r ih =>
   intro hp
   obtain ⟨g1, g2⟩ := List.pairwise_cons.1 hp
   have ih := ih g2
   have ha := cmpS_anti p.1 n
   have hz := cmpS_zero p.1 n
   unfold lessA moreA hasA at ih ⊢
   rw [List.filter_cons, List.filter_cons, List.any_cons]
   rcases Int.lt_trichotomy (cmpS p.1 n) 0 with hc | hc | hc
   ·have hne : ¬ p.1 = n := fun e => by have := hz.2 e; omega
    rw [if_pos (decide_eq_true hc), if_neg (by simp; omega), decide_eq_false hne, Bool.false_or]
    simp only [List.length_cons]; omega
   ·have he := hz.1 hc
    have hr : (r.any fun p => decide (p.1 = n)) = false := by
     rw [Bool.eq_false_iff]; intro hh
     obtain ⟨q, hq, e⟩ := List.any_eq_true.1 hh
     have := g1 q hq
     rw [of_decide_eq_true e, he] at this
     have := (cmpS_zero n n).2 rfl; omega
    rw [if_neg (by simp; omega), if_neg (by simp; omega), decide_eq_true he, Bool.true_or, if_pos rfl]
    rw [hr, if_neg (by decide)] at ih
    simp only [List.length_cons]; omega
   ·have hne : ¬ p.1 = n := fun e => by have := hz.2 e; omega
    rw [if_neg (by simp; omega), if_pos (decide_eq_true hc), decide_eq_false hne, Bool.false_or]
    simp only [List.length_cons]; omega
 have := key l h2
 by_cases hh : hasA l n = true
 ·rw [if_pos hh] at this ⊢; omega
 ·rw [if_neg hh] at this ⊢; omega
end
section
open Go.RowKit
theorem madeList (cs : Array Value) : ∀ n : Nat, (madeCells cs (n * cs.size)).toList = (List.replicate n cs.toList).flatten := by
 intro n
 apply List.ext_getElem
 ·simp [madeCells, List.length_flatten]
 ·intro i h1 h2
  have hs : 0 < cs.size := by
   simp [madeCells] at h1
   rcases Nat.eq_zero_or_pos cs.size with h | h
   ·rw [h] at h1; omega
   ·exact h
  have hm : i % cs.size < cs.size := Nat.mod_lt _ hs
  have hg := flatten_group (size := cs.size) (List.replicate n cs.toList) (fun u hu => by rw [(List.mem_replicate.1 hu).2]; simp) (i / cs.size) (by
   simp [madeCells] at h1 ⊢
   exact Nat.div_lt_of_lt_mul (by rwa [Nat.mul_comm] at h1))
  have hget : (List.replicate n cs.toList).getD (i / cs.size) [] = cs.toList := by
   have : i / cs.size < n := by
    simp [madeCells] at h1
    exact Nat.div_lt_of_lt_mul (by rwa [Nat.mul_comm] at h1)
   simp [List.getD_eq_getElem?_getD, List.getElem?_replicate, this]
  rw [hget] at hg
  have h3 := congrArg (fun l => l[i % cs.size]?) hg
  simp only [List.getElem?_take, List.getElem?_drop, if_pos hm] at h3
  rw [show i / cs.size * cs.size + i % cs.size = i by rw [Nat.mul_comm]; exact Nat.div_add_mod _ _, List.getElem?_eq_getElem h2, List.getElem?_eq_getElem (by simpa using hm)] at h3
  rw [Option.some.inj h3]
  simp [madeCells, hm]
theorem makeRow {P : Program} {w : World} {A bx : List Nat} {t T : TypeId} {z : Value} {size bytes n : Nat} {K : Value → World → Prop} (ht : P.underlying t = some (.slice T)) (hi : TI P T z size bytes) (hzs : z.cells.size = size) (hn : n ≤ 1000000000) (hb : bytes * n ≤ 140737488355328) (hA : ∀ b ∈ A, b < w.heap.size)
  (k : ∀ w', Own A w' ⟨some ⟨w.heap.size, 0, none⟩, n, n⟩ size T (List.replicate n z.cells.toList) → Ext w w' → K (Sl.mk (some ⟨w.heap.size, 0, none⟩) n n).v w') :
  RunK P (Instr.makeSlice t (.int .i64 (n : Int)) (.int .i64 (n : Int))) w bx K := by
 obtain ⟨i, h1, h2, h3, h4⟩ := hi
 subst h3 h4
 have hb' : (i.bytes : Int) * (n : Int) ≤ 281474976710656 := by
  have h : ((i.bytes * n : Nat) : Int) ≤ 281474976710656 := by omega
  rwa [Int.natCast_mul] at h
 have hr := run_make (P := P) w t T i z ht h1 h2 .i64 .i64 (n : Int) (n : Int) (by omega) (by omega) hb' (by omega)
 simp only [Int.toNat_natCast] at hr
 have hE : Ext w (w.alloc (.cells (madeCells z.cells (n * i.size)) T)) := Ext.alloc _ _
 refine ⟨_, _, hr, hE.noTouch _, hE.size, k _ ⟨by simp, Nat.le_refl _, by simp [maxLen]; omega, fun u hu => ?_, .inr ⟨w.heap.size, (madeCells z.cells (n * i.size)).toList, rfl, fun hm => by have := hA _ hm; omega, ?_, ?_, ?_⟩⟩ hE⟩
 ·rw [(List.mem_replicate.1 hu).2]; simpa using hzs
 ·unfold Box; rw [heap_alloc_new]
 ·simp [madeCells]
 ·have := madeList z.cells n
  rw [hzs] at this
  rw [this, List.take_of_length_le]
  simp [List.length_flatten, hzs]
end
section
open Go.RowKit Go.MapKept
section
variable {A : List Nat} {w w1 : World} {D : Nat} {l : Sl} {M : Nat} {m : List (Int × Value)} {X : List Nd}
theorem Arena.inner (h : Arena A w D l M m X) {i : Nat} {x : Nd} (hi : X[i]? = some x) (x' : Nd) (hid : x'.r.id = x.r.id) {F : List Nat} (hC : Chg F w w1) (hF : ∀ b ∈ F, b ∈ x.sa.blk ∨ b ∈ x.sk.blk ∨ w.heap.size ≤ b)
  (hsa : Own A w1 x'.sa 2 63 (x'.r.attrs.map ac)) (hsk : Own A w1 x'.sk 1 3 (x'.r.kids.map ic)) (hba : ∀ b ∈ x'.sa.blk, b ∈ x.sa.blk ∨ w.heap.size ≤ b) (hbk : ∀ b ∈ x'.sk.blk, b ∈ x.sk.blk ∨ w.heap.size ≤ b) (hfit : x'.r.attrs.length ≤ 1000000 ∧ x'.r.kids.length ≤ 1000000) (heq : ndc x = ndc x') :
  Arena A w1 D l M m (X.set i x') ∧ Mod A w w1 := by
 obtain ⟨g, hg, hgb, _⟩ := h.at hi
 obtain ⟨cur, hcur, _⟩ := h.cur hg
 have hFn : ∀ {b : Nat}, b ∈ F → b < w.heap.size → b ∈ x.sa.blk ∨ b ∈ x.sk.blk := fun hb hlt => by
  rcases hF _ hb with h | h | h
  ·exact .inl h
  ·exact .inr h
  ·omega
 have hcur1 : Box w1 g 88 cur := hcur.keep hC fun hm => (h.only hi (hFn hm hcur.lt)).2.2.2.1 (by rw [hgb]; simp)
 obtain ⟨hu, _⟩ := h.upd hi x' hid hC hF hsa hsk hba hbk hfit hg hcur1 (Chg.refl [g] w1) (o := 0) (us := []) hcur1 (by simp) heq
 exact ⟨hu, ⟨hC.os, hC.tape, hC.output, hC.size, fun k hk hA => hC.block k hk fun hm => (h.only hi (hFn hm hk)).1 hA⟩⟩
end
section
variable {A : List Nat} {w : World} {D : Nat} {R : I}
theorem updPerm {X : List Nd} (hn : (X.map fun x => x.r.id).Nodup) (hp : (X.map Nd.r).Perm (R.recs (-1))) {i : Nat} {x x' : Nd} (hi : X[i]? = some x) {id : Int} (hx : x.r.id = id) {t : Str} {a : List (Str × Str)} (hx' : x'.r = { x.r with text := t, attrs := a }) : ((X.set i x').map Nd.r).Perm ((R.upd id t a).recs (-1)) := by
 rw [set_recs (G := I.updK id t a) hn hi (by rw [hx']; unfold I.updK; rw [if_pos hx]) (fun z hz => by unfold I.updK; rw [if_neg (by rw [← hx]; exact hz)]), I.upd_recs]
 exact hp.map _
def txtE (R : I) (id : Int) (text : Str) : Int := match R.find id with
 |none => 3
 |some e => if e.1.kind ≠ 3 ∧ e.1.kind ≠ 4 then 4 else if e.1.kind = 3 ∧ text = [] then 1 else if 4096 < text.length then 2 else 0
theorem domText (h : Dom A w D R) (id : Int) (text : Str) :
  Calls Tryz.prog 47 #[.pointer (some ⟨D, 0, none⟩), .int .i64 id, .string (Bs text)] w (Ret fun v w' => v = .int .i64 (txtE R id text) ∧ if txtE R id text = 0 then Mod A w w' ∧ Dom A w' D (R.upd id text []) else Ext w w') := by
 have hR := h.okay
 obtain ⟨E, hE⟩ : ∃ E, E = txtE R id text := ⟨_, rfl⟩
 rw [← hE]
 unfold txtE at hE
 refine dom_Dom_Text.ok _ _ _ ?_
 unfold dom_Dom_Text.vc
 obtain ⟨l, M, m, X, h0, hp, _⟩ := h
 refine CallK.ext (domNode h0 id) ?_
 rintro v w1 hE1 (⟨hn, rfl⟩ | ⟨i, x, g, hi, hx, hg, rfl⟩)
 ·have hf := recNone hp hn
  rw [hf] at hE
  exact ⟨none, rfl, fun _ => ⟨by rw [hE], by rw [if_neg (by rw [hE]; exact (by decide : ¬ (3 : Int) = 0))]; exact hE1⟩, fun hb => by cases hb⟩
 obtain ⟨e, he, hxr⟩ := recOf hp hR hi
 rw [hx] at he
 rw [he] at hE
 simp only at hE
 obtain ⟨e1, e2⟩ := I.find_some he
 have h1 := h0.ext hE1
 obtain ⟨g', hg', hgb, hc⟩ := h1.at hi
 rw [hg] at hg'; cases hg'
 have hxm := List.mem_of_getElem? hi
 have hkind : x.r.kind = e.1.kind := by rw [hxr]; rfl
 have hck : w1.cell? (((⟨g, i * 8, none⟩ : Addr).add 2).add 0) = some (.int .i64 e.1.kind) := by rw [← hkind]; exact hc 2 _ rfl
 refine ⟨_, rfl, fun hb => (by cases hb), fun _ => ⟨_, rfl, e.1.kind, hck, _, fun _ => rfl, e.1.kind, fun _ => hck, fun hb => ?_, fun hgood => ⟨_, rfl, e.1.kind, hck, fun hb => ?_, fun hg2 => ⟨fun hb => ?_, fun hg3 => ?_⟩⟩⟩⟩
 ·have h4 : E = 4 := by rw [hE, if_pos hb]
  exact ⟨by rw [h4], by rw [if_neg (by rw [h4]; decide)]; exact hE1⟩
 ·have h1 : E = 1 := by rw [hE, if_neg (by rintro ⟨a, b⟩; rcases hgood with h | h; exact h a; exact h b), if_pos hb]
  exact ⟨by rw [h1], by rw [if_neg (by rw [h1]; decide)]; exact hE1⟩
 ·have h2 : E = 2 := by rw [hE, if_neg (by rintro ⟨a, b⟩; rcases hgood with h | h; exact h a; exact h b), if_neg (by rintro ⟨a, b⟩; rcases hg2 with h | h; exact h a; exact h b), if_pos (by omega)]
  exact ⟨by rw [h2], by rw [if_neg (by rw [h2]; decide)]; exact hE1⟩
 rw [if_neg (by rintro ⟨a, b⟩; rcases hgood with h | h; exact h a; exact h b), if_neg (by rintro ⟨a, b⟩; rcases hg2 with h | h; exact h a; exact h b), if_neg (by omega)] at hE
 have hk34 : e.1.kind = 3 ∨ e.1.kind = 4 := hgood.imp Classical.not_not.1 Classical.not_not.1
 have hno := hR.node e1 (by omega)
 have hne : e.1.toT.kind ≠ 2 := by rw [I.toT_kind]; omega
 rw [nodeOk_ne hne, I.toT_attrs, I.toT_kids, I.toT_kind, I.toT_name, I.toT_text] at hno
 simp only [Bool.and_eq_true, List.isEmpty_iff] at hno
 have hat : e.1.attrs = [] := hno.1.1
 have hxa : x.r.attrs = [] := by rw [hxr]; exact hat
 obtain ⟨cur, hcur, hlen⟩ := h1.cur hg
 have hl8 := hlen hi
 refine ⟨_, rfl, g, i * 8 + 4, 88, cur, by rw [Addr.add_lit, Addr.add_lit], hcur, by omega, by simp, fun w2 hC2 hB2 => ?_⟩
 let x' : Nd := ⟨{ x.r with text := text, attrs := [] }, x.sa, x.sk⟩
 obtain ⟨hu, hC⟩ := h1.upd hi x' rfl (Chg.refl [] w1) (by simp) (by have := h1.sa x hxm; rw [hxa] at this; exact this) (h1.sk x hxm) (fun b hb => .inl hb) (fun b hb => .inl hb) ⟨by simp [x'], (h1.fit x hxm).2⟩ hg hcur hC2 hB2 (by simp) rfl
 refine ⟨by rw [hE], ?_⟩
 rw [if_pos hE]
 refine ⟨(Mod.ext hE1).trans (Mod.of hC fun b hb => by simp at hb; subst hb; exact (h1.row.blk b (by rw [hgb]; simp)).1), l, M, m, _, hu, updPerm h0.nodup hp hi hx rfl, hR.upd e1 e2 (by omega) ?_⟩
 have hne' : (I.node e.1.id e.1.kind e.1.name text [] e.1.kids).toT.kind ≠ 2 := by rw [I.toT_kind, I.mk_kind]; omega
 have hno0 : e.1.kids = [] := by have := hno.1.2; simpa using this
 rw [nodeOk_ne hne', I.toT_attrs, I.toT_kids, I.toT_kind, I.toT_name, I.toT_text, I.mk_attrs, I.mk_kids, I.mk_kind, I.mk_name, I.mk_text]
 obtain ⟨_, h9⟩ := hno
 have hempty : ([] : List (Str × Str)).isEmpty = true := rfl
 rcases hk34 with hk | hk
 ·rw [if_pos hk] at h9
  simp only [Bool.and_eq_true] at h9
  have ht : ¬ text = [] := by rcases hg2 with h | h; exact absurd hk h; exact h
  have ht' : text.isEmpty = false := by cases text with
   |nil => exact absurd rfl ht
   |cons a b => rfl
  rw [if_pos hk, h9.1.1, ht', hempty, decide_eq_true (show text.length ≤ 4096 by omega)]
  simp [hno0]
 ·rw [if_neg (by omega), if_pos hk] at h9
  simp only [Bool.and_eq_true] at h9
  rw [if_neg (by omega), if_pos hk, h9.1, hempty, decide_eq_true (show text.length ≤ 4096 by omega)]
  simp [hno0]
theorem domAttr (h : Dom A w D R) {p : Addr} {s : Sl} {ats : List (Str × Str)} (hc : w.cell? ((p.add 2).add 3) = some s.v) (hs : Row [] w s 2 (ats.map ac)) (hso : Sorted ats) (hb : ats.length ≤ 1000000) (n : Str) :
  Calls Tryz.prog 72 #[.pointer (some p), .string (Bs n)] w (Ret fun v w' => Ext w w' ∧ ∃ i : Nat, PlaceOf ats n i ∧ v = .tuple #[.int .i64 (i : Int), .bool (hasAt ats n i)]) := by
 refine dom_node_attr.ok _ _ ?_
 unfold dom_node_attr.vc
 refine ⟨s, hc, CallK.ext (searchAttr hs hso (by omega) n) ?_⟩
 rintro v w1 hE1 ⟨i, hi, rfl⟩
 exact ⟨_, _, rfl, hE1, i, hi, rfl⟩
def setE (R : I) (id : Int) (name value : Str) : Int := match R.find id with
 |none => 3
 |some e => if e.1.kind ≠ 2 then 4 else if nameOk name = false then 8 else if 4096 < value.length ∨ (hasA e.1.attrs name = false ∧ 12 ≤ e.1.attrs.length) then 2 else 0
def attrsOf (R : I) (id : Int) : List (Str × Str) := match R.find id with
 |some e => e.1.attrs
 |none => []
theorem elAttrs (hR : R.Okay) {e : I × Int × Nat} (e1 : e ∈ R.all (-1) 1) (hk : e.1.kind = 2) : nameOk e.1.name = true ∧ e.1.text = [] ∧ e.1.attrs.length ≤ 12 ∧ attrsOk [] e.1.attrs = true ∧ ∀ u ∈ e.1.kids, nodeOk u.toT = true ∧ u.kind ≠ 5 := by
 obtain ⟨h1, h2⟩ := (I.node_el hk).1 (hR.node e1 (by omega))
 simp only [Bool.and_eq_true, List.isEmpty_iff, decide_eq_true_eq] at h1
 exact ⟨h1.1.1, h1.1.2, h1.2.1, h1.2.2, h2⟩
theorem set_okay (hR : R.Okay) {e : I × Int × Nat} (e1 : e ∈ R.all (-1) 1) (hk : e.1.kind = 2) {a : List (Str × Str)} (ha : attrsOk [] a = true) (hl : a.length ≤ 12) : (R.upd e.1.id [] a).Okay := by
 obtain ⟨h1, h2, h3, h4, h5⟩ := elAttrs hR e1 hk
 refine hR.upd e1 rfl (by omega) ((I.node_el (s := I.node e.1.id e.1.kind e.1.name [] a e.1.kids) hk).2 ⟨?_, h5⟩)
 rw [I.mk_name, I.mk_text, I.mk_attrs, h1, ha]
 simp [hl]
theorem domSet (h : Dom A w D R) (hA : ∀ b ∈ A, b < w.heap.size) (id : Int) (name value : Str) :
  Calls Tryz.prog 41 #[.pointer (some ⟨D, 0, none⟩), .int .i64 id, .string (Bs name), .string (Bs value)] w (Ret fun v w' => v = .int .i64 (setE R id name value) ∧ if setE R id name value = 0 then Mod A w w' ∧ Dom A w' D (R.upd id [] (withA (attrsOf R id) name value)) else Ext w w') := by
 have hR := h.okay
 have hd := h
 obtain ⟨E, hE⟩ : ∃ E, E = setE R id name value := ⟨_, rfl⟩
 rw [← hE]
 unfold setE at hE
 refine dom_Dom_Set.ok _ _ _ _ ?_
 unfold dom_Dom_Set.vc
 obtain ⟨l, M, m, X, h0, hp, _⟩ := h
 refine CallK.ext (domNode h0 id) ?_
 rintro v w1 hE1 (⟨hn, rfl⟩ | ⟨i, x, g, hi, hx, hg, rfl⟩)
 ·have hf := recNone hp hn
  rw [hf] at hE
  exact ⟨none, rfl, fun _ => ⟨by rw [hE], by rw [if_neg (by rw [hE]; exact (by decide : ¬ (3 : Int) = 0))]; exact hE1⟩, fun hb => by cases hb⟩
 obtain ⟨e, he, hxr⟩ := recOf hp hR hi
 rw [hx] at he
 rw [he] at hE
 simp only at hE
 have haof : attrsOf R id = e.1.attrs := by unfold attrsOf; rw [he]
 rw [haof]
 obtain ⟨e1, e2⟩ := I.find_some he
 have hxm := List.mem_of_getElem? hi
 have hkind : x.r.kind = e.1.kind := by rw [hxr]; rfl
 have hxa : x.r.attrs = e.1.attrs := by rw [hxr]; rfl
 have atc : ∀ w', Ext w w' → Cells w' ⟨g, i * 8, none⟩ (ndc x) := fun w' hE' => by
  obtain ⟨g', hg', _, hc⟩ := (h0.ext hE').at hi
  rw [hg] at hg'; cases hg'; exact hc
 have hgb : l.blk = [g] := by simp [Sl.blk, hg]
 refine ⟨_, rfl, fun hb => (by cases hb), fun _ => ⟨_, rfl, e.1.kind, by rw [← hkind]; exact atc w1 hE1 2 _ rfl, fun hk => ?_, fun hk => ?_⟩⟩
 ·have h4 : E = 4 := by rw [hE, if_pos hk]
  exact ⟨by rw [h4], by rw [if_neg (by rw [h4]; decide)]; exact hE1⟩
 rw [if_neg hk] at hE
 have hk2 : e.1.kind = 2 := Classical.not_not.1 hk
 obtain ⟨_, hte, hal, hao, _⟩ := elAttrs hR e1 hk2
 refine CallK.exact (treeName name) fun w2 hE2 => ⟨_, rfl, fun hb => ?_, fun hnm => ?_⟩
 ·have h8 : E = 8 := by rw [hE, if_pos hb]
  exact ⟨by rw [h8], by rw [if_neg (by rw [h8]; decide)]; exact hE1.trans hE2⟩
 rw [if_neg (by rw [hnm]; decide)] at hE
 have hE02 := hE1.trans hE2
 have hso : Sorted x.r.attrs := by rw [hxa]; exact sorted_of hao
 have hrow2 := ((h0.ext hE02).sa x hxm).row.less (A' := []) (by simp)
 have hxl : x.r.attrs.length ≤ 12 := by rw [hxa]; exact hal
 refine CallK.ext (domAttr (hd.ext hE02) (p := ⟨g, i * 8, none⟩) (atc w2 hE02 5 _ rfl) hrow2 hso (by omega) name) ?_
 rintro v w3 hE3 ⟨q, hq, rfl⟩
 have hE03 := hE02.trans hE3
 have h3 := h0.ext hE03
 have hsn : x.sa.n = x.r.attrs.length := by have := (h0.sa x hxm).len; rwa [List.length_map] at this
 have hhas : hasAt x.r.attrs name q = hasA e.1.attrs name := by
  rw [← hxa]
  cases hh : hasAt x.r.attrs name q with
  |true => rw [(place_has hso hq hh).2.2.2.2.2]
  |false => rw [(place_no hso hq hh).2.2]
 have hwl := withA_len hao name value
 refine ⟨(q : Int), _, rfl, _, fun _ => rfl, x.sa, fun _ => atc w3 hE03 5 _ rfl, fun hb => ?_, fun hgood => ⟨fun hno => ?_, fun hyes => ?_⟩⟩
 ·have h2 : E = 2 := by rw [hE, if_pos (by rw [← hhas, ← hxa]; rcases hb with hb | hb; exact .inl (by omega); exact .inr ⟨hb.1, by omega⟩)]
  exact ⟨by rw [h2], by rw [if_neg (by rw [h2]; decide)]; exact hE03⟩
 all_goals
  have hv4 : value.length ≤ 4096 := by omega
  rw [if_neg (by rw [← hhas, ← hxa]; rintro (hb | hb); omega; rcases hgood.2 with h | h; rw [h] at hb; cases hb.1; omega)] at hE
  have hwo := withA_ok hao hnm hv4
 ·obtain ⟨hla, hma, hha⟩ := place_no hso hq hno
  have hwl2 : (withA e.1.attrs name value).length ≤ 12 := by
   rw [hwl, ← hxa, hha, if_neg (by decide)]
   rcases hgood.2 with h | h
   ·rw [hno] at h; cases h
   ·omega
  refine ⟨_, rfl, x.sa, atc w3 hE03 5 _ rfl, fun w4 B4 hN4 hE4 hbox4 => ?_⟩
  have hb4 := hN4.ge
  have hE04 := hE03.trans hE4
  have h4 := h0.ext hE04
  have ha4 := h4.sa x hxm
  have hone : Own [] w4 (Sl.mk (some ⟨B4, 0, none⟩) 1 1) 2 63 [ac (name, [])] := Own.one (A := []) (cs := ac (name, [])) hbox4 (by simp)
  refine CallK.chg (slicesInsert_attr (i := q) ha4 (fun b hb => by have := hA b hb; have := hE04.size; omega) hone (fun b hb hm => by
   simp [Sl.blk] at hb; subst hb
   have := ((h3.sa x hxm).blk b hm).2; omega) (ones_ac (name, [])) (ones_acs _) (by simp) (by rw [List.length_map]; exact hq.le) (by simp; omega)) (by simp) ?_
  rintro v w5 hC5 ⟨s', rfl, hs', hbs'⟩
  obtain ⟨cur, hcur, hlen⟩ := h4.cur hg
  have hl8 := hlen hi
  have honly := fun b (hb : b ∈ x.sa.blk) => h4.only hi (b := b) (.inl hb)
  have hcur5 : Box w5 g 88 cur := hcur.keep hC5 fun hm => (honly g hm).2.2.2.1 (by rw [hgb]; simp)
  refine ⟨s', rfl, _, rfl, g, i * 8 + 5, 88, cur, by rw [Addr.add_lit, Addr.add_lit], hcur5, by omega, by simp, fun w6 hC6 hB6 => ?_⟩
  let x' : Nd := ⟨{ x.r with attrs := insAt q (name, []) x.r.attrs }, s', x.sk⟩
  have hs5 : Own A w5 x'.sa 2 63 (x'.r.attrs.map ac) := by
   show Own _ _ _ _ _ ((insAt q (name, []) x.r.attrs).map ac)
   rw [insAt_map]
   unfold insAt
   rw [List.append_assoc] at hs'
   exact hs'
  obtain ⟨h6, hC46⟩ := h4.upd hi x' rfl hC5 (fun b hb => .inl hb) hs5 ((h4.sk x hxm).keep hC5 fun b hb hm => ((h4.sk x hxm).apart ha4 (by decide)) b hb hm) hbs' (fun b hb => .inl hb) ⟨by show (insAt _ _ _).length ≤ _; rw [insAt_len]; omega, (h4.fit x hxm).2⟩ hg hcur5 hC6 hB6 (by simp) rfl
  have hi6 : (X.set i x')[i]? = some x' := by rw [List.getElem?_set, if_pos rfl, if_pos (List.getElem?_eq_some_iff.1 hi).1]
  obtain ⟨g', hg', _, hc6⟩ := h6.at hi6
  rw [hg] at hg'; cases hg'
  have hm6 := List.mem_of_getElem? hi6
  have ha6 := h6.sa x' hm6
  have hqi : q < (insAt q (name, ([] : Str)) x.r.attrs).length := by rw [insAt_len]; have := hq.le; omega
  obtain ⟨ga, cura, hga, hgaB, hgal⟩ : ∃ ga cur, x'.sa.a = some ⟨ga, 0, none⟩ ∧ Box w6 ga 63 cur ∧ cur.length = x'.sa.c * 2 := by
   rcases ha6.at_ with e | ⟨g, cur, h1, _, h3, h4, _⟩
   ·have := ha6.len
    rw [e] at this; simp [Sl.nil] at this
    rw [show x'.r.attrs = insAt q (name, []) x.r.attrs from rfl, insAt_len] at this
    omega
   ·exact ⟨g, cur, h1, h3, h4⟩
  have hn6 := ha6.len
  have hc6' := ha6.cap
  rw [List.length_map, show x'.r.attrs = insAt q (name, []) x.r.attrs from rfl, insAt_len] at hn6
  have hqle := hq.le
  refine ⟨_, rfl, s', hc6 5 _ rfl, ⟨by omega, by show (q : Int) < (x'.sa.n : Int); omega⟩, ⟨ga, 0, none⟩, hga, ga, q * 2 + 1, 63, cura, by rw [Int.toNat_natCast, Addr.add_lit, Addr.add_lit, Nat.zero_add], hgaB, by omega, by simp, fun w7 hC7 hB7 => ?_⟩
  let x'' : Nd := ⟨{ x.r with attrs := insAt q (name, value) x.r.attrs }, s', x.sk⟩
  have hgd : ((insAt q (name, ([] : Str)) x.r.attrs).map ac).getD q [] = ac (name, []) := by
   rw [List.getD_eq_getElem?_getD, List.getElem?_map, insAt_get hqle]; rfl
  have hseta : ∀ (L : List (Str × Str)) (k : Nat) (u v : Str × Str), k ≤ L.length → ((insAt k u L).map ac).set k (ac v) = (insAt k v L).map ac := fun L k u v hk => by
   rw [← List.map_set]
   congr 1
   unfold insAt
   have : (L.take k).length = k := by rw [List.length_take]; omega
   rw [List.set_append_right _ _ (by omega), this, Nat.sub_self]; rfl
  have hs7 : Own A w7 x''.sa 2 63 (x''.r.attrs.map ac) := by
   have := ha6.put (o := 1) (us := [.string (Bs value)]) (j := q) hga hgaB (by rw [List.length_map]; exact hqi) (by simp) hB7
   rw [show x'.r.attrs = insAt q (name, []) x.r.attrs from rfl, hgd, show putAt (ac (name, [])) 1 [.string (Bs value)] = ac (name, value) from rfl, hseta _ _ _ _ hqle] at this
   exact this
  have hgasa : x'.sa.blk = [ga] := by simp [Sl.blk, hga]
  obtain ⟨h7, hM7⟩ := h6.inner hi6 x'' rfl hC7 (fun b hb => .inl (by rw [hgasa]; exact hb)) hs7 ((h6.sk x' hm6).keep hC7 fun b hb hm => ((h6.sk x' hm6).apart ha6 (by decide)) b hb (by rw [hgasa]; exact hm)) (fun b hb => .inl hb) (fun b hb => .inl hb) ⟨by show (insAt _ _ _).length ≤ _; rw [insAt_len]; omega, (h4.fit x hxm).2⟩ rfl
  rw [List.set_set] at h7
  refine ⟨by rw [hE], ?_⟩
  rw [if_pos hE]
  have hwith : withA e.1.attrs name value = insAt q (name, value) x.r.attrs := by
   unfold withA insAt; rw [← hxa, hla, hma]
  refine ⟨((Mod.ext hE04).trans (Mod.of hC46 fun b hb => ?_)).trans hM7, l, M, m, _, h7, ?_, by rw [← e2]; exact set_okay hR e1 hk2 hwo hwl2⟩
  ·rcases List.mem_cons.1 hb with rfl | hb
   ·exact (h4.row.blk b (by rw [hgb]; simp)).1
   ·exact (honly b hb).1
  ·rw [hwith]
   exact updPerm h0.nodup hp hi hx (by
    show ({ x.r with attrs := _ } : Rec) = _
    have : x.r.text = [] := by rw [hxr]; exact hte
    rw [← this])
 ·obtain ⟨hql, hqn, hla, hma, _, hha⟩ := place_has hso hq hyes
  have hwl2 : (withA e.1.attrs name value).length ≤ 12 := by
   rw [hwl, ← hxa, hha, if_pos rfl]; omega
  have ha3 := h3.sa x hxm
  obtain ⟨ga, cura, hga, hgaB, hgal⟩ : ∃ ga cur, x.sa.a = some ⟨ga, 0, none⟩ ∧ Box w3 ga 63 cur ∧ cur.length = x.sa.c * 2 := by
   rcases ha3.at_ with e | ⟨g, cur, h1, _, h3, h4, _⟩
   ·rw [e] at hsn; simp [Sl.nil] at hsn; omega
   ·exact ⟨g, cur, h1, h3, h4⟩
  have hcap := ha3.cap
  refine ⟨_, rfl, x.sa, atc w3 hE03 5 _ rfl, ⟨by omega, by omega⟩, ⟨ga, 0, none⟩, hga, ga, q * 2 + 1, 63, cura, by rw [Int.toNat_natCast, Addr.add_lit, Addr.add_lit, Nat.zero_add], hgaB, by omega, by simp, fun w4 hC4 hB4 => ?_⟩
  let x' : Nd := ⟨{ x.r with attrs := x.r.attrs.set q (name, value) }, x.sa, x.sk⟩
  have hgd : (x.r.attrs.map ac).getD q [] = ac (name, (x.r.attrs.getD q ([], [])).2) := by
   rw [← hqn, List.getD_eq_getElem?_getD, List.getElem?_map, List.getD_eq_getElem?_getD, List.getElem?_eq_getElem hql]; rfl
  have hs4 : Own A w4 x'.sa 2 63 (x'.r.attrs.map ac) := by
   have := ha3.put (o := 1) (us := [.string (Bs value)]) (j := q) hga hgaB (by rw [List.length_map]; exact hql) (by simp) hB4
   rw [hgd] at this
   show Own _ _ _ _ _ ((x.r.attrs.set q (name, value)).map ac)
   rw [List.map_set]
   exact this
  have hgasa : x.sa.blk = [ga] := by simp [Sl.blk, hga]
  obtain ⟨h4, hM4⟩ := h3.inner hi x' rfl hC4 (fun b hb => .inl (by rw [hgasa]; exact hb)) hs4 ((h3.sk x hxm).keep hC4 fun b hb hm => ((h3.sk x hxm).apart ha3 (by decide)) b hb (by rw [hgasa]; exact hm)) (fun b hb => .inl hb) (fun b hb => .inl hb) ⟨by show (List.set _ _ _).length ≤ _; rw [List.length_set]; omega, (h3.fit x hxm).2⟩ rfl
  refine ⟨by rw [hE], ?_⟩
  rw [if_pos hE]
  have hwith : withA e.1.attrs name value = x.r.attrs.set q (name, value) := by
   unfold withA; rw [← hxa, hla, hma, List.set_eq_take_append_cons_drop, if_pos hql]
  refine ⟨(Mod.ext hE03).trans hM4, l, M, m, _, h4, ?_, by rw [← e2]; exact set_okay hR e1 hk2 hwo hwl2⟩
  rw [hwith]
  exact updPerm h0.nodup hp hi hx (by
   show ({ x.r with attrs := _ } : Rec) = _
   have : x.r.text = [] := by rw [hxr]; exact hte
   rw [← this])
def unsE (R : I) (id : Int) (name : Str) : Int := match R.find id with
 |none => 3
 |some e => if e.1.kind ≠ 2 then 4 else if hasA e.1.attrs name = true then 0 else 8
theorem domUnset (h : Dom A w D R) (hA : ∀ b ∈ A, b < w.heap.size) (id : Int) (name : Str) :
  Calls Tryz.prog 44 #[.pointer (some ⟨D, 0, none⟩), .int .i64 id, .string (Bs name)] w (Ret fun v w' => v = .int .i64 (unsE R id name) ∧ if unsE R id name = 0 then Mod A w w' ∧ Dom A w' D (R.upd id [] (withoutA (attrsOf R id) name)) else Ext w w') := by
 have hR := h.okay
 have hd := h
 obtain ⟨E, hE⟩ : ∃ E, E = unsE R id name := ⟨_, rfl⟩
 rw [← hE]
 unfold unsE at hE
 refine dom_Dom_Unset.ok _ _ _ ?_
 unfold dom_Dom_Unset.vc
 obtain ⟨l, M, m, X, h0, hp, _⟩ := h
 refine CallK.ext (domNode h0 id) ?_
 rintro v w1 hE1 (⟨hn, rfl⟩ | ⟨i, x, g, hi, hx, hg, rfl⟩)
 ·have hf := recNone hp hn
  rw [hf] at hE
  exact ⟨none, rfl, fun _ => ⟨by rw [hE], by rw [if_neg (by rw [hE]; exact (by decide : ¬ (3 : Int) = 0))]; exact hE1⟩, fun hb => by cases hb⟩
 obtain ⟨e, he, hxr⟩ := recOf hp hR hi
 rw [hx] at he
 rw [he] at hE
 simp only at hE
 have haof : attrsOf R id = e.1.attrs := by unfold attrsOf; rw [he]
 rw [haof]
 obtain ⟨e1, e2⟩ := I.find_some he
 have hxm := List.mem_of_getElem? hi
 have hkind : x.r.kind = e.1.kind := by rw [hxr]; rfl
 have hxa : x.r.attrs = e.1.attrs := by rw [hxr]; rfl
 have atc : ∀ w', Ext w w' → Cells w' ⟨g, i * 8, none⟩ (ndc x) := fun w' hE' => by
  obtain ⟨g', hg', _, hc⟩ := (h0.ext hE').at hi
  rw [hg] at hg'; cases hg'; exact hc
 have hgb : l.blk = [g] := by simp [Sl.blk, hg]
 refine ⟨_, rfl, fun hb => (by cases hb), fun _ => ⟨_, rfl, e.1.kind, by rw [← hkind]; exact atc w1 hE1 2 _ rfl, fun hk => ?_, fun hk => ?_⟩⟩
 ·have h4 : E = 4 := by rw [hE, if_pos hk]
  exact ⟨by rw [h4], by rw [if_neg (by rw [h4]; decide)]; exact hE1⟩
 rw [if_neg hk] at hE
 have hk2 : e.1.kind = 2 := Classical.not_not.1 hk
 obtain ⟨_, hte, hal, hao, _⟩ := elAttrs hR e1 hk2
 have hso : Sorted x.r.attrs := by rw [hxa]; exact sorted_of hao
 have hrow1 := ((h0.ext hE1).sa x hxm).row.less (A' := []) (by simp)
 have hxl : x.r.attrs.length ≤ 12 := by rw [hxa]; exact hal
 refine CallK.ext (domAttr (hd.ext hE1) (p := ⟨g, i * 8, none⟩) (atc w1 hE1 5 _ rfl) hrow1 hso (by omega) name) ?_
 rintro v w2 hE2 ⟨q, hq, rfl⟩
 have hE02 := hE1.trans hE2
 have h2 := h0.ext hE02
 have hsn : x.sa.n = x.r.attrs.length := by have := (h0.sa x hxm).len; rwa [List.length_map] at this
 refine ⟨(q : Int), _, rfl, fun hno => ?_, fun hyes => ?_⟩
 ·obtain ⟨_, _, hha⟩ := place_no hso hq hno
  have h8 : E = 8 := by rw [hE, if_neg (by rw [← hxa, hha]; decide)]
  exact ⟨by rw [h8], by rw [if_neg (by rw [h8]; decide)]; exact hE02⟩
 obtain ⟨hql, hqn, hla, hma, hwo, hha⟩ := place_has hso hq hyes
 rw [if_pos (by rw [← hxa]; exact hha)] at hE
 have hn1 : (x.sa.n : Int) - 1 = ((x.r.attrs.length - 1 : Nat) : Int) := by omega
 refine ⟨_, rfl, x.sa, atc w2 hE02 5 _ rfl, ⟨by omega, by omega⟩, ?_⟩
 rw [hn1]
 refine makeRow (A := A) Tryz.underlying22 ti_63 rfl (by omega) (by omega) (fun b hb => by have := hA b hb; have := hE02.size; omega) fun w3 hr3 hE3 => ⟨_, rfl, _, rfl, x.sa, atc w3 (hE02.trans hE3) 5 _ rfl, ?_⟩
 have hE03 := hE02.trans hE3
 have h3 := h0.ext hE03
 have ha3 := h3.sa x hxm
 have hcap := ha3.cap
 obtain ⟨ga, cura, hga, hgaA, hgaB, hgal, hgat⟩ : ∃ ga cur, x.sa.a = some ⟨ga, 0, none⟩ ∧ ga ∉ A ∧ Box w3 ga 63 cur ∧ cur.length = x.sa.c * 2 ∧ cur.take (x.sa.n * 2) = (x.r.attrs.map ac).flatten := by
  rcases ha3.at_ with e | e
  ·rw [e] at hsn; simp [Sl.nil] at hsn; omega
  ·exact e
 have hfl : ∀ L : List (Str × Str), (L.map ac).flatten.length = L.length * 2 := fun L => by rw [flatten_len _ (size := 2) (fun u hu => by obtain ⟨p, _, rfl⟩ := List.mem_map.1 hu; rfl), List.length_map]
 have hsplit : x.r.attrs = x.r.attrs.take q ++ x.r.attrs.getD q ([], []) :: x.r.attrs.drop (q + 1) := by
  have e : x.r.attrs.getD q ([], []) = x.r.attrs[q] := by simp [List.getD_eq_getElem?_getD, hql]
  rw [e, ← List.drop_eq_getElem_cons hql, List.take_append_drop]
 obtain ⟨P, hP⟩ : ∃ P, P = x.r.attrs.take q := ⟨_, rfl⟩
 obtain ⟨S, hS⟩ : ∃ S, S = x.r.attrs.drop (q + 1) := ⟨_, rfl⟩
 obtain ⟨c, hcc⟩ : ∃ c, c = x.r.attrs.getD q ([], []) := ⟨_, rfl⟩
 rw [← hP, ← hS, ← hcc] at hsplit
 have hPl : P.length = q := by rw [hP, List.length_take]; omega
 have hSl : S.length = x.r.attrs.length - (q + 1) := by rw [hS, List.length_drop]
 have hcur : cura = (P.map ac).flatten ++ (ac c ++ ((S.map ac).flatten ++ cura.drop (x.sa.n * 2))) := by
  have e := (List.take_append_drop (x.sa.n * 2) cura).symm
  rw [hgat, congrArg (fun L => (List.map ac L).flatten) hsplit] at e
  simp only [List.map_append, List.map_cons, List.flatten_append, List.flatten_cons, List.append_assoc] at e
  exact e
 have hN := hr3.at_
 obtain ⟨curN, hNB, hNl, hNA⟩ : ∃ cur, Box w3 w2.heap.size 63 cur ∧ cur.length = (x.r.attrs.length - 1) * 2 ∧ w2.heap.size ∉ A := by
  rcases hr3.at_ with e | ⟨g, cur, h1, h2, h3, h4, _⟩
  ·cases e
  ·cases h1; exact ⟨cur, h3, h4, h2⟩
 have hc0 : ¬ x.sa.c = 0 := by omega
 have hcutP : (Sl.cut x.sa 2 0 q x.sa.c) = ⟨some ⟨ga, 0, none⟩, q, x.sa.c⟩ := by
  unfold Sl.cut; rw [hga]; simp [Addr.add_lit]
 rw [Int.toNat_natCast, hcutP]
 refine ⟨⟨by omega, by omega⟩, ?_⟩
 have hgaN : ga ≠ w2.heap.size := fun e => by have := ((h2.sa x hxm).blk ga (by simp [Sl.blk, hga])).2; omega
 refine copyK (o := 0) (ps := ⟨ga, 0, none⟩) (vs := (P.map ac).flatten) Tryz.underlying22 ti_63 rfl hNB rfl (by rw [hfl, hPl]; simp only; omega) (by rw [hNl, hfl, hPl]; omega) (hgaB.part 0 _ (by
  have e := congrArg (fun l => List.take (P.map ac).flatten.length (List.drop 0 l)) hcur
  rw [e, List.drop_zero, List.take_left])) (ones_acs P) (by simp) fun w4 hC4 hB4 => ⟨_, rfl, fun w5 hE5 => ?_⟩
 have hlow : ∀ b ∈ [w2.heap.size], w.heap.size ≤ b := by simp only [List.mem_singleton]; rintro b rfl; exact hE02.size
 have hE04 : Ext w w4 := Chg.fresh hE03 hC4 hlow
 have hE05 := hE04.trans hE5
 refine ⟨⟨by omega, by simp only; omega⟩, _, rfl, x.sa, atc w5 hE05 5 _ rfl, ⟨by omega, by omega⟩, ⟨by omega, by omega⟩, fun w6 hE6 => ?_⟩
 have hE06 := hE05.trans hE6
 have hE36 : Chg [w2.heap.size] w3 w6 := (hC4.trans (hE5.mono (by simp))).trans (hE6.mono (by simp))
 have hgaB6 : Box w6 ga 63 cura := hgaB.keep hE36 (by simpa using hgaN)
 have hB6 := (hB4.ext hE5).ext hE6
 have eq1 : ((q : Int) + 1).toNat = q + 1 := by omega
 have hcutD : (Sl.cut (Sl.mk (some ⟨w2.heap.size, 0, none⟩) (x.r.attrs.length - 1) (x.r.attrs.length - 1)) 2 q (x.r.attrs.length - 1) (x.r.attrs.length - 1)) = ⟨some ⟨w2.heap.size, if x.r.attrs.length - 1 = q then 0 else q * 2, none⟩, x.r.attrs.length - 1 - q, x.r.attrs.length - 1 - q⟩ := by
  unfold Sl.cut
  by_cases h : x.r.attrs.length - 1 = q
  ·simp [h]
  ·simp [h, Addr.add_lit]
 have hcutS : (Sl.cut x.sa 2 (q + 1) x.sa.n x.sa.c) = ⟨some ⟨ga, if x.sa.c = q + 1 then 0 else (q + 1) * 2, none⟩, x.sa.n - (q + 1), x.sa.c - (q + 1)⟩ := by
  unfold Sl.cut
  rw [hga]
  by_cases h : x.sa.c = q + 1
  ·simp [h]
  ·simp [h, Addr.add_lit]
 rw [eq1, hcutD, hcutS]
 have hPA : putAt curN 0 (P.map ac).flatten = (P.map ac).flatten ++ curN.drop (q * 2) := by
  rw [putAt_eq _ _ _ (by rw [hNl, hfl, hPl]; omega), hfl, hPl]; simp
 have hPAl : (putAt curN 0 (P.map ac).flatten).length = (x.r.attrs.length - 1) * 2 := by rw [putAt_len, hNl]
 refine copyK (vs := (S.map ac).flatten) Tryz.underlying22 ti_63 rfl hB6 rfl (by rw [hfl, hSl]; simp only; omega) (by rw [hPAl, hfl, hSl]; split <;> omega) ?_ (ones_acs S) (by simp) fun w7 hC7 hB7 => ⟨_, rfl, _, rfl, ?_⟩
 ·by_cases h : x.sa.c = q + 1
  ·have : S = [] := List.eq_nil_of_length_eq_zero (by omega)
   rw [this]; intro j v hv; simp at hv
  ·rw [if_neg h]
   refine hgaB6.part _ _ ?_
   have e := congrArg (fun l => List.take (S.map ac).flatten.length (List.drop ((q + 1) * 2) l)) hcur
   rw [e, ← List.append_assoc]
   have hl : ((P.map ac).flatten ++ ac c).length = (q + 1) * 2 := by rw [List.length_append, hfl, hPl]; simp [ac]; omega
   rw [← hl, List.drop_left, List.take_left]
 have hE07 : Ext w w7 := Chg.fresh hE06 hC7 hlow
 have h7 := h0.ext hE07
 obtain ⟨cur, hcur7, hlen⟩ := h7.cur hg
 have hl8 := hlen hi
 refine ⟨g, i * 8 + 5, 88, cur, by rw [Addr.add_lit, Addr.add_lit], hcur7, by omega, by simp, fun w8 hC8 hB8 => ?_⟩
 let x' : Nd := ⟨{ x.r with attrs := P ++ S }, Sl.mk (some ⟨w2.heap.size, 0, none⟩) (x.r.attrs.length - 1) (x.r.attrs.length - 1), x.sk⟩
 have hs7 : Own A w7 x'.sa 2 63 (x'.r.attrs.map ac) := by
  refine ⟨by show _ = ((P ++ S).map ac).length; rw [List.length_map, List.length_append]; simp only [x']; omega, Nat.le_refl _, by simp only [maxLen, x']; omega, fun u hu => by obtain ⟨p, _, rfl⟩ := List.mem_map.1 hu; rfl, .inr ⟨w2.heap.size, _, rfl, hNA, hB7, by rw [putAt_len, hPAl], ?_⟩⟩
  show List.take ((x.r.attrs.length - 1) * 2) _ = ((P ++ S).map ac).flatten
  rw [List.take_of_length_le (by rw [putAt_len, hPAl]; exact Nat.le_refl _), hPA, List.map_append, List.flatten_append]
  by_cases h : x.r.attrs.length - 1 = q
  ·have hS0 : S = [] := List.eq_nil_of_length_eq_zero (by omega)
   rw [hS0]
   show (P.map ac).flatten ++ curN.drop (q * 2) = _
   rw [List.drop_of_length_le (by rw [hNl, h]; exact Nat.le_refl _)]
   simp
  ·rw [if_neg h]
   have e2 := putAt_right (S.map ac).flatten (P.map ac).flatten (curN.drop (q * 2)) 0
   rw [hfl P, hPl, Nat.add_zero] at e2
   rw [e2, putAt_eq _ _ _ (by rw [hfl, hSl, List.length_drop, hNl]; omega)]
   rw [List.take_zero, List.nil_append, Nat.zero_add, List.drop_of_length_le (by rw [hfl, hSl, List.length_drop, hNl]; omega), List.append_nil]
 have hE27 : Ext w2 w7 := Chg.fresh (Chg.fresh hE3 hE36 (by simp)) hC7 (by simp)
 obtain ⟨hu, hC⟩ := h2.upd hi x' rfl hE27 (by simp) hs7 (h7.sk x hxm) (fun b hb => .inr (by simp [x', Sl.blk] at hb; subst hb; exact Nat.le_refl _)) (fun b hb => .inl hb) ⟨by show (P ++ S).length ≤ _; rw [List.length_append]; omega, (h7.fit x hxm).2⟩ hg hcur7 hC8 hB8 (by simp) rfl
 ·refine ⟨by rw [hE], ?_⟩
  rw [if_pos hE]
  have hwl : (withoutA e.1.attrs name).length ≤ 12 := Nat.le_trans (List.length_filter_le _ _) hal
  refine ⟨(Mod.ext hE02).trans (Mod.of hC fun b hb => by simp at hb; subst hb; exact (h7.row.blk b (by rw [hgb]; simp)).1), l, M, m, _, hu, ?_, by rw [← e2]; exact set_okay hR e1 hk2 (withoutA_ok hao name) hwl⟩
  rw [← hxa, hwo, ← hP, ← hS]
  exact updPerm h0.nodup hp hi hx (by
   show ({ x.r with attrs := _ } : Rec) = _
   have : x.r.text = [] := by rw [hxr]; exact hte
   rw [← this])
end
end
section
open Go.RowKit
theorem refSize {A : List Nat} : ∀ t : T, t.bulk ≤ 1099511627776 → ∀ {w : World} {sa sk : Sl}, RdT A w t sa sk →
  Calls Tryz.prog 74 #[tv t sa sk] w (Ret fun v w' => Ext w w' ∧ v = .int .i64 (t.size : Int)) := T.ind' fun t ih hb w sa sk h => by
 refine ref05_Size.ok _ _ _ _ _ ?_
 unfold ref05_Size.vc
 have hn := h.nkids
 have hcp := h.caps
 have hl := T.kids_len t
 intro w1 B1 _ hE1
 refine ⟨fun n i w2 => ∃ k : Nat, i = (k : Int) ∧ k ≤ t.kids.length ∧ n = ((1 + ((t.kids.take k).map T.size).sum : Nat) : Int) ∧ Ext w w2, fun _ i _ => t.kids.length - i.toNat, ⟨0, rfl, Nat.zero_le _, by simp, hE1⟩, ?_⟩
 rintro _ _ w2 ⟨k, rfl, hk, rfl, hE⟩
 refine ⟨fun hi => ?_, fun hi => ⟨hE, ?_⟩⟩
 ·have hk' : k < t.kids.length := by omega
  obtain ⟨p, sa', sk', hp, _, hc, hr⟩ := (h.ext hE).kid hk'
  rw [Int.toNat_natCast]
  have hm := getD_mem (d := T.nul) hk'
  have hs := sum_take T.size hk'
  have hsl := sum_take_le T.size t.kids (k + 1)
  have ht := T.size_eq t
  have htb := T.size_bulk t
  refine ⟨⟨by omega, hi⟩, p, hp, _, _, _, sa', sk', hc, CallK.exact (ih _ hm (by have := T.kid_bulk hm; omega) hr) fun w4 hE4 => ⟨_, rfl, ⟨by omega, by omega⟩, ⟨by omega, by omega⟩, ⟨k + 1, by omega, by omega, by omega, hE.trans hE4⟩, by dsimp only; omega⟩⟩
 ·have hkl : k = t.kids.length := by omega
  subst hkl
  rw [List.take_of_length_le (Nat.le_refl _), T.size_eq t]
theorem refDepth {A : List Nat} : ∀ t : T, t.bulk ≤ 1099511627776 → ∀ {w : World} {sa sk : Sl}, RdT A w t sa sk →
  Calls Tryz.prog 75 #[tv t sa sk] w (Ret fun v w' => Ext w w' ∧ v = .int .i64 (t.depth : Int)) := T.ind' fun t ih hb w sa sk h => by
 refine ref05_Depth.ok _ _ _ _ _ ?_
 unfold ref05_Depth.vc
 have hn := h.nkids
 have hcp := h.caps
 have hl := T.kids_len t
 intro w1 B1 _ hE1
 refine ⟨fun n i w2 => ∃ k : Nat, i = (k : Int) ∧ k ≤ t.kids.length ∧ n = ((((t.kids.take k).map T.depth).foldr max 0 : Nat) : Int) ∧ Ext w w2, fun _ i _ => t.kids.length - i.toNat, ⟨0, rfl, Nat.zero_le _, by simp, hE1⟩, ?_⟩
 rintro _ _ w2 ⟨k, rfl, hk, rfl, hE⟩
 refine ⟨fun hi => ?_, fun hi => ?_⟩
 ·have hk' : k < t.kids.length := by omega
  obtain ⟨p, sa', sk', hp, _, hc, hr⟩ := (h.ext hE).kid hk'
  rw [Int.toNat_natCast]
  have hm := getD_mem (d := T.nul) hk'
  have hs := max_take T.depth hk'
  refine ⟨⟨by omega, hi⟩, p, hp, _, _, _, sa', sk', hc, CallK.exact (ih _ hm (by have := T.kid_bulk hm; omega) hr) fun w4 hE4 => ⟨_, rfl, ⟨by omega, by omega⟩, ⟨k + 1, by omega, by omega, by omega, hE.trans hE4⟩, by dsimp only; omega⟩⟩
 ·have hkl : k = t.kids.length := by omega
  subst hkl
  have h1 := T.depth_eq t
  have h2 := T.depth_size t
  have h3 := T.size_bulk t
  rw [List.take_of_length_le (Nat.le_refl _)]
  refine ⟨⟨by omega, by omega⟩, hE, ?_⟩
  rw [h1]; congr 1; omega
theorem refBlank {w : World} (c : Int) : Calls Tryz.prog 103 #[.int .u8 c] w (Ret fun v w' => Ext w w' ∧ v = .bool ((((decide (c = 9)) || (decide (c = 10))) || (decide (c = 12))) || (decide (c = 32)))) := by
 refine ref04_Blank.ok _ ?_
 unfold ref04_Blank.vc
 exact ⟨Chg.refl _ _, rfl⟩
theorem refName {w : World} (s : Str) : Calls Tryz.prog 85 #[.string (Bs s)] w (Ret fun v w' => Ext w w' ∧ v = .bool (nameOk s)) := by
 refine ref05_Name.ok _ ?_
 unfold ref05_Name.vc
 refine ⟨fun hc => ⟨Chg.refl _ _, ?_⟩, fun hc => ?_⟩
 ·have : nameOk s = false := by
   unfold nameOk
   rcases hc with hc | hc
   ·have : s = [] := List.eq_nil_of_length_eq_zero (by omega)
    subst this; rfl
   ·simp; omega
  rw [this]
 ·obtain ⟨h0, h32⟩ := hc
  refine ⟨fun i w1 => ∃ k : Nat, i = (k : Int) ∧ k ≤ s.length ∧ (s.take k).all byteOk = true ∧ Ext w w1, fun i _ => s.length - i.toNat, ⟨0, rfl, Nat.zero_le _, rfl, Chg.refl _ _⟩, ?_⟩
  rintro _ w1 ⟨k, rfl, hk, hall, hE⟩
  rw [Int.toNat_natCast]
  refine ⟨fun hi => ?_, fun hi => ⟨hE, ?_⟩⟩
  ·have hk' : k < s.length := by omega
   have hbad : byteOk (s.getD k 0) = false → nameOk s = false := fun hb => by
    have hm : s.getD k 0 ∈ s := by rw [List.getD_eq_getElem?_getD, List.getElem?_eq_getElem hk']; exact List.getElem_mem hk'
    unfold nameOk
    have : s.all byteOk = false := by
     rw [List.all_eq_false]; exact ⟨_, hm, fun h => by rw [hb] at h; cases h⟩
    rw [this, Bool.and_false]
   generalize hx : s.getD k 0 = c at hbad
   refine ⟨⟨by omega, hi⟩, CallK.exact (refBlank _) fun w2 hE2 => ⟨_, rfl, fun hset => ⟨hE.trans hE2, ?_⟩, fun hset => ⟨⟨by omega, by omega⟩, ⟨k + 1, by omega, by omega, ?_, hE.trans hE2⟩, by dsimp only; omega⟩⟩⟩
   ·rw [hbad ?_]
    unfold byteOk
    simp only [Bool.or_eq_true, decide_eq_true_eq] at hset
    simp; omega
   ·rw [List.take_succ_eq_append_getElem hk', List.all_append, hall]
    have : s[k] = c := by rw [← hx, List.getD_eq_getElem?_getD, List.getElem?_eq_getElem hk']; rfl
    rw [this]
    simp only [List.all_cons, List.all_nil, Bool.and_true, Bool.true_and]
    unfold byteOk
    simp only [Bool.or_eq_false_iff, decide_eq_false_iff_not] at hset
    simp; omega
  ·have hkl : k = s.length := by omega
   subst hkl
   rw [List.take_of_length_le (Nat.le_refl _)] at hall
   unfold nameOk
   rw [hall]
   have : s.isEmpty = false := by cases s <;> simp_all
   simp [this]; omega
theorem refAttr {A : List Nat} {w : World} {s : Sl} {l : List (Str × Str)} (h : Row A w s 2 (l.map ac)) (nm : Str) :
  Calls Tryz.prog 84 #[s.v, .string (Bs nm)] w (Ret fun v w' => Ext w w' ∧ v = .tuple #[.string (Bs (attrGet l nm).1), .bool (attrGet l nm).2]) := by
 refine ref05_Attr.ok _ _ ?_
 unfold ref05_Attr.vc
 have hl := h.len
 have hm := h.most
 have hc := h.cap
 simp only [List.length_map] at hl
 simp only [maxLen] at hm
 refine ⟨fun i w2 => ∃ k : Nat, i = (k : Int) ∧ k ≤ l.length ∧ attrGet l nm = attrGet (l.drop k) nm ∧ Ext w w2, fun i _ => l.length - i.toNat, ⟨0, rfl, Nat.zero_le _, rfl, Chg.refl _ _⟩, ?_⟩
 rintro _ w2 ⟨k, rfl, hk, heq, hE⟩
 rw [Int.toNat_natCast]
 refine ⟨fun hi => ?_, fun hi => ⟨hE, ?_⟩⟩
 ·have hk' : k < l.length := by omega
  obtain ⟨p, hp, _, hcell, _⟩ := (h.ext hE).at_ k (by simpa using hk')
  have e : (l.map ac).getD k [] = ac (l.getD k ([], [])) := by simp [List.getD_eq_getElem?_getD, hk']
  rw [e] at hcell
  have hd : l.drop k = l.getD k ([], []) :: l.drop (k + 1) := by
   rw [List.drop_eq_getElem_cons hk', List.getD_eq_getElem?_getD, List.getElem?_eq_getElem hk']; rfl
  rw [hd] at heq
  generalize l.getD k ([], []) = q at hcell heq
  obtain ⟨qn, qv⟩ := q
  refine ⟨⟨by omega, hi⟩, p, hp, qn, hcell 0 _ rfl, fun he => ⟨⟨by omega, hi⟩, p, hp, qv, hcell 1 _ rfl, hE, ?_⟩, fun hne => ⟨⟨by omega, by omega⟩, ⟨k + 1, by omega, by omega, ?_, hE⟩, by dsimp only; omega⟩⟩
  ·rw [heq, attrGet, if_pos he]
  ·rw [heq, attrGet, if_neg hne]
 ·have hkl : k = l.length := by omega
  subst hkl
  rw [heq, List.drop_length]; rfl
theorem attrsOk_nil {p : Str × Str} {r : List (Str × Str)} : attrsOk [] (p :: r) = (nameOk p.1 && decide (p.2.length ≤ 4096) && attrsOk p.1 r) := by
 have h1 : Op.bytesLess p.1 ([] : Str) = false := by cases p.1 <;> rfl
 rw [attrsOk, h1]
 by_cases h2 : p.1 = []
 ·have : nameOk p.1 = false := by rw [h2]; rfl
  simp [this]
 ·simp [h2]
theorem refAttrs {A : List Nat} {w : World} {s : Sl} {l : List (Str × Str)} (h : Row A w s 2 (l.map ac)) :
  Calls Tryz.prog 102 #[s.v] w (Ret fun v w' => Ext w w' ∧ v = .bool (decide (l.length ≤ 12) && attrsOk [] l)) := by
 refine ref05_attrs.ok _ ?_
 unfold ref05_attrs.vc
 have hl := h.len
 simp only [List.length_map] at hl
 refine ⟨fun hb => ⟨Chg.refl _ _, ?_⟩, fun hb => ?_⟩
 ·rw [decide_eq_false (show ¬ l.length ≤ 12 by omega)]; rfl
 rw [decide_eq_true (show l.length ≤ 12 by omega), Bool.true_and]
 refine ⟨fun i w1 => ∃ k : Nat, i = (k : Int) ∧ k ≤ l.length ∧ attrsOk [] l = attrsOk (if k = 0 then [] else (l.getD (k - 1) ([], [])).1) (l.drop k) ∧ Ext w w1, fun i _ => l.length - i.toNat, ⟨0, rfl, Nat.zero_le _, rfl, Chg.refl _ _⟩, ?_⟩
 rintro _ w1 ⟨k, rfl, hk, heq, hE⟩
 rw [Int.toNat_natCast]
 refine ⟨fun hi w2 hE2 => ?_, fun hi => ⟨hE, ?_⟩⟩
 ·have hk' : k < l.length := by omega
  have hE12 := hE.trans hE2
  obtain ⟨p, hp, _, hcell, _⟩ := (h.ext hE12).at_ k (by simpa using hk')
  have e : (l.map ac).getD k [] = ac (l.getD k ([], [])) := by simp [List.getD_eq_getElem?_getD, hk']
  rw [e] at hcell
  have hprev : ∃ q, 0 < k → s.a = some q ∧ w2.cell? ((q.add ((k - 1) * 2)).add 0) = some (.string (Bs (l.getD (k - 1) ([], [])).1)) := by
   by_cases h0 : 0 < k
   ·obtain ⟨q, hq, _, hqc, _⟩ := (h.ext hE12).at_ (k - 1) (by simp; omega)
    have e : (l.map ac).getD (k - 1) [] = ac (l.getD (k - 1) ([], [])) := by simp [List.getD_eq_getElem?_getD, show k - 1 < l.length by omega]
    rw [e] at hqc
    exact ⟨q, fun _ => ⟨hq, hqc 0 _ rfl⟩⟩
   ·exact ⟨p, fun h => absurd h h0⟩
  obtain ⟨q, hq⟩ := hprev
  have hnx : attrsOk (l.getD k ([], [])).1 (l.drop (k + 1)) = attrsOk (if k + 1 = 0 then [] else (l.getD (k + 1 - 1) ([], [])).1) (l.drop (k + 1)) := by rw [if_neg (by omega), Nat.add_sub_cancel]
  have hstep : attrsOk [] l = (nameOk (l.getD k ([], [])).1 && decide ((l.getD k ([], [])).2.length ≤ 4096) && (decide (k = 0) || (!(Op.bytesLess (l.getD k ([], [])).1 (l.getD (k - 1) ([], [])).1) && !(decide ((l.getD k ([], [])).1 = (l.getD (k - 1) ([], [])).1)))) && attrsOk (l.getD k ([], [])).1 (l.drop (k + 1))) := by
   by_cases h0 : k = 0
   ·subst h0
    rw [heq, if_pos rfl, drop_at l ([], []) hk', attrsOk_nil]; simp
   ·rw [heq, if_neg h0, attrsOk_drop hk']
    simp only [decide_eq_false h0, Bool.false_or]
    generalize Op.bytesLess (l.getD k ([], [])).1 (l.getD (k - 1) ([], [])).1 = x1
    generalize decide ((l.getD k ([], [])).1 = (l.getD (k - 1) ([], [])).1) = x2
    generalize nameOk (l.getD k ([], [])).1 = x3
    generalize decide ((l.getD k ([], [])).2.length ≤ 4096) = x4
    generalize attrsOk (l.getD k ([], [])).1 (l.drop (k + 1)) = x5
    cases x1 <;> cases x2 <;> cases x3 <;> cases x4 <;> rfl
  refine ⟨p, ⟨⟨by omega, hi⟩, hp⟩, _, hcell 0 _ rfl, _, fun w' _ => refName _, p, fun _ => ⟨⟨by omega, hi⟩, hp⟩, _, fun _ => hcell 1 _ rfl, p, fun _ => ⟨⟨by omega, hi⟩, hp⟩, _, fun _ => hcell 0 _ rfl, fun _ => ⟨by omega, by omega⟩, q, fun hg => ⟨⟨by omega, by omega⟩, (hq (by omega)).1⟩, (l.getD (k - 1) ([], [])).1, fun hg => ?_, fun hbad w3 hE3 => ⟨hE12.trans hE3, ?_⟩, fun hgood => ⟨⟨by omega, by omega⟩, fun w3 hE3 => ⟨⟨k + 1, by omega, by omega, ?_, hE12.trans hE3⟩, by dsimp only; omega⟩⟩⟩
  ·have := (hq (by omega)).2
   rw [show ((k : Int) - 1).toNat = k - 1 by omega]; exact this
  ·rw [hstep]
   rcases hbad with (hb | hb) | ⟨h0, hb⟩
   ·rw [hb]; rfl
   ·rw [decide_eq_false (show ¬ (l.getD k ([], [])).2.length ≤ 4096 by omega)]; simp
   ·rw [decide_eq_false (show ¬ k = 0 by omega)]
    rcases hb with hb | hb
    ·rw [hb]; simp
    ·rw [decide_eq_true hb]; simp
  ·rw [hstep, ← hnx]
   obtain ⟨⟨h1, h2⟩, h3⟩ := hgood
   rw [h1, decide_eq_true (show (l.getD k ([], [])).2.length ≤ 4096 by omega)]
   rcases h3 with h3 | ⟨h3, h4⟩
   ·rw [decide_eq_true (show k = 0 by omega)]; simp
   ·rw [h3, decide_eq_false h4]; simp
 ·have hkl : k = l.length := by omega
  subst hkl
  rw [heq, List.drop_length]; rfl
def mayOk (t : T) (top root : Bool) : Bool :=
 if t.kind = 1 then top && t.name.isEmpty && t.text.isEmpty && t.attrs.isEmpty
 else if t.kind = 2 then nameOk t.name && t.text.isEmpty && (decide (t.attrs.length ≤ 12) && attrsOk [] t.attrs)
 else if t.kind = 3 then t.name.isEmpty && t.attrs.isEmpty && t.kids.isEmpty && !t.text.isEmpty && decide (t.text.length ≤ 4096)
 else if t.kind = 4 then t.name.isEmpty && t.attrs.isEmpty && t.kids.isEmpty && decide (t.text.length ≤ 4096)
 else if t.kind = 5 then root && decide (t.name.length ≤ 32) && t.text.isEmpty && t.attrs.isEmpty && t.kids.isEmpty
 else false
theorem len_zero_dec {α : Type} (l : List α) (n : Nat) (h : n = l.length) : decide ((n : Int) = 0) = l.isEmpty := by
 subst h; cases l with
 |nil => rfl
 |cons a r => simp; omega
theorem refMay {A : List Nat} {w : World} {t : T} {sa sk : Sl} (h : RdT A w t sa sk) (top root : Bool) :
  Calls Tryz.prog 78 #[tv t sa sk, .bool top, .bool root] w (Ret fun v w' => Ext w w' ∧ v = .bool (mayOk t top root)) := by
 refine ref05_May.ok _ _ _ _ _ _ _ ?_
 unfold ref05_May.vc
 have hn := len_zero_dec t.kids sk.n h.nkids
 have ha := len_zero_dec t.attrs sa.n h.nattrs
 have l4 := le_dec t.text 4096
 have l3 := le_dec t.name 32
 rw [show ((4096 : Nat) : Int) = 4096 from rfl] at l4
 rw [show ((32 : Nat) : Int) = 32 from rfl] at l3
 have l1 : decide (1 ≤ (t.text.length : Int)) = !t.text.isEmpty := by cases t.text with
  |nil => rfl
  |cons a r => simp; omega
 rw [hn, ha, l4, l3, l1, isEmpty_dec, isEmpty_dec]
 unfold mayOk
 refine ⟨fun h1 w1 B1 _ hE1 => ⟨hE1, by rw [if_pos h1]⟩, fun h1 => ⟨fun h2 w1 B1 _ hE1 => ?_, fun h2 => ⟨fun h3 w1 B1 _ hE1 => ⟨hE1, by rw [if_neg h1, if_neg h2, if_pos h3]⟩, fun h3 => ⟨fun h4 w1 B1 _ hE1 => ⟨hE1, by rw [if_neg h1, if_neg h2, if_neg h3, if_pos h4]⟩, fun h4 =>
  ⟨fun h5 w1 B1 _ hE1 => ⟨hE1, by rw [if_neg h1, if_neg h2, if_neg h3, if_neg h4, if_pos h5]⟩, fun h5 w1 B1 _ hE1 => ⟨hE1, by rw [if_neg h1, if_neg h2, if_neg h3, if_neg h4, if_neg h5]⟩⟩⟩⟩⟩⟩
 rw [if_neg h1, if_pos h2]
 exact CallK.exact (refName _) fun w2 hE2 => ⟨_, rfl, _, fun _ => refAttrs ((h.ext (hE1.trans hE2)).attrs), fun w3 hE3 => ⟨(hE1.trans hE2).trans hE3, rfl⟩⟩
theorem may_false {t : T} {root : Bool} (h : mayOk t false root = false) : (nodeOk t && !(decide (t.kind = 5) && !root)) = false := by
 unfold mayOk at h
 by_cases h2 : t.kind = 2
 ·rw [if_neg (by omega), if_pos h2] at h
  rw [nodeOk_el h2, h]; rfl
 ·rw [nodeOk_ne h2]
  by_cases h1 : t.kind = 1
  ·rw [if_neg (by omega), if_neg (by omega), if_neg (by omega)]; simp
  ·rw [if_neg h1, if_neg h2] at h
   by_cases h3 : t.kind = 3
   ·rw [if_pos h3] at h ⊢
    generalize t.name.isEmpty = x1 at *
    generalize t.attrs.isEmpty = x2 at *
    generalize t.kids.isEmpty = x3 at *
    generalize t.text.isEmpty = x4 at *
    generalize decide (t.text.length ≤ 4096) = x5 at *
    cases x1 <;> cases x2 <;> cases x3 <;> cases x4 <;> cases x5 <;> simp_all
   ·rw [if_neg h3] at h ⊢
    by_cases h4 : t.kind = 4
    ·rw [if_pos h4] at h ⊢
     generalize t.name.isEmpty = x1 at *
     generalize t.attrs.isEmpty = x2 at *
     generalize t.kids.isEmpty = x3 at *
     generalize decide (t.text.length ≤ 4096) = x5 at *
     cases x1 <;> cases x2 <;> cases x3 <;> cases x5 <;> simp_all
    ·rw [if_neg h4] at h ⊢
     by_cases h5 : t.kind = 5
     ·rw [if_pos h5] at h ⊢
      rw [decide_eq_true h5]
      generalize t.attrs.isEmpty = x2 at *
      generalize t.kids.isEmpty = x3 at *
      generalize t.text.isEmpty = x4 at *
      generalize decide (t.name.length ≤ 32) = x5 at *
      cases x2 <;> cases x3 <;> cases x4 <;> cases x5 <;> cases root <;> simp_all
     ·rw [if_neg h5]; simp
theorem may_true {t : T} {root : Bool} (h : mayOk t false root = true) : (nodeOk t && !(decide (t.kind = 5) && !root)) = kidsOk t := by
 unfold mayOk at h
 by_cases h2 : t.kind = 2
 ·rw [if_neg (by omega), if_pos h2] at h
  rw [nodeOk_el h2, h, decide_eq_false (by omega : ¬ t.kind = 5)]; simp
 ·have key : t.kids.isEmpty = true → kidsOk t = true := fun hk => by
   unfold kidsOk; rw [List.isEmpty_iff.1 hk]; rfl
  rw [nodeOk_ne h2]
  by_cases h1 : t.kind = 1
  ·rw [if_pos h1] at h; simp at h
  ·rw [if_neg h1, if_neg h2] at h
   by_cases h3 : t.kind = 3
   ·rw [if_pos h3] at h ⊢
    rw [decide_eq_false (by omega : ¬ t.kind = 5)]
    simp only [Bool.and_eq_true] at h
    obtain ⟨⟨⟨⟨a1, a2⟩, a3⟩, a4⟩, a5⟩ := h
    rw [a1, a2, a3, a4, a5, key a3]; rfl
   ·rw [if_neg h3] at h ⊢
    by_cases h4 : t.kind = 4
    ·rw [if_pos h4] at h ⊢
     rw [decide_eq_false (by omega : ¬ t.kind = 5)]
     simp only [Bool.and_eq_true] at h
     obtain ⟨⟨⟨a1, a2⟩, a3⟩, a5⟩ := h
     rw [a1, a2, a3, a5, key a3]; rfl
    ·rw [if_neg h4] at h ⊢
     by_cases h5 : t.kind = 5
     ·rw [if_pos h5] at h ⊢
      simp only [Bool.and_eq_true] at h
      obtain ⟨⟨⟨⟨a1, a2⟩, a3⟩, a4⟩, a5⟩ := h
      rw [a1, a2, a3, a4, a5, key a5]; simp
     ·rw [if_neg h5] at h; cases h
theorem refAllLoop {A : List Nat} (t : T) (ih : ∀ u ∈ t.kids, ∀ (root : Bool) {w : World} {sa sk : Sl}, RdT A w u sa sk → Calls Tryz.prog 76 #[tv u sa sk, .bool false, .bool root] w (Ret fun v w' => Ext w w' ∧ v = .bool (nodeOk u && !(decide (u.kind = 5) && !root))))
  (top root r : Bool) (h0 : mayOk t top root = false → r = false) (h1 : mayOk t top root = true → r = kidsOk t) {w : World} {sa sk : Sl} (h : RdT A w t sa sk) :
  Calls Tryz.prog 76 #[tv t sa sk, .bool top, .bool root] w (Ret fun v w' => Ext w w' ∧ v = .bool r) := by
 refine ref05_all.ok _ _ _ _ _ _ _ ?_
 unfold ref05_all.vc
 have hn := h.nkids
 have hcp := h.caps
 simp only [maxLen] at hcp
 intro w1 B1 _ hE1
 refine CallK.exact (refMay (h.ext hE1) top root) fun w2 hE2 => ⟨_, rfl, fun hf => ⟨hE1.trans hE2, by rw [h0 hf]⟩, fun ht => ?_⟩
 rw [h1 ht]
 refine ⟨fun i w3 => ∃ k : Nat, i = (k : Int) ∧ k ≤ t.kids.length ∧ kidsOk t = (t.kids.drop k).all (fun u => nodeOk u && !(decide (u.kind = 5) && !(decide (t.kind = 1)))) ∧ Ext w w3, fun i _ => t.kids.length - i.toNat, ⟨0, rfl, Nat.zero_le _, rfl, hE1.trans hE2⟩, ?_⟩
 rintro _ w3 ⟨k, rfl, hk, heq, hE⟩
 rw [Int.toNat_natCast]
 refine ⟨fun hi w4 hE4 => ?_, fun hi => ⟨hE, ?_⟩⟩
 ·have hk' : k < t.kids.length := by omega
  have hE34 := hE.trans hE4
  obtain ⟨p, sa', sk', hp, _, hc, hr⟩ := (h.ext hE34).kid hk'
  have hm := getD_mem (d := T.nul) hk'
  rw [drop_at t.kids T.nul hk', List.all_cons] at heq
  refine ⟨p, ⟨⟨by omega, hi⟩, hp⟩, _, _, _, sa', sk', hc, _, fun w' hE' => ih _ hm _ (hr.ext hE'), fun hf w5 hE5 => ⟨hE34.trans hE5, ?_⟩, fun ht => ⟨⟨by omega, by omega⟩, fun w5 hE5 => ⟨⟨k + 1, by omega, by omega, ?_, hE34.trans hE5⟩, by dsimp only; omega⟩⟩⟩
  ·rw [heq, hf]; rfl
  ·rw [heq, ht]; rfl
 ·have hkl : k = t.kids.length := by omega
  subst hkl
  rw [heq, List.drop_length]; rfl
theorem refAll {A : List Nat} : ∀ t : T, ∀ (root : Bool) {w : World} {sa sk : Sl}, RdT A w t sa sk → Calls Tryz.prog 76 #[tv t sa sk, .bool false, .bool root] w (Ret fun v w' => Ext w w' ∧ v = .bool (nodeOk t && !(decide (t.kind = 5) && !root))) :=
 T.ind' fun t ih root _ _ _ h => refAllLoop t ih false root _ may_false may_true h
theorem refCheck {A : List Nat} (t : T) (hb : t.bulk ≤ 1099511627776) {w : World} {sa sk : Sl} (h : RdT A w t sa sk) :
  Calls Tryz.prog 49 #[tv t sa sk] w (Ret fun v w' => Ext w w' ∧ v = .bool t.check) := by
 refine ref05_Check.ok _ _ _ _ _ ?_
 unfold ref05_Check.vc
 intro w1 B1 _ hE1
 refine ⟨_, fun _ => refSize t hb (h.ext hE1), fun w2 hE2 => ⟨_, fun _ => refDepth t hb (h.ext (hE1.trans hE2)), fun w3 hE3 => ⟨(t.name.isEmpty && t.text.isEmpty && t.attrs.isEmpty && kidsOk t), fun hg => ?_, fun w4 hE4 => ⟨((hE1.trans hE2).trans hE3).trans hE4, ?_⟩⟩⟩⟩
 ·have hk := hg.1.1
  refine refAllLoop t (fun u _ root _ _ _ h => refAll u root h) true false _ (fun hf => ?_) (fun ht => ?_) (h.ext ((hE1.trans hE2).trans hE3))
  ·unfold mayOk at hf; rw [if_pos hk, Bool.true_and] at hf; rw [hf]; rfl
  ·unfold mayOk at ht; rw [if_pos hk, Bool.true_and] at ht; rw [ht]; simp
 ·unfold T.check
  have e1 : decide ((t.size : Int) ≤ 300) = decide (t.size ≤ 300) := by rw [Bool.eq_iff_iff]; simp; omega
  have e2 : decide ((t.depth : Int) ≤ 60) = decide (t.depth ≤ 60) := by rw [Bool.eq_iff_iff]; simp; omega
  rw [e1, e2]
  simp only [Bool.and_assoc]
theorem refSign {w : World} (x y : Bool) : Calls Tryz.prog 30 #[.bool x, .bool y] w (Ret fun v w' => Ext w w' ∧ v = .int .i64 (if x = true then -1 else if y = true then 1 else 0)) := by
 refine ref05_sign.ok _ _ ?_
 unfold ref05_sign.vc
 refine ⟨fun h => ⟨Chg.refl _ _, by rw [if_pos h]⟩, fun h => ⟨fun h2 => ⟨Chg.refl _ _, by rw [if_neg (by rw [h]; decide), if_pos h2]⟩, fun h2 => ⟨Chg.refl _ _, by rw [if_neg (by rw [h]; decide), if_neg (by rw [h2]; decide)]⟩⟩⟩
theorem sign_int (x y : Int) : (if decide (x < y) = true then (-1 : Int) else if decide (y < x) = true then 1 else 0) = cmpI x y := by
 unfold cmpI; simp
theorem cmpS_small (a b : Str) : -1 ≤ cmpS a b ∧ cmpS a b ≤ 1 := by
 unfold cmpS
 rw [compareBytes_lex]
 induction a generalizing b with
 |nil => cases b <;> simp [lexM]
 |cons x a ih =>
  cases b with
  |nil => simp [lexM]
  |cons y b =>
   have := ih b
   simp only [lexM, or2, cmpB, cmpI]
   split <;> (try split) <;> (try split) <;> omega
theorem sign_str (x y : Str) : (if Op.bytesLess x y = true then (-1 : Int) else if (!(Op.bytesLess x y || decide (x = y))) = true then 1 else 0) = cmpS x y := by
 rw [bytesLess_cmp]
 have h1 := cmpS_small x y
 have h2 := cmpS_zero x y
 by_cases a : cmpS x y < 0
 ·simp [a]; omega
 ·by_cases b : x = y
  ·have := h2.2 b; simp [b] at *; omega
  ·have : cmpS x y ≠ 0 := fun e => b (h2.1 e)
   simp [a, b]; omega
theorem sign_attr (p q : Str × Str) : (if (Op.bytesLess p.1 q.1 || (decide (p.1 = q.1) && Op.bytesLess p.2 q.2)) = true then (-1 : Int) else if ((!(Op.bytesLess p.1 q.1 || decide (p.1 = q.1))) || (decide (p.1 = q.1) && !(Op.bytesLess p.2 q.2 || decide (p.2 = q.2)))) = true then 1 else 0) = cmpA p q := by
 unfold cmpA or2
 have s1 := sign_str p.1 q.1
 have s2 := sign_str p.2 q.2
 have z := cmpS_zero p.1 q.1
 by_cases e : p.1 = q.1
 ·rw [if_pos (z.2 e), ← s2]
  have : Op.bytesLess p.1 q.1 = false := by rw [bytesLess_cmp]; simp [z.2 e]
  simp [e]
  have h3 : Op.bytesLess q.1 q.1 = false := by rw [e] at this; exact this
  simp [h3]
 ·rw [if_neg (fun h => e (z.1 h)), ← s1]
  simp [e]
theorem refNode {A : List Nat} {a b : T} {w : World} {sa sk ta tk : Sl} (ha : RdT A w a sa sk) (hb : RdT A w b ta tk) :
  Calls Tryz.prog 29 #[tv a sa sk, tv b ta tk] w (Ret fun v w' => Ext w w' ∧ v = .int .i64 (or2 (or2 (cmpI a.kind b.kind) (or2 (cmpS a.name b.name) (cmpS a.text b.text))) (lexM cmpA a.attrs b.attrs))) := by
 refine ref05_Node.ok _ _ _ _ _ _ _ _ _ _ ?_
 unfold ref05_Node.vc
 have hna := ha.nattrs
 have hnb := hb.nattrs
 have hca := ha.caps
 have hcb := hb.caps
 simp only [maxLen] at hca hcb
 intro w1 B1 B2 hN1 hN2 _ hE1
 refine CallK.exact (refSign _ _) fun w2 hE2 => ⟨_, rfl, ?_⟩
 rw [sign_int]
 refine ⟨fun c w3 => c = or2 (cmpI a.kind b.kind) (cmpS a.name b.name) ∧ Ext w w3, ⟨fun h0 => CallK.exact (refSign _ _) fun w3 hE3 => ⟨_, rfl, ?_, (hE1.trans hE2).trans hE3⟩, fun h0 => ⟨(or2_ne _ h0).symm, hE1.trans hE2⟩⟩, ?_⟩
 ·rw [sign_str, h0, or2_zero]
 rintro _ w3 ⟨rfl, hE3⟩
 generalize hx0 : or2 (cmpI a.kind b.kind) (or2 (cmpS a.name b.name) (cmpS a.text b.text)) = x0
 have hassoc : x0 = or2 (or2 (cmpI a.kind b.kind) (cmpS a.name b.name)) (cmpS a.text b.text) := by
  rw [← hx0]
  by_cases h : cmpI a.kind b.kind = 0
  ·rw [h, or2_zero, or2_zero]
  ·rw [or2_ne _ h, or2_ne (cmpS a.name b.name) h, or2_ne _ h]
 refine ⟨fun c w4 => c = x0 ∧ Ext w w4, ⟨fun h0 => CallK.exact (refSign _ _) fun w4 hE4 => ⟨_, rfl, ?_, hE3.trans hE4⟩, fun h0 => ⟨by rw [hassoc, or2_ne _ h0], hE3⟩⟩, ?_⟩
 ·rw [sign_str, hassoc, h0, or2_zero]
 rintro x0 w4 ⟨rfl, hE4⟩
 refine ⟨fun x i w3 => ∃ k : Nat, i = (k : Int) ∧ k ≤ a.attrs.length ∧ k ≤ b.attrs.length ∧ or2 x0 (lexM cmpA a.attrs b.attrs) = or2 x (lexM cmpA (a.attrs.drop k) (b.attrs.drop k)) ∧ Ext w w3, fun _ i _ => a.attrs.length - i.toNat, ⟨0, rfl, Nat.zero_le _, Nat.zero_le _, rfl, hE4⟩, ?_⟩
 rintro x _ w5 ⟨k, rfl, hk1, hk2, heq, hE5⟩
 rw [Int.toNat_natCast]
 refine ⟨fun hgo w6 hE6 => ?_, fun hend => ?_⟩
 ·obtain ⟨⟨hx, hi⟩, hj⟩ := hgo
  subst hx
  have hE56 := hE5.trans hE6
  obtain ⟨p, hp, _, hc⟩ := (ha.ext hE56).attr (i := k) (by omega)
  obtain ⟨q, hq, _, hd⟩ := (hb.ext hE56).attr (i := k) (by omega)
  rw [drop_at a.attrs ([], []) (by omega), drop_at b.attrs ([], []) (by omega), lexM_step, or2_zero] at heq
  refine ⟨p, ⟨⟨by omega, hi⟩, hp⟩, _, _, hc, q, ⟨⟨by omega, hj⟩, hq⟩, _, _, hd, fun w7 B7 B8 hE7 hB7 _ hB8 _ w8 hC8 => CallK.exact (refSign _ _) fun w9 hE9 => ⟨_, rfl, ⟨by omega, by omega⟩, ⟨k + 1, by omega, by omega, by omega, ?_, ?_⟩, by dsimp only; omega⟩⟩
  ·rw [sign_attr]; exact heq
  ·have hs := hE56.size
   exact (Chg.fresh (hE56.trans hE7) hC8 (by simp; omega)).trans hE9
 ·have hex : or2 x0 (lexM cmpA a.attrs b.attrs) = or2 x (cmpI (a.attrs.length : Int) (b.attrs.length : Int)) := by
   rw [heq]
   refine lexM_exit cmpA a.attrs b.attrs x k hk1 hk2 ?_
   rcases hend with (h | h) | h
   ·exact .inl h
   ·exact .inr (.inl (by omega))
   ·exact .inr (.inr (by omega))
  rw [hna, hnb, hex]
  refine ⟨fun h0 => CallK.exact (refSign _ _) fun w6 hE6 => ⟨_, rfl, hE5.trans hE6, ?_⟩, fun h0 => ⟨hE5, by rw [or2_ne _ h0]⟩⟩
  rw [sign_int, h0, or2_zero]
theorem refCompare {A : List Nat} : ∀ a : T, ∀ (b : T) {w : World} {sa sk ta tk : Sl}, RdT A w a sa sk → RdT A w b ta tk →
  Calls Tryz.prog 21 #[tv a sa sk, tv b ta tk] w (Ret fun v w' => Ext w w' ∧ v = .int .i64 (T.cmp a b)) := T.ind' fun a ih b w sa sk ta tk ha hb => by
 refine ref05_Compare.ok _ _ _ _ _ _ _ _ _ _ ?_
 unfold ref05_Compare.vc
 have hnk := ha.nkids
 have hnl := hb.nkids
 have hca := ha.caps
 have hcb := hb.caps
 simp only [maxLen] at hca hcb
 intro w1 B1 B2 _ _ _ hE1
 refine CallK.exact (refNode (ha.ext hE1) (hb.ext hE1)) fun w2 hE2 => ⟨_, rfl, ?_⟩
 rw [T.cmp_eq a b]
 generalize or2 (or2 (cmpI a.kind b.kind) (or2 (cmpS a.name b.name) (cmpS a.text b.text))) (lexM cmpA a.attrs b.attrs) = x1
 refine ⟨fun y i w7 => ∃ k : Nat, i = (k : Int) ∧ k ≤ a.kids.length ∧ k ≤ b.kids.length ∧ or2 x1 (lexM T.cmp a.kids b.kids) = or2 y (lexM T.cmp (a.kids.drop k) (b.kids.drop k)) ∧ Ext w w7, fun _ i _ => a.kids.length - i.toNat, ⟨0, rfl, Nat.zero_le _, Nat.zero_le _, rfl, hE1.trans hE2⟩, ?_⟩
 rintro y _ w7 ⟨j, rfl, hj1, hj2, heq2, hE7⟩
 rw [Int.toNat_natCast]
 refine ⟨fun hgo w8 hE8 => ?_, fun hend => ?_⟩
 ·obtain ⟨⟨hy, hi⟩, hj⟩ := hgo
  subst hy
  have hE78 := hE7.trans hE8
  have hj1' : j < a.kids.length := by omega
  have hj2' : j < b.kids.length := by omega
  obtain ⟨p, sa', sk', hp, _, hc, hr⟩ := (ha.ext hE78).kid hj1'
  obtain ⟨q, ta', tk', hq, _, hd, hs⟩ := (hb.ext hE78).kid hj2'
  rw [drop_at a.kids T.nul hj1', drop_at b.kids T.nul hj2', lexM_step, or2_zero] at heq2
  refine ⟨p, ⟨⟨by omega, hi⟩, hp⟩, _, _, _, sa', sk', hc, q, ⟨⟨by omega, hj⟩, hq⟩, _, _, _, ta', tk', hd, _, fun w' hE' => ih _ (getD_mem hj1') _ (hr.ext hE') (hs.ext hE'), ⟨by omega, by omega⟩, fun w9 hE9 => ⟨⟨j + 1, by omega, by omega, by omega, heq2, hE78.trans hE9⟩, by dsimp only; omega⟩⟩
 ·have hex2 : or2 x1 (lexM T.cmp a.kids b.kids) = or2 y (cmpI (a.kids.length : Int) (b.kids.length : Int)) := by
   rw [heq2]
   refine lexM_exit T.cmp a.kids b.kids y j hj1 hj2 ?_
   rcases hend with (h | h) | h
   ·exact .inl h
   ·exact .inr (.inl (by omega))
   ·exact .inr (.inr (by omega))
  rw [hnk, hnl, hex2]
  refine ⟨fun h0 => CallK.exact (refSign _ _) fun w6 hE6 => ⟨_, rfl, hE7.trans hE6, ?_⟩, fun h0 => ⟨hE7, by rw [or2_ne _ h0]⟩⟩
  rw [sign_int, h0, or2_zero]
theorem refSame {A : List Nat} (a b : T) {w : World} {sa sk ta tk : Sl} (ha : RdT A w a sa sk) (hb : RdT A w b ta tk) :
  Calls Tryz.prog 11 #[tv a sa sk, tv b ta tk] w (Ret fun v w' => Ext w w' ∧ v = .bool (decide (T.cmp a b = 0))) := by
 refine ref05_Same.ok _ _ _ _ _ _ _ _ _ _ ?_
 unfold ref05_Same.vc
 intro w1 B1 B2 _ _ _ hE1
 exact CallK.exact (refCompare a b (ha.ext hE1) (hb.ext hE1)) fun w2 hE2 => ⟨_, rfl, hE1.trans hE2, rfl⟩
end
section
open Go.RowKit
structure Nodes (A : List Nat) (w : World) (D : Nat) (l : Sl) (X : List Nd) : Prop where
 box : Box w D 74 [l.v]
 dA : D ∉ A
 row : Own A w l 8 80 (X.map ndc)
 sa : ∀ x ∈ X, Own A w x.sa 2 63 (x.r.attrs.map ac)
 sk : ∀ x ∈ X, Own A w x.sk 1 3 (x.r.kids.map ic)
 apart : ∀ (i j : Nat) (x y : Nd), i ≠ j → X[i]? = some x → X[j]? = some y → (∀ b ∈ x.sa.blk, b ∉ y.sa.blk) ∧ ∀ b ∈ x.sk.blk, b ∉ y.sk.blk
 nodup : (X.map fun x => x.r.id).Nodup
 few : X.length ≤ 1000000
 fit : ∀ x ∈ X, x.r.attrs.length ≤ 1000000 ∧ x.r.kids.length ≤ 1000000
section
variable {A : List Nat} {w w' w1 w2 : World} {D : Nat} {l : Sl} {X : List Nd}
theorem Nodes.chg {F : List Nat} (h : Nodes A w D l X) (c : Chg F w w') (hF : ∀ b ∈ F, b ∈ A) : Nodes A w' D l X :=
 ⟨h.box.keep c (fun hm => h.dA (hF _ hm)), h.dA, h.row.chg c hF, fun x hx => (h.sa x hx).chg c hF, fun x hx => (h.sk x hx).chg c hF, h.apart, h.nodup, h.few, h.fit⟩
theorem Nodes.ext (h : Nodes A w D l X) (c : Ext w w') : Nodes A w' D l X := h.chg c (by simp)
theorem Nodes.wide {A' : List Nat} (h : Nodes A w D l X) (hA : ∀ b ∈ A', b ∈ A ∨ w.heap.size ≤ b) : Nodes A' w D l X := by
 have av : ∀ {s : Sl} {size : Nat} {T : TypeId} {vs : List (List Value)}, Own A w s size T vs → Own A' w s size T vs := fun ho => ho.avoid fun b hb hm => by
  have h2 := ho.blk b hb
  rcases hA b hm with h3 | h3
  ·exact h2.1 h3
  ·omega
 refine ⟨h.box, fun hm => ?_, av h.row, fun x hx => av (h.sa x hx), fun x hx => av (h.sk x hx), h.apart, h.nodup, h.few, h.fit⟩
 rcases hA _ hm with h3 | h3
 ·exact h.dA h3
 ·have := h.box.lt; omega
theorem Nodes.at (h : Nodes A w D l X) {i : Nat} {x : Nd} (hi : X[i]? = some x) : ∃ g, l.a = some ⟨g, 0, none⟩ ∧ l.blk = [g] ∧ Cells w ⟨g, i * 8, none⟩ (ndc x) := by
 obtain ⟨hil, _⟩ := List.getElem?_eq_some_iff.1 hi
 rcases h.row.box with e | ⟨g, cur, h1, h2, h3⟩
 ·have := h.row.len
  rw [e] at this; simp [Sl.nil] at this; omega
 ·refine ⟨g, h1, h2, ?_⟩
  have := h.row.row.cells1 (i := i) (by simpa using hil) h1
  rw [Addr.add_lit, Nat.zero_add] at this
  rwa [List.getD_eq_getElem?_getD, List.getElem?_map, hi] at this
theorem Nodes.only (h : Nodes A w D l X) {i : Nat} {x : Nd} (hi : X[i]? = some x) {b : Nat} (hb : b ∈ x.sa.blk ∨ b ∈ x.sk.blk) : b ∉ A ∧ b ≠ D ∧ b ∉ l.blk ∧ ∀ j y, j ≠ i → X[j]? = some y → b ∉ y.sa.blk ∧ b ∉ y.sk.blk := by
 have hx := List.mem_of_getElem? hi
 have ha := h.sa x hx
 have hk := h.sk x hx
 rcases hb with hb | hb
 ·refine ⟨(ha.blk b hb).1, fun e => (ha.other h.box (by decide)) (e ▸ hb), (ha.apart h.row (by decide)) b hb, fun j y hj hy => ⟨(h.apart i j x y (fun e => hj e.symm) hi hy).1 b hb, (ha.apart (h.sk y (List.mem_of_getElem? hy)) (by decide)) b hb⟩⟩
 ·refine ⟨(hk.blk b hb).1, fun e => (hk.other h.box (by decide)) (e ▸ hb), (hk.apart h.row (by decide)) b hb, fun j y hj hy => ⟨(hk.apart (h.sa y (List.mem_of_getElem? hy)) (by decide)) b hb, (h.apart i j x y (fun e => hj e.symm) hi hy).2 b hb⟩⟩
theorem Nodes.upd (h : Nodes A w D l X) {i : Nat} {x : Nd} (hi : X[i]? = some x) (x' : Nd) (hid : x'.r.id = x.r.id) {F : List Nat} (hC : Chg F w w1) (hF : ∀ b ∈ F, b ∈ x.sa.blk ∨ b ∈ x.sk.blk ∨ w.heap.size ≤ b)
  (hsa : Own A w1 x'.sa 2 63 (x'.r.attrs.map ac)) (hsk : Own A w1 x'.sk 1 3 (x'.r.kids.map ic)) (hba : ∀ b ∈ x'.sa.blk, b ∈ x.sa.blk ∨ w.heap.size ≤ b) (hbk : ∀ b ∈ x'.sk.blk, b ∈ x.sk.blk ∨ w.heap.size ≤ b) (hfit : x'.r.attrs.length ≤ 1000000 ∧ x'.r.kids.length ≤ 1000000)
  {g : Nat} {cur us : List Value} {o : Nat} (hg : l.a = some ⟨g, 0, none⟩) (hB : Box w1 g 80 cur) (hC2 : Chg [g] w1 w2) (hB2 : Box w2 g 80 (putAt cur (i * 8 + o) us)) (ho : o + us.length ≤ 8) (hput : putAt (ndc x) o us = ndc x') :
  Nodes A w2 D l (X.set i x') ∧ Chg (g :: F) w w2 := by
 have hx := List.mem_of_getElem? hi
 have hgl : l.blk = [g] := by simp [Sl.blk, hg]
 have hgd : g ≠ D := fun e => (h.row.other h.box (by decide)) (by rw [hgl, e]; simp)
 have hgA : g ∉ A := (h.row.blk g (by rw [hgl]; simp)).1
 have hglt : g < w.heap.size := (h.row.blk g (by rw [hgl]; simp)).2
 have hFn : ∀ {b : Nat}, b ∈ F → b < w.heap.size → b ∈ x.sa.blk ∨ b ∈ x.sk.blk := fun hb hlt => by
  rcases hF _ hb with h | h | h
  ·exact .inl h
  ·exact .inr h
  ·omega
 have hDF : D ∉ F := fun hm => (h.only hi (hFn hm h.box.lt)).2.1 rfl
 have hlF : ∀ b ∈ l.blk, b ∉ F := fun b hb hm => (h.only hi (hFn hm (h.row.blk b hb).2)).2.2.1 hb
 obtain ⟨hil, _⟩ := List.getElem?_eq_some_iff.1 hi
 have hil' : i < (X.map ndc).length := by simpa using hil
 have hgD : (X.map ndc).getD i [] = ndc x := by rw [List.getD_eq_getElem?_getD, List.getElem?_map, hi]; rfl
 have hrow := (h.row.keep hC hlF).put hg hB hil' ho hB2
 rw [hgD, hput, ← List.map_set] at hrow
 have oth : ∀ (j : Nat) (y : Nd), j ≠ i → X[j]? = some y → Own A w2 y.sa 2 63 (y.r.attrs.map ac) ∧ Own A w2 y.sk 1 3 (y.r.kids.map ic) := fun j y hj hy => by
  have hym := List.mem_of_getElem? hy
  have a1 := h.sa y hym
  have k1 := h.sk y hym
  refine ⟨(a1.keep hC fun b hb hm => ((h.only hi (hFn hm (a1.blk b hb).2)).2.2.2 j y hj hy).1 hb).keep hC2 fun b hb hm => ?_, (k1.keep hC fun b hb hm => ((h.only hi (hFn hm (k1.blk b hb).2)).2.2.2 j y hj hy).2 hb).keep hC2 fun b hb hm => ?_⟩
  ·simp at hm; exact (a1.apart h.row (by decide)) b hb (by rw [hgl, hm]; simp)
  ·simp at hm; exact (k1.apart h.row (by decide)) b hb (by rw [hgl, hm]; simp)
 have own : Own A w2 x'.sa 2 63 (x'.r.attrs.map ac) ∧ Own A w2 x'.sk 1 3 (x'.r.kids.map ic) := by
  refine ⟨hsa.keep hC2 fun b hb hm => ?_, hsk.keep hC2 fun b hb hm => ?_⟩
  ·simp at hm; exact (hsa.other hB (by decide)) (hm ▸ hb)
  ·simp at hm; exact (hsk.other hB (by decide)) (hm ▸ hb)
 have each : ∀ (j : Nat) (y : Nd), (X.set i x')[j]? = some y → Own A w2 y.sa 2 63 (y.r.attrs.map ac) ∧ Own A w2 y.sk 1 3 (y.r.kids.map ic) ∧ y.r.attrs.length ≤ 1000000 ∧ y.r.kids.length ≤ 1000000 := fun j y hy => by
  rcases set_at hi hy with ⟨_, rfl⟩ | ⟨hj, hy⟩
  ·exact ⟨own.1, own.2, hfit⟩
  ·exact ⟨(oth j y hj hy).1, (oth j y hj hy).2, h.fit y (List.mem_of_getElem? hy)⟩
 have eachM : ∀ y ∈ X.set i x', Own A w2 y.sa 2 63 (y.r.attrs.map ac) ∧ Own A w2 y.sk 1 3 (y.r.kids.map ic) ∧ y.r.attrs.length ≤ 1000000 ∧ y.r.kids.length ≤ 1000000 := fun y hy => by
  obtain ⟨j, hj, e⟩ := List.getElem_of_mem hy
  exact each j y (by rw [List.getElem?_eq_getElem hj, e])
 have newer : ∀ (j : Nat) (y : Nd), j ≠ i → X[j]? = some y → (∀ b ∈ x'.sa.blk, b ∉ y.sa.blk) ∧ ∀ b ∈ x'.sk.blk, b ∉ y.sk.blk := fun j y hj hy => by
  have hym := List.mem_of_getElem? hy
  refine ⟨fun b hb hm => ?_, fun b hb hm => ?_⟩
  ·rcases hba b hb with h1 | h1
   ·exact (h.apart i j x y (fun e => hj e.symm) hi hy).1 b h1 hm
   ·have := ((h.sa y hym).blk b hm).2; omega
  ·rcases hbk b hb with h1 | h1
   ·exact (h.apart i j x y (fun e => hj e.symm) hi hy).2 b h1 hm
   ·have := ((h.sk y hym).blk b hm).2; omega
 refine ⟨⟨(h.box.keep hC hDF).keep hC2 (by simpa using fun e => hgd e.symm), h.dA, hrow, fun y hy => (eachM y hy).1, fun y hy => (eachM y hy).2.1, fun j k y z hjk hy hz => ?_, by rw [set_ids hi hid]; exact h.nodup, by rw [List.length_set]; exact h.few, fun y hy => (eachM y hy).2.2⟩, ?_⟩
 ·rcases set_at hi hy with ⟨e1, e2⟩ | ⟨hj, hy'⟩
  ·rcases set_at hi hz with ⟨e, _⟩ | ⟨hk, hz'⟩
   ·exact absurd (e1.trans e.symm) hjk
   ·rw [e2]; exact newer k z hk hz'
  ·rcases set_at hi hz with ⟨e1, e2⟩ | ⟨hk, hz'⟩
   ·have := newer j y hj hy'
    rw [e2]
    exact ⟨fun b hb hm => this.1 b hm hb, fun b hb hm => this.2 b hm hb⟩
   ·exact h.apart j k y z hjk hy' hz'
 ·exact (hC.mono fun x hx => List.mem_cons_of_mem _ hx).trans (hC2.mono fun x hx => by simp only [List.mem_singleton] at hx; rw [hx]; exact List.mem_cons_self ..)
theorem Nodes.push (h : Nodes A w D l X) (x : Nd) (hid : ∀ y ∈ X, y.r.id ≠ x.r.id) {l' : Sl} (hbox : Box w1 D 74 [l'.v]) (hrow : Own A w1 l' 8 80 ((X ++ [x]).map ndc)) (hC : Mod A w w1)
  (oth : ∀ y ∈ X, Own A w1 y.sa 2 63 (y.r.attrs.map ac) ∧ Own A w1 y.sk 1 3 (y.r.kids.map ic)) (hsa : Own A w1 x.sa 2 63 (x.r.attrs.map ac)) (hsk : Own A w1 x.sk 1 3 (x.r.kids.map ic)) (hba : ∀ b ∈ x.sa.blk, w.heap.size ≤ b) (hbk : ∀ b ∈ x.sk.blk, w.heap.size ≤ b)
  (hfit : x.r.attrs.length ≤ 1000000 ∧ x.r.kids.length ≤ 1000000) (hfew : X.length + 1 ≤ 1000000) : Nodes A w1 D l' (X ++ [x]) := by
 have eachM : ∀ y ∈ X ++ [x], Own A w1 y.sa 2 63 (y.r.attrs.map ac) ∧ Own A w1 y.sk 1 3 (y.r.kids.map ic) ∧ y.r.attrs.length ≤ 1000000 ∧ y.r.kids.length ≤ 1000000 := fun y hy => by
  rcases List.mem_append.1 hy with hy | hy
  ·exact ⟨(oth y hy).1, (oth y hy).2, h.fit y hy⟩
  ·have : y = x := by simpa using hy
   subst this; exact ⟨hsa, hsk, hfit⟩
 have cases' : ∀ {j : Nat} {y : Nd}, (X ++ [x])[j]? = some y → (X[j]? = some y) ∨ (j = X.length ∧ y = x) := fun {j y} hy => by
  by_cases hj : j < X.length
  ·rw [List.getElem?_append_left hj] at hy; exact .inl hy
  ·rw [List.getElem?_append_right (by omega)] at hy
   have := (List.getElem?_eq_some_iff.1 hy).1
   have h0 : j - X.length = 0 := by simp at this; omega
   rw [h0] at hy
   exact .inr ⟨by omega, by simpa using hy.symm⟩
 have newer : ∀ y ∈ X, (∀ b ∈ x.sa.blk, b ∉ y.sa.blk) ∧ ∀ b ∈ x.sk.blk, b ∉ y.sk.blk := fun y hy =>
  ⟨fun b hb hm => by have := hba b hb; have := ((h.sa y hy).blk b hm).2; omega, fun b hb hm => by have := hbk b hb; have := ((h.sk y hy).blk b hm).2; omega⟩
 refine ⟨hbox, h.dA, hrow, fun y hy => (eachM y hy).1, fun y hy => (eachM y hy).2.1, fun j k y z hjk hy hz => ?_, ?_, by rw [List.length_append]; exact hfew, fun y hy => (eachM y hy).2.2⟩
 ·rcases cases' hy with hy' | ⟨e1, e2⟩
  ·rcases cases' hz with hz' | ⟨_, e2⟩
   ·exact h.apart j k y z hjk hy' hz'
   ·have := newer y (List.mem_of_getElem? hy')
    rw [e2]
    exact ⟨fun b hb hm => this.1 b hm hb, fun b hb hm => this.2 b hm hb⟩
  ·rcases cases' hz with hz' | ⟨e3, _⟩
   ·rw [e2]; exact newer z (List.mem_of_getElem? hz')
   ·exact absurd (e1.trans e3.symm) hjk
 ·rw [List.map_append]
  refine List.nodup_append.2 ⟨h.nodup, by simp, fun a ha b hb e => ?_⟩
  simp only [List.map_cons, List.map_nil, List.mem_singleton] at hb
  obtain ⟨y, hy, rfl⟩ := List.mem_map.1 ha
  exact hid y hy (e.trans hb)
theorem Nodes.cur (h : Nodes A w D l X) {g : Nat} (hg : l.a = some ⟨g, 0, none⟩) : ∃ cur, Box w g 80 cur ∧ ∀ {i : Nat} {x : Nd}, X[i]? = some x → i * 8 + 8 ≤ cur.length := by
 rcases h.row.at_ with e | ⟨g', cur, e1, _, e3, e4, _⟩
 ·rw [e] at hg; cases hg
 ·rw [hg] at e1; cases e1
  refine ⟨cur, e3, fun {i x} hi => ?_⟩
  have h1 := h.row.len
  have h2 := h.row.cap
  rw [List.length_map] at h1
  have := (List.getElem?_eq_some_iff.1 hi).1
  rw [e4]; omega
theorem Nodes.len (h : Nodes A w D l X) : l.n = X.length := by have := h.row.len; simpa using this
theorem Nodes.cell (h : Nodes A w D l X) : w.cell? ((⟨D, 0, none⟩ : Addr).add 0) = some l.v := by rw [Addr.add_lit]; exact h.box.cell 0 _ rfl
theorem Nodes.cut (h : Nodes A w D l X) (i : Nat) {l' : Sl} (hbox : Box w1 D 74 [l'.v]) (hrow : Own A w1 l' 8 80 ((X.take i ++ X.drop (i + 1)).map ndc))
  (oth : ∀ y ∈ X, Own A w1 y.sa 2 63 (y.r.attrs.map ac) ∧ Own A w1 y.sk 1 3 (y.r.kids.map ic)) : Nodes A w1 D l' (X.take i ++ X.drop (i + 1)) := by
 have mem : ∀ y ∈ X.take i ++ X.drop (i + 1), y ∈ X := fun y hy => by
  rcases List.mem_append.1 hy with hy | hy
  ·exact List.mem_of_mem_take hy
  ·exact List.mem_of_mem_drop hy
 have hsub : (X.take i ++ X.drop (i + 1)).Sublist X := by
  have : (X.take i ++ X.drop (i + 1)).Sublist (X.take i ++ X.drop i) := List.Sublist.append_left (by rw [show i + 1 = 1 + i by omega, Nat.add_comm, ← List.drop_drop]; exact List.drop_sublist _ _) _
  rwa [List.take_append_drop] at this
 have back : ∀ {j : Nat} {y : Nd}, (X.take i ++ X.drop (i + 1))[j]? = some y → X[if j < i then j else j + 1]? = some y := fun {j y} hy => by
  by_cases hil : i ≤ X.length
  ·have hti : (X.take i).length = i := by rw [List.length_take]; omega
   by_cases hj : j < i
   ·rw [if_pos hj]
    rw [List.getElem?_append_left (by omega), List.getElem?_take, if_pos hj] at hy; exact hy
   ·rw [if_neg hj]
    rw [List.getElem?_append_right (by omega), List.getElem?_drop, hti] at hy
    rw [show j + 1 = i + 1 + (j - i) by omega]; exact hy
  ·have e1 : X.take i = X := List.take_of_length_le (by omega)
   have e2 : X.drop (i + 1) = [] := List.drop_eq_nil_of_le (by omega)
   rw [e1, e2, List.append_nil] at hy
   have := (List.getElem?_eq_some_iff.1 hy).1
   rw [if_pos (by omega)]; exact hy
 refine ⟨hbox, h.dA, hrow, fun y hy => (oth y (mem y hy)).1, fun y hy => (oth y (mem y hy)).2, fun j k y z hjk hy hz => ?_, (hsub.map _).nodup h.nodup, Nat.le_trans hsub.length_le h.few, fun y hy => h.fit y (mem y hy)⟩
 refine h.apart _ _ y z (fun e => hjk ?_) (back hy) (back hz)
 split at e <;> split at e <;> omega
theorem nodAt (h : Nodes A w D l X) (id : Int) : Calls Tryz.prog 77 #[.pointer (some ⟨D, 0, none⟩), .int .i64 id] w (Ret fun v w' => Ext w w' ∧ (((∀ x ∈ X, x.r.id ≠ id) ∧ v = .int .i64 (-1)) ∨ ∃ (i : Nat) (x : Nd), X[i]? = some x ∧ x.r.id = id ∧ v = .int .i64 (i : Int))) := by
 refine ref06_D_At.ok _ _ ?_
 unfold ref06_D_At.vc
 have hl := h.len
 have hf := h.few
 refine ⟨fun i w' => ∃ k : Nat, i = (k : Int) ∧ k ≤ X.length ∧ (∀ x ∈ X.take k, x.r.id ≠ id) ∧ Ext w w', fun i _ => X.length - i.toNat, ⟨0, rfl, by omega, by simp, Chg.refl _ _⟩, ?_⟩
 rintro _ w1 ⟨k, rfl, hk, hn, hE⟩
 have h1 := h.ext hE
 refine ⟨l, h1.cell, fun hlt => ?_, fun hge => ⟨hE, .inl ⟨?_, rfl⟩⟩⟩
 ·have hk' : k < X.length := by omega
  have hx := List.getElem?_eq_getElem hk'
  obtain ⟨g, hg, _, hc⟩ := h1.at hx
  have hc0 : w1.cell? (((⟨g, 0, none⟩ : Addr).add ((k : Int).toNat * 8)).add 0) = some (.int .i64 X[k].r.id) := by
   rw [Int.toNat_natCast, Addr.add_lit, Nat.zero_add]; exact hc 0 _ rfl
  refine ⟨l, h1.cell, ⟨by omega, hlt⟩, _, hg, X[k].r.id, hc0, fun he => ⟨hE, .inr ⟨k, _, hx, he, rfl⟩⟩, fun he => ⟨⟨by omega, by omega⟩, ⟨k + 1, by omega, by omega, fun x hx' => ?_, hE⟩, by dsimp only; omega⟩⟩
  rw [List.take_succ_eq_append_getElem hk'] at hx'
  rcases List.mem_append.1 hx' with hx' | hx'
  ·exact hn x hx'
  ·simp at hx'; rw [hx']; exact he
 ·rw [List.take_of_length_le (by omega)] at hn; exact hn
def NPtr (l : Sl) (X : List Nd) (id : Int) (r : Option Addr) : Prop := ((∀ x ∈ X, x.r.id ≠ id) ∧ r = none) ∨ ∃ (i : Nat) (x : Nd) (g : Nat), X[i]? = some x ∧ x.r.id = id ∧ l.a = some ⟨g, 0, none⟩ ∧ r = some ⟨g, i * 8, none⟩
theorem nodN (h : Nodes A w D l X) (id : Int) : Calls Tryz.prog 57 #[.pointer (some ⟨D, 0, none⟩), .int .i64 id] w (Ret fun v w' => Ext w w' ∧ ∃ r, v = .pointer r ∧ NPtr l X id r) := by
 refine ref06_D_N.ok _ _ ?_
 unfold ref06_D_N.vc
 have hl := h.len
 refine CallK.ext (nodAt h id) ?_
 rintro v w1 hE1 (⟨hn, rfl⟩ | ⟨i, x, hi, hx, rfl⟩)
 ·exact ⟨_, rfl, fun _ => ⟨hE1, none, rfl, .inl ⟨hn, rfl⟩⟩, fun hb => by omega⟩
 ·obtain ⟨g, hg, _, _⟩ := (h.ext hE1).at hi
  obtain ⟨hil, _⟩ := List.getElem?_eq_some_iff.1 hi
  refine ⟨_, rfl, fun hb => by omega, fun _ => ⟨l, (h.ext hE1).cell, ⟨by omega, by omega⟩, _, hg, hE1, _, rfl, .inr ⟨i, x, g, hi, hx, hg, ?_⟩⟩⟩
  rw [Int.toNat_natCast, Addr.add_lit, Nat.zero_add]
end
def Nod (A : List Nat) (w : World) (D : Nat) (R : I) : Prop := ∃ l X, Nodes A w D l X ∧ (X.map Nd.r).Perm (R.recs (-1)) ∧ R.Okay
section
variable {A : List Nat} {w w' : World} {D : Nat} {R : I}
theorem Nod.ext (h : Nod A w D R) (c : Ext w w') : Nod A w' D R := by
 obtain ⟨l, X, h1, h2⟩ := h; exact ⟨l, X, h1.ext c, h2⟩
theorem Nod.chg {F : List Nat} (h : Nod A w D R) (c : Chg F w w') (hF : ∀ b ∈ F, b ∈ A) : Nod A w' D R := by
 obtain ⟨l, X, h1, h2⟩ := h; exact ⟨l, X, h1.chg c hF, h2⟩
theorem Nod.wide {A' : List Nat} (h : Nod A w D R) (hA : ∀ b ∈ A', b ∈ A ∨ w.heap.size ≤ b) : Nod A' w D R := by
 obtain ⟨l, X, h1, h2⟩ := h; exact ⟨l, X, h1.wide hA, h2⟩
theorem Nod.okay (h : Nod A w D R) : R.Okay := by obtain ⟨l, X, h1, h2, h3⟩ := h; exact h3
theorem NPtr.find {l : Sl} {X : List Nd} {id : Int} {r : Option Addr} (h : NPtr l X id r) (hp : (X.map Nd.r).Perm (R.recs (-1))) (hR : R.Okay) : (R.find id = none ∧ r = none) ∨ ∃ (i : Nat) (x : Nd) (g : Nat) (e : I × Int × Nat), X[i]? = some x ∧ x.r.id = id ∧ l.a = some ⟨g, 0, none⟩ ∧ r = some ⟨g, i * 8, none⟩ ∧ R.find id = some e ∧ x.r = e.1.rec0 e.2.1 := by
 rcases h with ⟨hn, e⟩ | ⟨i, x, g, hi, hx, hg, e⟩
 ·exact .inl ⟨recNone hp hn, e⟩
 ·obtain ⟨e', he, hr⟩ := recOf hp hR hi
  exact .inr ⟨i, x, g, e', hi, hx, hg, e, hx ▸ he, hr⟩
theorem nodDeep (h : Nod A w D R) (id : Int) : Calls Tryz.prog 80 #[.pointer (some ⟨D, 0, none⟩), .int .i64 id] w (Ret fun v w' => Ext w w' ∧ v = .int .i64 (lev R id : Int)) := by
 obtain ⟨l, X, h1, hp, hR⟩ := h
 refine ref06_D_deep.ok _ _ ?_
 unfold ref06_D_deep.vc
 have hb := lev_le hR id
 refine CallK.ext (nodN h1 id) fun v w1 hE1 ⟨r, hv, hr⟩ => ⟨r, hv, fun k n w' => ∃ (q : Nat) (z : Int), k = (q : Int) ∧ NPtr l X z n ∧ q + lev R z = lev R id ∧ Ext w w', fun k _ _ => 61 - k.toNat, ⟨0, id, rfl, hr, by omega, hE1⟩, ?_⟩
 rintro _ n w2 ⟨q, z, rfl, hn, hq, hE⟩
 rcases hn.find hp hR with ⟨hf, rfl⟩ | ⟨i, x, g, e, hi, hx, hg, rfl, hf, hxr⟩
 ·refine ⟨fun hb => (by cases hb), fun _ => ⟨hE, ?_⟩⟩
  have : lev R z = 0 := by unfold lev; rw [hf]
  rw [show q = lev R id by omega]
 ·obtain ⟨g', hg', _, hc⟩ := (h1.ext hE).at hi
  rw [hg] at hg'; cases hg'
  have hl := lev_par hR hf
  have hpar : x.r.par = parOf R z := by unfold parOf; rw [hf, hxr]; rfl
  refine ⟨fun _ => ⟨⟨by omega, by omega⟩, _, rfl, x.r.par, hc 1 _ rfl, CallK.ext (nodN (h1.ext hE) _) fun v w3 hE3 ⟨r', hv', hr'⟩ => ⟨r', hv', ⟨q + 1, x.r.par, by omega, hr', by rw [hpar]; omega, hE.trans hE3⟩, by dsimp only; omega⟩⟩, fun hb => by cases hb⟩
theorem nodHas (h : Nod A w D R) (id : Int) : Calls Tryz.prog 77 #[.pointer (some ⟨D, 0, none⟩), .int .i64 id] w (Ret fun v w' => Ext w w' ∧ ∃ k : Int, v = .int .i64 k ∧ (0 ≤ k ↔ (R.find id).isSome = true)) := by
 obtain ⟨l, X, h1, hp, hR⟩ := h
 refine Ret.mono (nodAt h1 id) fun v w1 ⟨hE1, hv⟩ => ⟨hE1, ?_⟩
 rcases hv with ⟨hn, rfl⟩ | ⟨i, x, hi, hx, rfl⟩
 ·exact ⟨_, rfl, by rw [recNone hp hn]; simp⟩
 ·obtain ⟨e, he, _⟩ := recOf hp hR hi
  exact ⟨_, rfl, by rw [← hx, he]; simp⟩
theorem nodWithin (h : Nod A w D R) (x y : Int) : Calls Tryz.prog 83 #[.pointer (some ⟨D, 0, none⟩), .int .i64 x, .int .i64 y] w (Ret fun v w' => Ext w w' ∧ v = .bool (within R x y)) := by
 have hd := h
 obtain ⟨l, X, h1, hp, hR⟩ := h
 refine ref06_D_Within.ok _ _ _ ?_
 unfold ref06_D_Within.vc
 refine CallK.ext (nodN h1 y) fun v w1 hE1 ⟨r, hv, hr⟩ => ⟨r, hv, fun n w' => ∃ z : Int, NPtr l X z n ∧ within R x z = within R x y ∧ Ext w w', fun n _ => match n with | none => 0 | some a => match X[a.off / 8]? with | some u => lev R u.r.id | none => 0, ⟨y, hr, rfl, hE1⟩, ?_⟩
 rintro n w2 ⟨z, hn, hz, hE⟩
 have hsome : (R.find x).isSome = true ∨ within R x y = false := by
  unfold within
  cases R.find x with
  |none => exact .inr rfl
  |some e => exact .inl rfl
 obtain ⟨k, hk⟩ : ∃ k : Int, (0 ≤ k ↔ (R.find x).isSome = true) := by
  by_cases hs : (R.find x).isSome = true
  ·exact ⟨0, by simp [hs]⟩
  ·exact ⟨-1, by simp [hs]⟩
 have hat : ∃ k : Int, (0 ≤ k ↔ (R.find x).isSome = true) ∧ Calls Tryz.prog 77 #[.pointer (some ⟨D, 0, none⟩), .int .i64 x] w2 (Ret fun v w' => Ext w2 w' ∧ v = .int .i64 k) := by
  by_cases hs : ∃ (i : Nat) (u : Nd), X[i]? = some u ∧ u.r.id = x
  ·obtain ⟨i, u, hi, hu⟩ := hs
   obtain ⟨e, he, _⟩ := recOf hp hR hi
   refine ⟨(i : Int), by rw [← hu, he]; simp, Ret.mono (nodAt (h1.ext hE) x) fun v w3 ⟨hE3, hv3⟩ => ⟨hE3, ?_⟩⟩
   rcases hv3 with ⟨hn3, _⟩ | ⟨i', u', hi', hu', rfl⟩
   ·exact absurd hu (hn3 u (List.mem_of_getElem? hi))
   ·obtain ⟨rfl, _⟩ := getNd h1.nodup hi' hi hu' hu; rfl
  ·have hno : ∀ u ∈ X, u.r.id ≠ x := fun u hu e => hs (by
    obtain ⟨i, hi, e2⟩ := List.getElem_of_mem hu
    exact ⟨i, u, by rw [List.getElem?_eq_getElem hi, e2], e⟩)
   refine ⟨-1, by rw [recNone hp hno]; simp, Ret.mono (nodAt (h1.ext hE) x) fun v w3 ⟨hE3, hv3⟩ => ⟨hE3, ?_⟩⟩
   rcases hv3 with ⟨_, rfl⟩ | ⟨i', u', hi', hu', rfl⟩
   ·rfl
   ·exact absurd hu' (hno u' (List.mem_of_getElem? hi'))
 obtain ⟨k, hk, hcall⟩ := hat
 refine ⟨k, fun _ => hcall, fun w3 hE3 => ?_⟩
 have hE03 := hE.trans hE3
 rcases hn.find hp hR with ⟨hf, rfl⟩ | ⟨i, u, g, e, hi, hu, hg, rfl, hf, hur⟩
 ·refine ⟨fun hb => (by cases hb.1), fun _ => ⟨hE03, ?_⟩⟩
  congr 1
  rw [← hz]
  unfold within
  cases hx : R.find x with
  |none => rfl
  |some e =>
   refine (decide_eq_false fun hm => ?_).symm
   exact I.find_none.1 hf (I.sub_ids (I.find_some hx).1 _ hm)
 ·obtain ⟨g', hg', _, hc⟩ := (h1.ext hE03).at hi
  rw [hg] at hg'; cases hg'
  refine ⟨fun hb => ⟨_, rfl, u.r.id, hc 0 _ rfl, fun he => ⟨hE03, ?_⟩, fun he => ⟨_, rfl, u.r.par, hc 1 _ rfl, CallK.ext (nodN (h1.ext hE03) _) fun v w4 hE4 ⟨r', hv', hr'⟩ => ⟨r', hv', ⟨u.r.par, hr', ?_, hE03.trans hE4⟩, ?_⟩⟩⟩, fun hb => ⟨hE03, ?_⟩⟩
  ·have hzx : z = x := by rw [← hu, he]
   rw [← hz, hzx, within_self (hzx ▸ hf)]
  ·obtain ⟨e2, he2⟩ := Option.isSome_iff_exists.1 (hk.1 hb.2)
   have hpar : u.r.par = parOf R z := by unfold parOf; rw [hf, hur]; rfl
   rw [hpar, within_par hR he2 hf (fun e3 => he (by rw [hu, e3]))]; exact hz
  ·have hl := lev_par hR hf
   have hpar : u.r.par = parOf R z := by unfold parOf; rw [hf, hur]; rfl
   have hold : (i * 8) / 8 = i := by omega
   have e1 : (match X[i * 8 / 8]? with | some u => lev R u.r.id | none => 0) = lev R z := by rw [hold, hi]; simp only; rw [hu]
   rcases hr'.find hp hR with ⟨hf', rfl⟩ | ⟨i', u', g', e', hi', hu', hg', rfl, hf', hur'⟩
   ·show 0 < _
    simp only
    rw [e1]; omega
   ·have hold' : (i' * 8) / 8 = i' := by omega
    have e2 : (match X[i' * 8 / 8]? with | some u => lev R u.r.id | none => 0) = lev R (parOf R z) := by rw [hold', hi']; simp only; rw [hu', hpar]
    simp only
    rw [e1, e2]; omega
  ·congr 1
   rcases hb with hb | hb
   ·cases hb
   ·rcases hsome with hs | hs
    ·exact absurd (hk.2 hs) hb
    ·exact hs.symm
theorem nodHolds {w : World} {p : Addr} {k : Int} (h : w.cell? ((p.add 2).add 0) = some (.int .i64 k)) : Calls Tryz.prog 79 #[.pointer (some p)] w (Ret fun v w' => Ext w w' ∧ v = .bool (decide (k = 1) || decide (k = 2))) := by
 refine ref06_holds.ok _ ?_
 unfold ref06_holds.vc
 exact ⟨k, h, k, fun _ => h, Chg.refl _ _, rfl⟩
end
end
section
open Go.RowKit
theorem Own.runK0 {P : Program} {A bx : List Nat} {w : World} {s x : Sl} {size bytes : Nat} {t ty T : TypeId} {z : Value} {vs us : List (List Value)} {K : Value → World → Prop} (ht : P.underlying t = some (.slice T)) (hi : TI P T z size bytes) (hzs : z.cells.size = size) (hsz : 0 < size)
  (h : Own A w s size T vs) (hA : ∀ b ∈ A, b < w.heap.size) (hx : Row [] w x size us) (h1 : ∀ u ∈ us.flatten, u.oneCell' = true)
  (h63 : s.n + us.length ≤ maxLen) (hbytes : (s.n + us.length) * bytes ≤ 140737488355328) (hbx : ∀ b ∈ bx, b ∈ A)
  (k : ∀ s' w', Own A w' s' size T (vs ++ us) → Chg s.own w w' → (∀ b ∈ s'.blk, b ∈ s.blk ∨ w.heap.size ≤ b) → K s'.v w') :
  RunK P (Builtin.append_ #[t, t] ty #[s.v, x.v]) w bx K := by
 by_cases hu : us = []
 ·subst hu
  have hn : x.n = 0 := by have := hx.len; simpa using this
  have e := append_none (P := P) (w := w) (s := s) (x := x) (t := t) (ty := ty) ht hi h.cap hn
  exact ⟨_, _, e, fun _ _ _ => rfl, Nat.le_refl _, k s w (by rw [List.append_nil]; exact h) (Chg.refl _ _) (fun b hb => .inl hb)⟩
 ·exact App.runK ht hi hzs hsz (.inl h) hA hx h1 hu h63 hbytes hbx fun s' w' ho hc hb => k s' w' ho hc fun b hb' => (hb b hb').imp Sl.own_blk id
theorem Own.new {w0 w : World} {s : Sl} {size : Nat} {T : TypeId} {vs : List (List Value)} (h : Own (List.range w0.heap.size) w s size T vs) : ∀ b ∈ s.own, w0.heap.size ≤ b := fun b hb => by
 have := (h.blk b (Sl.own_blk hb)).1
 simpa using this
section
variable {w : World}
theorem nodPut {A : List Nat} {s : Sl} {ks : List Int} (h : Row A w s 1 (ks.map ic)) (hl : ks.length ≤ 1000000) {k : Nat} (hk : k ≤ ks.length) (id : Int) :
  Calls Tryz.prog 81 #[s.v, .int .i64 (k : Int), .int .i64 id] w (Ret fun v w' => Ext w w' ∧ ∃ r : Sl, v = r.v ∧ Own (List.range w.heap.size) w' r 1 3 ((insAt k id ks).map ic)) := by
 refine ref06_put.ok _ _ _ ?_
 unfold ref06_put.vc
 have hn : s.n = ks.length := by simpa using h.len
 have hcap := h.cap
 have hmo : maxLen = 9223372036854775807 := rfl
 have hmost := h.most
 have hr1 : ∀ w', Ext w w' → Row [] w' (Sl.cut s 1 0 k s.c) 1 ((ks.take k).map ic) := fun w' hE => by
  have := ((h.ext hE).less (A' := []) (by simp)).cut 0 k s.c (by omega) (by omega) (by omega) (by omega)
  rwa [List.drop_zero, Nat.sub_zero, ← List.map_take] at this
 have hr2 : ∀ w', Ext w w' → Row [] w' (Sl.cut s 1 k s.n s.c) 1 ((ks.drop k).map ic) := fun w' hE => by
  have := ((h.ext hE).less (A' := []) (by simp)).cut k s.n s.c (by omega) (by omega) (by omega) (by omega)
  rwa [← List.map_drop, List.take_of_length_le (by simp; omega)] at this
 rw [Int.toNat_natCast]
 refine ⟨⟨by omega, by omega⟩, Own.runK0 (A := List.range w.heap.size) Tryz.underlying78 ti_3 rfl (by decide) (Own.nil _ _ _ _) (fun b hb => List.mem_range.1 hb) (hr1 w (Chg.refl _ _)) (ones_ics _) (by simp; omega) (by simp; omega) (by simp) fun r1 w1 ho1 hc1 hb1 => ⟨r1, rfl, fun w2 B hN hE2 hbox => ?_⟩⟩
 have hE1 : Ext w w1 := hc1.mono (by simp [Sl.own])
 have hE02 := hE1.trans hE2
 have hn1 : r1.n = k := by have := ho1.len; simp at this; omega
 rw [List.nil_append] at ho1
 refine Own.runK0 (A := List.range w.heap.size) Tryz.underlying78 ti_3 rfl (by decide) (ho1.ext hE2) (fun b hb => by have := List.mem_range.1 hb; have := hE02.size; omega) (Own.one (A := []) (cs := ic id) hbox (by simp)).row (ones_ics [id]) (by simp; omega) (by simp; omega) (by simp) fun r2 w3 ho2 hc2 hb2 => ⟨r2, rfl, ⟨by omega, by omega⟩, ?_⟩
 have hE03 : Ext w w3 := Chg.fresh hE02 hc2 ho1.new
 have hn2 : r2.n = k + 1 := by have := ho2.len; simp at this; omega
 refine Own.runK0 (A := List.range w.heap.size) Tryz.underlying78 ti_3 rfl (by decide) ho2 (fun b hb => by have := List.mem_range.1 hb; have := hE03.size; omega) (hr2 w3 hE03) (ones_ics _) (by simp; omega) (by simp; omega) (by simp) fun r3 w4 ho3 hc3 hb3 => ⟨r3, rfl, Chg.fresh hE03 hc3 ho2.new, r3, rfl, ?_⟩
 have e : (insAt k id ks).map ic = (ks.take k).map ic ++ [ic id] ++ (ks.drop k).map ic := by unfold insAt; simp
 rw [e]; exact ho3
theorem nodWithout {A : List Nat} {s : Sl} {ks : List Int} (h : Row A w s 1 (ks.map ic)) (hl : ks.length ≤ 1000000) (id : Int) :
  Calls Tryz.prog 82 #[s.v, .int .i64 id] w (Ret fun v w' => Ext w w' ∧ ∃ r : Sl, v = r.v ∧ Own (List.range w.heap.size) w' r 1 3 ((ks.filter fun k => decide (k ≠ id)).map ic)) := by
 refine ref06_without.ok _ _ ?_
 unfold ref06_without.vc
 have hn : s.n = ks.length := by simpa using h.len
 have hmo : maxLen = 9223372036854775807 := rfl
 refine ⟨fun m i w' => ∃ k : Nat, i = (k : Int) ∧ k ≤ ks.length ∧ Own (List.range w.heap.size) w' m 1 3 (((ks.take k).filter fun k => decide (k ≠ id)).map ic) ∧ Ext w w', fun _ i _ => ks.length - i.toNat, ⟨0, rfl, by omega, Own.nil _ _ _ _, Chg.refl _ _⟩, ?_⟩
 rintro m _ w1 ⟨k, rfl, hk, ho, hE⟩
 rw [Int.toNat_natCast]
 refine ⟨fun hlt => ?_, fun hge => ⟨hE, m, rfl, ?_⟩⟩
 ·have hk' : k < ks.length := by omega
  obtain ⟨p, hp, hc⟩ := (h.ext hE).int hk'
  have hg : ks.getD k 0 = ks[k] := by rw [List.getD_eq_getElem?_getD, List.getElem?_eq_getElem hk']; rfl
  rw [hg] at hc
  have hfl := List.length_filter_le (fun k => decide (k ≠ id)) (ks.take k)
  have hmn := ho.len
  rw [List.length_map] at hmn
  rw [List.length_take] at hfl
  refine ⟨⟨by omega, hlt⟩, p, hp, _, hc, fun hne => ⟨⟨by omega, hlt⟩, p, hp, _, hc, fun w2 B hN hE2 hbox => ?_⟩, fun he => ⟨⟨by omega, by omega⟩, ⟨k + 1, by omega, by omega, ?_, hE⟩, by dsimp only; omega⟩⟩
  ·refine Own.runK0 (A := List.range w.heap.size) Tryz.underlying78 ti_3 rfl (by decide) (ho.ext hE2) (fun b hb => by have := List.mem_range.1 hb; have := (hE.trans hE2).size; omega) (Own.one (A := []) (cs := ic ks[k]) hbox (by simp)).row (ones_ics [ks[k]]) (by simp; omega) (by simp; omega) (by simp) fun r2 w3 ho2 hc2 hb2 => ⟨r2, rfl, ⟨by omega, by omega⟩, ⟨k + 1, by omega, by omega, ?_, Chg.fresh (hE.trans hE2) hc2 ho.new⟩, by dsimp only; omega⟩
   rw [List.take_succ_eq_append_getElem hk', List.filter_append, List.map_append]
   rw [show [ks[k]].filter (fun k => decide (k ≠ id)) = [ks[k]] by rw [List.filter_cons, if_pos (decide_eq_true hne)]; rfl]
   exact ho2
  ·rw [List.take_succ_eq_append_getElem hk', List.filter_append]
   rw [show [ks[k]].filter (fun k => decide (k ≠ id)) = [] by rw [List.filter_cons, if_neg (by simp; exact Classical.not_not.1 he)]; rfl, List.append_nil]
   exact ho
 ·rw [List.take_of_length_le (by omega)] at ho; exact ho
def goWith (n v : Str) : List (Str × Str) → Bool → List (Str × Str)
 |[], d => if d then [] else [(n, v)]
 |p :: r, d => (if Op.bytesLess p.1 n = false ∧ d = false then [(n, v)] else []) ++ (if p.1 ≠ n then [p] else []) ++ goWith n v r (d || !(Op.bytesLess p.1 n))
theorem goWith_true (n v : Str) : ∀ l, goWith n v l true = withoutA l n
 |[] => rfl
 |p :: r => by
  rw [goWith, if_neg (by simp), Bool.true_or, goWith_true n v r, List.nil_append]
  unfold withoutA
  rw [List.filter_cons]
  by_cases h : p.1 = n
  ·rw [if_neg (by simpa using h), if_neg (by simpa using h)]; rfl
  ·rw [if_pos h, if_pos (by simpa using h)]; rfl
theorem goWith_with (n v : Str) : ∀ {l : List (Str × Str)}, (l.Pairwise fun a b => cmpS a.1 b.1 < 0) → goWith n v l false = withA l n v
 |[], _ => rfl
 |p :: r, hp => by
  obtain ⟨h1, h2⟩ := List.pairwise_cons.1 hp
  rw [goWith]
  have hl := bytesLess_cmp p.1 n
  have hz := cmpS_zero p.1 n
  by_cases hlt : cmpS p.1 n < 0
  ·rw [decide_eq_true hlt] at hl
   have hne : p.1 ≠ n := fun e => by have := hz.2 e; omega
   rw [hl, if_neg (by simp), if_pos hne]
   rw [show (false || !true) = false from rfl, goWith_with n v h2]
   unfold withA lessA moreA
   rw [List.filter_cons, List.filter_cons, if_pos (decide_eq_true hlt), if_neg (by simp; omega)]; rfl
  ·rw [decide_eq_false hlt] at hl
   rw [hl, if_pos ⟨rfl, rfl⟩, show (false || !false) = true from rfl, goWith_true]
   have hgt : ∀ q ∈ r, 0 < cmpS q.1 n := fun q hq => by
    have h3 := h1 q hq
    have h4 := cmpS_anti p.1 n
    have h5 := cmpS_anti q.1 n
    by_cases he : cmpS p.1 n = 0
    ·rw [hz.1 he] at h3; omega
    ·have := cmpS_lt (a := n) (b := p.1) (c := q.1) (by omega) h3; omega
   have e1 : lessA r n = [] := List.filter_eq_nil_iff.2 fun q hq => by have := hgt q hq; simp; omega
   have e2 : moreA r n = r := List.filter_eq_self.2 fun q hq => decide_eq_true (hgt q hq)
   have e3 : withoutA r n = r := List.filter_eq_self.2 fun q hq => by
    have := hgt q hq
    have hqz := cmpS_zero q.1 n
    exact decide_eq_true fun e => by have := hqz.2 e; omega
   have e4 : lessA (p :: r) n = [] := by unfold lessA at e1 ⊢; rw [List.filter_cons, if_neg (by simpa using hlt)]; exact e1
   have e5 : moreA (p :: r) n = (if p.1 ≠ n then [p] else []) ++ r := by
    unfold moreA at e2 ⊢
    rw [List.filter_cons, e2]
    by_cases he : p.1 = n
    ·rw [if_neg (by have := hz.2 he; simp; omega), if_neg (by simpa using he)]; rfl
    ·rw [if_pos (decide_eq_true (by have : ¬ cmpS p.1 n = 0 := fun e => he (hz.1 e); omega)), if_pos he]; rfl
   rw [e3]
   unfold withA
   rw [e4, e5]; rfl
theorem nodWith {A : List Nat} {s : Sl} {l : List (Str × Str)} (h : Row A w s 2 (l.map ac)) (hl : l.length ≤ 1000) (n v : Str) :
  Calls Tryz.prog 86 #[s.v, .string (Bs n), .string (Bs v)] w (Ret fun u w' => Ext w w' ∧ ∃ r : Sl, u = r.v ∧ Own (List.range w.heap.size) w' r 2 63 ((goWith n v l false).map ac)) := by
 refine ref06_With.ok _ _ _ ?_
 unfold ref06_With.vc
 have hn : s.n = l.length := by simpa using h.len
 have hmo : maxLen = 9223372036854775807 := rfl
 have more : ∀ {w1 : World} {m : Sl} {us : List (Str × Str)} {q : Str × Str} {K : Value → World → Prop} {w2 : World} {B : Nat}, Own (List.range w.heap.size) w1 m 2 63 (us.map ac) → us.length ≤ 3000 → Ext w w1 → Ext w1 w2 → Box w2 B 63 (ac q) →
   (∀ r w3, Own (List.range w.heap.size) w3 r 2 63 ((us ++ [q]).map ac) → Ext w w3 → K (Sl.v r) w3) → RunK Tryz.prog (Builtin.append_ #[22, 22] 22 #[m.v, Sl.v (Sl.mk (some ⟨B, 0, none⟩) 1 1)]) w2 [] K := by
  intro w1 m us q K w2 B ho hus hE hE2 hbox k
  have hm := ho.len
  rw [List.length_map] at hm
  refine Own.runK0 (A := List.range w.heap.size) Tryz.underlying22 ti_63 rfl (by decide) (ho.ext hE2) (fun b hb => by have := List.mem_range.1 hb; have := (hE.trans hE2).size; omega) (Own.one (A := []) (cs := ac q) hbox (by simp)).row (ones_ac q) (by simp; omega) (by simp; omega) (by simp) fun r w3 ho3 hc3 _ => k r w3 ?_ (Chg.fresh (hE.trans hE2) hc3 ho.new)
  rw [List.map_append]; exact ho3
 refine ⟨fun m d i w' => ∃ (k : Nat) (us : List (Str × Str)), i = (k : Int) ∧ k ≤ l.length ∧ Own (List.range w.heap.size) w' m 2 63 (us.map ac) ∧ us.length ≤ 2 * k ∧ us ++ goWith n v (l.drop k) d = goWith n v l false ∧ Ext w w', fun _ _ i _ => l.length - i.toNat, ⟨0, [], rfl, by omega, Own.nil _ _ _ _, by simp, rfl, Chg.refl _ _⟩, ?_⟩
 rintro m d _ w1 ⟨k, us, rfl, hk, ho, hus, hgo, hE⟩
 rw [Int.toNat_natCast]
 refine ⟨fun hlt => ?_, fun hge => ?_⟩
 ·have hk' : k < l.length := by omega
  obtain ⟨p, hp, hc⟩ := (h.ext hE).attr hk'
  rw [drop_at l ([], []) hk', goWith] at hgo
  obtain ⟨q, hq⟩ : ∃ q, q = l.getD k ([], []) := ⟨_, rfl⟩
  rw [← hq] at hgo hc
  have hc0 : w1.cell? ((p.add (k * 2)).add 0) = some (.string (Bs q.1)) := hc 0 _ rfl
  refine ⟨⟨by omega, hlt⟩, p, hp, q.1, hc0, fun m' d' w' => ∃ us' : List (Str × Str), Own (List.range w.heap.size) w' m' 2 63 (us'.map ac) ∧ us'.length ≤ 2 * k + 1 ∧ us' = us ++ (if Op.bytesLess q.1 n = false ∧ d = false then [(n, v)] else []) ∧ d' = (d || !(Op.bytesLess q.1 n)) ∧ Ext w w', ⟨fun hb w2 B hN hE2 hbox => ?_, fun hb => ⟨us, ho, by omega, ?_, ?_, hE⟩⟩, ?_⟩
  ·refine more (q := (n, v)) ho (by omega) hE hE2 hbox fun r w3 ho3 hE3 => ⟨r, rfl, _, ho3, by simp; omega, by rw [if_pos hb], by rw [hb.1, hb.2]; rfl, hE3⟩
  ·rw [if_neg (by rintro ⟨h1, h2⟩; rcases hb with h | h; rw [h] at h1; cases h1; rw [h] at h2; cases h2), List.append_nil]
  ·rcases hb with h | h <;> rw [h] <;> simp
  rintro m' d' w2 ⟨us', ho', hus', hus2, rfl, hE2⟩
  obtain ⟨p2, hp2, hc2⟩ := (h.ext hE2).attr hk'
  rw [hp] at hp2; cases hp2
  rw [← hq] at hc2
  refine ⟨⟨by omega, hlt⟩, p, hp, q.1, hc2 0 _ rfl, fun hne => ⟨⟨by omega, hlt⟩, p, hp, q.1, q.2, hc2, fun w3 B hN hE3 hbox => more (q := q) ho' (by omega) hE2 hE3 hbox fun r w4 ho4 hE4 => ⟨r, rfl, ⟨by omega, by omega⟩, ⟨k + 1, us' ++ [q], by omega, by omega, ho4, by rw [List.length_append, List.length_singleton]; omega, ?_, hE4⟩, by dsimp only; omega⟩⟩, fun he => ⟨⟨by omega, by omega⟩, ⟨k + 1, us', by omega, by omega, ho', by omega, ?_, hE2⟩, by dsimp only; omega⟩⟩
  ·rw [hus2, ← hgo, if_pos hne]; simp only [List.append_assoc]
  ·rw [hus2, ← hgo, if_neg he]; simp only [List.append_assoc, List.nil_append]
 ·rw [List.drop_eq_nil_of_le (by omega : l.length ≤ k), goWith] at hgo
  refine ⟨fun hd w2 B hN hE2 hbox => more (q := (n, v)) ho (by omega) hE hE2 hbox fun r w3 ho3 hE3 => ⟨r, rfl, hE3, r, rfl, ?_⟩, fun hd => ⟨hE, m, rfl, ?_⟩⟩
  ·rw [hd, if_neg (by decide)] at hgo
   rw [← hgo]; exact ho3
  ·rw [hd, if_pos rfl, List.append_nil] at hgo
   rw [← hgo]; exact ho
theorem nodWithoutA {A : List Nat} {s : Sl} {l : List (Str × Str)} (h : Row A w s 2 (l.map ac)) (hl : l.length ≤ 1000) (n : Str) :
  Calls Tryz.prog 87 #[s.v, .string (Bs n)] w (Ret fun u w' => Ext w w' ∧ ∃ r : Sl, u = r.v ∧ Own (List.range w.heap.size) w' r 2 63 ((withoutA l n).map ac)) := by
 refine ref06_Without.ok _ _ ?_
 unfold ref06_Without.vc
 have hn : s.n = l.length := by simpa using h.len
 have hmo : maxLen = 9223372036854775807 := rfl
 refine ⟨fun m i w' => ∃ k : Nat, i = (k : Int) ∧ k ≤ l.length ∧ Own (List.range w.heap.size) w' m 2 63 ((withoutA (l.take k) n).map ac) ∧ Ext w w', fun _ i _ => l.length - i.toNat, ⟨0, rfl, by omega, Own.nil _ _ _ _, Chg.refl _ _⟩, ?_⟩
 rintro m _ w1 ⟨k, rfl, hk, ho, hE⟩
 rw [Int.toNat_natCast]
 refine ⟨fun hlt => ?_, fun hge => ⟨hE, m, rfl, ?_⟩⟩
 ·have hk' : k < l.length := by omega
  obtain ⟨p, hp, hc⟩ := (h.ext hE).attr hk'
  have hg : l.getD k ([], []) = l[k] := by rw [List.getD_eq_getElem?_getD, List.getElem?_eq_getElem hk']; rfl
  rw [hg] at hc
  have hfl : (withoutA (l.take k) n).length ≤ k := by
   have h1 := List.length_filter_le (fun p : Str × Str => decide (p.1 ≠ n)) (l.take k)
   rw [List.length_take] at h1
   unfold withoutA; omega
  have hmn := ho.len
  rw [List.length_map] at hmn
  refine ⟨⟨by omega, hlt⟩, p, hp, l[k].1, hc 0 _ rfl, fun hne => ⟨⟨by omega, hlt⟩, p, hp, l[k].1, l[k].2, hc, fun w2 B hN hE2 hbox => ?_⟩, fun he => ⟨⟨by omega, by omega⟩, ⟨k + 1, by omega, by omega, ?_, hE⟩, by dsimp only; omega⟩⟩
  ·refine Own.runK0 (A := List.range w.heap.size) Tryz.underlying22 ti_63 rfl (by decide) (ho.ext hE2) (fun b hb => by have := List.mem_range.1 hb; have := (hE.trans hE2).size; omega) (Own.one (A := []) (cs := ac l[k]) hbox (by simp)).row (ones_ac l[k]) (by simp; omega) (by simp; omega) (by simp) fun r2 w3 ho2 hc2 hb2 => ⟨r2, rfl, ⟨by omega, by omega⟩, ⟨k + 1, by omega, by omega, ?_, Chg.fresh (hE.trans hE2) hc2 ho.new⟩, by dsimp only; omega⟩
   unfold withoutA
   rw [List.take_succ_eq_append_getElem hk', List.filter_append, List.map_append]
   rw [show [l[k]].filter (fun p : Str × Str => decide (p.1 ≠ n)) = [l[k]] by rw [List.filter_cons, if_pos (decide_eq_true hne)]; rfl]
   exact ho2
  ·unfold withoutA
   rw [List.take_succ_eq_append_getElem hk', List.filter_append]
   rw [show [l[k]].filter (fun p : Str × Str => decide (p.1 ≠ n)) = [] by rw [List.filter_cons, if_neg (by simp; exact Classical.not_not.1 he)]; rfl, List.append_nil]
   exact ho
 ·rw [List.take_of_length_le (by omega)] at ho; exact ho
end
end
section
open Go.RowKit
theorem refBareA {A : List Nat} {w : World} {t : T} {sa sk : Sl} (h : RdT A w t sa sk) (hla : t.attrs.length ≤ 1099511627776) :
  Calls Tryz.prog 58 #[tv t sa sk] w (Ret fun v w' => Ext w w' ∧ ∃ s : Sl, v = .agg #[.int .i64 t.kind, .string (Bs t.name), .string (Bs t.text), s.v, Sl.nil.v] ∧ Own (List.range w.heap.size) w' s 2 63 (t.attrs.map ac)) := by
 refine ref06_Bare.ok _ _ _ _ _ ?_
 unfold ref06_Bare.vc
 intro w1 B1 B2 hN1 hN2 hne hE1
 have hl := h.nattrs
 have h2 := hN2.ge
 cases hx : t.attrs with
 |nil =>
  have e := append_none (P := Tryz.prog) (w := w1) (s := Sl.nil) (x := sa) (t := 22) (ty := 22) Tryz.underlying22 ti_63 (Nat.le_refl _) (by rw [hl, hx]; rfl)
  refine ⟨_, _, e, fun b hb _ => rfl, Nat.le_refl _, Sl.nil, rfl, fun w2 hE2 w3 hC3 => ⟨Chg.fresh (hE1.trans hE2) hC3 (by simpa using h2), Sl.nil, rfl, Own.nil _ _ _ _⟩⟩
 |cons x r =>
  rw [← hx]
  refine App.runK (A := B1 :: B2 :: List.range w.heap.size) Tryz.underlying22 ti_63 rfl (by decide) (.inl (Own.nil _ _ _ _)) (fun b hb => ?_) ((h.ext hE1).attrs.less (by simp)) (ones_acs t.attrs) (by rw [hx]; simp) (by simp [maxLen]; omega) (by simp; omega) (by simp) fun s' w' ho hc hb => ⟨s', rfl, fun w2 hE2 w3 hC3 => ⟨?_, s', rfl, ?_⟩⟩
  ·have h3 := hN1.lt; have h4 := hN2.lt; have h5 := hE1.size
   simp only [List.mem_cons, List.mem_range] at hb
   rcases hb with rfl | rfl | hb <;> omega
  ·exact Chg.fresh ((hE1.trans (hc.mono (by simp [Sl.own]))).trans hE2) hC3 (by simpa using h2)
  ·exact ((ho.ext hE2).chg hC3 (by simp)).less fun b hb => by simp at hb ⊢; omega
def rc (e : En) (a sa sk : Sl) (z h : Nat) : List Value := [.int .i64 e.par, .int .i64 (z : Int), .int .i64 (e.dep : Int), .int .i64 (h : Int), .int .i64 (e.pl : Int), .int .i64 e.t.kind, .string (Bs e.t.name), .string (Bs e.t.text), a.v, Sl.nil.v, .int .i64 e.t.kind, .string (Bs e.t.name), .string (Bs e.t.text), sa.v, sk.v]
def RIok (Q : T → Sl → Sl → Prop) (w : World) (e : En) (z h : Nat) (u : List Value) : Prop := ∃ a sa sk : Sl, u = rc e a sa sk z h ∧ Own [] w a 2 63 (e.t.attrs.map ac) ∧ Q e.t sa sk
def RIs (Q : T → Sl → Sl → Prop) (w : World) (es : List En) (rows : List (List Value)) : Prop := rows.length = es.length ∧ ∀ (i : Nat) (e : En) (u : List Value), es[i]? = some e → rows[i]? = some u → RIok Q w e e.t.size e.t.depth u
theorem RIok.ext {Q : T → Sl → Sl → Prop} {w w' : World} {e : En} {z h : Nat} {u : List Value} (k : RIok Q w e z h u) (c : Ext w w') : RIok Q w' e z h u := by
 obtain ⟨a, sa, sk, h1, h2, h3⟩ := k
 exact ⟨a, sa, sk, h1, h2.ext c, h3⟩
theorem RIs.ext {Q : T → Sl → Sl → Prop} {w w' : World} {es : List En} {rows : List (List Value)} (k : RIs Q w es rows) (c : Ext w w') : RIs Q w' es rows := ⟨k.1, fun i e u he hu => (k.2 i e u he hu).ext c⟩
end
section
open Go.RowKit
section
variable {A : List Nat} {D : Nat} {R : I}
theorem nodSub : ∀ (s : I) {w : World}, Nod A w D R → ∀ (p : Int) (d : Nat), (s, p, d) ∈ R.all (-1) 1 → Calls Tryz.prog 26 #[.pointer (some ⟨D, 0, none⟩), .int .i64 s.id] w (Ret fun v w' => Ext w w' ∧ ∃ sa sk : Sl, v = tv s.toT sa sk ∧ RdT (List.range w.heap.size) w' s.toT sa sk) := I.ind' fun s ih w h p d hs => by
 have hR := h.okay
 have h0 := h
 obtain ⟨l, X, h1, h2, h3⟩ := h
 refine ref06_D_Tree.ok _ _ ?_
 unfold ref06_D_Tree.vc
 intro w1 B1 hN1 hE1
 have hb1 := hN1.ge
 refine CallK.ext (nodN (h1.ext hE1) s.id) ?_
 rintro v w2 hE2 ⟨r, rfl, hr⟩
 rcases hr.find h2 h3 with ⟨hf, _⟩ | ⟨i, x, g, e, hi, hx, hg, rfl, hf, hxr⟩
 ·rw [I.find_of hR.nodup hs] at hf; cases hf
 rw [I.find_of hR.nodup hs] at hf
 cases hf
 have hE02 := hE1.trans hE2
 obtain ⟨g', hg', hgb, hc⟩ := (h1.ext hE02).at hi
 rw [hg] at hg'; cases hg'
 have hx' := List.mem_of_getElem? hi
 have hfit := h1.fit x hx'
 refine ⟨_, rfl, _, rfl, x.r.kind, x.r.name, x.r.text, x.sa, Sl.nil, ?_, ?_⟩
 ·intro j v hv
  rw [Addr.add_add]
  refine hc (2 + j) v ?_
  have e : ndc x = [.int .i64 x.r.id, .int .i64 x.r.par] ++ ([.int .i64 x.r.kind, .string (Bs x.r.name), .string (Bs x.r.text), x.sa.v, Sl.nil.v] ++ [x.sk.v]) := rfl
  rw [e, List.getElem?_append_right (by simp), List.length_cons, List.length_singleton, show 2 + j - (1 + 1) = j by omega, List.getElem?_append_left (List.getElem?_eq_some_iff.1 hv).1]
  exact hv
 have hrd : RdT A w2 (.node x.r.kind x.r.name x.r.text x.r.attrs []) x.sa Sl.nil := .mk [] ((h1.ext hE02).sa x hx').row rfl (Row.nil _ _ _) (by simp)
 have hla : (T.node x.r.kind x.r.name x.r.text x.r.attrs []).attrs.length ≤ 1099511627776 := by
  rw [show (T.node x.r.kind x.r.name x.r.text x.r.attrs []).attrs = x.r.attrs from rfl]; have := hfit.1; omega
 have hbare := refBareA hrd hla
 simp only [tv, T.kind, T.name, T.text, T.attrs] at hbare
 refine CallK.ext hbare ?_
 rintro v w3 hE3 ⟨sa', rfl, hsa⟩
 refine ⟨_, _, _, sa', Sl.nil, rfl, fun w4 B4 hN4 hE4 => ?_⟩
 have hb4 := hN4.ge
 have hE03 := hE02.trans hE3
 have hE04 := hE03.trans hE4
 have hs12 := hE2.size
 have hs23 := hE3.size
 have hs34 := hE4.size
 let Q : List Nat := B4 :: List.range w2.heap.size
 have hB1Q : B1 ∈ Q := List.mem_cons_of_mem _ (List.mem_range.2 (by have := hN1.lt; omega))
 have hQ4 : ∀ b ∈ Q, b < w4.heap.size := fun b hb => by
  rcases List.mem_cons.1 hb with rfl | hb
  ·exact hN4.lt
  ·have := List.mem_range.1 hb; omega
 have hsa4 : Own Q w4 sa' 2 63 (s.attrs.map ac) := by
  have e1 : x.r.attrs = s.attrs := by rw [hxr]; rfl
  rw [← e1]
  exact (hsa.ext hE4).cons fun hm => by have := (hsa.blk _ hm).2; omega
 have hkr : x.r.kids = s.kids.map I.id := by rw [hxr]; rfl
 have hkf := kids_few hR hs
 simp only at hkf
 have hkn : x.sk.n = s.kids.length := by have := (h1.sk x hx').len; rw [hkr] at this; simpa using this
 have at7 : ∀ w', Ext w w' → w'.cell? ((⟨g, i * 8, none⟩ : Addr).add 7) = some x.sk.v := fun w' hE' => by
  obtain ⟨g', hg', _, hc'⟩ := (h1.ext hE').at hi
  rw [hg] at hg'; cases hg'; exact hc' 7 _ rfl
 refine ⟨fun j c w' => ∃ k : Nat, j = (k : Int) ∧ k ≤ s.kids.length ∧ Nur Q w' c ((s.kids.take k).map I.toT) ∧ Own Q w' sa' 2 63 (s.attrs.map ac) ∧ (∀ b ∈ c.blk, b ∉ sa'.blk) ∧ w4.heap.size ≤ w'.heap.size ∧ Ext w w', fun j _ _ => s.kids.length - j.toNat, ⟨0, rfl, by omega, Nur.nil _ _, hsa4, by simp [Sl.blk], Nat.le_refl _, hE04⟩, ?_⟩
 rintro _ c w6 ⟨k, rfl, hk, hNur, hA6, hdis, hsz, hE6⟩
 rw [Int.toNat_natCast]
 refine ⟨_, rfl, x.sk, at7 w6 hE6, fun hlt w7 hE7 => ?_, fun hge w7 hC7 => ?_⟩
 ·have hk' : k < s.kids.length := by omega
  have hum : s.kids[k] ∈ s.kids := List.getElem_mem hk'
  have hgd : (s.kids.map I.id).getD k 0 = s.kids[k].id := by simp [List.getD_eq_getElem?_getD, hk']
  have hE07 := hE6.trans hE7
  have hk7 := (h1.ext hE07).sk x hx'
  rw [hkr] at hk7
  obtain ⟨q, hq, hcq⟩ := hk7.row.int (k := k) (by simpa using hk')
  rw [hgd] at hcq
  refine ⟨_, rfl, x.sk, at7 w7 hE07, q, ⟨⟨by omega, hlt⟩, hq⟩, _, hcq, fun kd n t a b w' => kd = s.kids[k].toT.kind ∧ n = s.kids[k].toT.name ∧ t = s.kids[k].toT.text ∧ RdT (List.range w7.heap.size) w' s.kids[k].toT a b, fun _ _ _ _ _ w' w'' hE hv => ⟨hv.1, hv.2.1, hv.2.2.1, hv.2.2.2.ext hE⟩, fun w' hE => ?_, ?_⟩
  ·refine Ret.mono (ih _ hum (h0.ext (hE07.trans hE)) s.id (d + 1) (I.all_kid hs hum)) ?_
   rintro v w'' ⟨h1, a, b, rfl, h2⟩
   exact ⟨h1, _, _, _, a, b, rfl, rfl, rfl, rfl, h2.less fun b hb => List.mem_range.2 (Nat.lt_of_lt_of_le (List.mem_range.1 hb) hE.size)⟩
  rintro w8 _ _ _ a b B8 hE8 ⟨rfl, rfl, rfl, hV⟩ hB8 hbox8 _
  have hE68 : Ext w6 w8 := hE7.trans hE8
  have hQ8 : ∀ b ∈ Q, b < w8.heap.size := fun b hb => by
   have := hQ4 b hb; have := hE68.size; omega
  refine (hNur.ext hE68).push hQ8 hbox8 ?_ (by simp; omega) ?_ fun s' w9 hN hC hbl => ⟨s', rfl, ⟨by omega, by omega⟩, fun w10 hC10 => ⟨⟨k + 1, by omega, by omega, ?_, ?_, ?_, ?_, ?_⟩, by dsimp only; omega⟩⟩
  ·refine hV.less fun y hy => List.mem_range.2 ?_
   have := hE7.size
   rcases List.mem_append.1 hy with hy | hy
   ·have := (hNur.own.2.2.2 y hy).2; omega
   ·have := hQ4 y hy; omega
  ·intro b hb
   simp only [List.mem_cons, List.not_mem_nil, or_false] at hb
   rcases hb with rfl | rfl
   ·exact hB1Q
   ·exact List.mem_cons_self ..
  ·have hF : ∀ b ∈ [B4], b ∈ Q := by simp only [List.mem_singleton]; rintro b rfl; exact List.mem_cons_self ..
   rw [takeI hk', List.map_append]; exact hN.chg hC10 hF
  ·have hF : ∀ b ∈ [B4], b ∈ Q := by simp only [List.mem_singleton]; rintro b rfl; exact List.mem_cons_self ..
   have := (hA6.ext hE68)
   have h2 : Own (c.own ++ Q) w8 sa' 2 63 (s.attrs.map ac) := this.avoid fun b hb hm => by
    rcases List.mem_append.1 hm with hm | hm
    ·exact hdis b (Sl.own_blk hm) hb
    ·exact (this.blk b hb).1 hm
   exact (Own.less (A' := Q) (h2.chg hC (fun b hb => List.mem_append_left _ hb)) (fun b hb => List.mem_append_right _ hb)).chg hC10 hF
  ·intro b hb hm
   rcases hbl b hb with h | h
   ·exact hdis b (Sl.own_blk h) hm
   ·have := (hA6.blk b hm).2
    have := hE68.size; omega
  ·have h1 := hE68.size; have h2 := hC.size; have h3 := hC10.size; omega
  ·refine Chg.fresh (Chg.fresh (hE6.trans hE68) hC fun y hy => ?_) hC10 (by simp only [List.mem_singleton]; rintro b rfl; have := hE02.size; omega)
   have := (hNur.own.2.2.2 y (Sl.own_blk hy)).1
   have h2 := hE02.size
   simp [Q] at this; omega
 ·have hkl : k = s.kids.length := by omega
  subst hkl
  rw [List.take_length] at hNur
  have hF : ∀ b ∈ [B1], b ∈ Q := by simp only [List.mem_singleton]; rintro b rfl; exact hB1Q
  have hrd := (hNur.chg hC7 hF).rd (k := s.kind) (n := s.name) (x := s.text) (hA6.chg hC7 hF).row
  refine ⟨Chg.fresh hE6 hC7 (by simp only [List.mem_singleton]; rintro b rfl; omega), sa', c, ?_, ?_⟩
  ·rw [I.toT_eq, hxr]; rfl
  ·rw [I.toT_eq]
   exact hrd.less fun b hb => List.mem_cons_of_mem _ (List.mem_range.2 (Nat.lt_of_lt_of_le (List.mem_range.1 hb) hE02.size))
theorem nodTree {w : World} (h : Nod A w D R) : Calls Tryz.prog 26 #[.pointer (some ⟨D, 0, none⟩), .int .i64 0] w (Ret fun v w' => Ext w w' ∧ ∃ sa sk : Sl, v = tv R.toT sa sk ∧ RdT (List.range w.heap.size) w' R.toT sa sk) := by
 have hs := nodSub R h (-1) 1 (I.all_self R (-1) 1)
 rw [h.okay.root] at hs
 exact hs
end
end
section
open Go.RowKit
section
variable {A bx : List Nat} {w w1 : World} {D : Nat} {l : Sl} {X : List Nd}
theorem Nodes.moreK (h : Nodes A w D l X) (hA : ∀ b ∈ A, b < w.heap.size) (hbx : ∀ b ∈ bx, b ∈ A) {x : Nd} (hid : ∀ y ∈ X, y.r.id ≠ x.r.id) (hE : Ext w w1) {B : Nat} (hbox : Box w1 B 80 (ndc x)) (hsa : Own (List.range w.heap.size) w1 x.sa 2 63 (x.r.attrs.map ac))
  (hsk : x.sk = Sl.nil) (hk : x.r.kids = []) (hat : x.r.attrs.length ≤ 1000000) (hX : X.length + 1 ≤ 1000000) {ty : TypeId} {K : Value → World → Prop}
  (k : ∀ l' w2, Ext w w2 ∨ w.heap.size ≤ w2.heap.size → Box w2 D 74 [l.v] → (∀ w3, Ext w2 w3 → ∀ w4, Chg [D] w3 w4 → Box w4 D 74 [l'.v] → Nodes A w4 D l' (X ++ [x]) ∧ Mod A w w4) → K l'.v w2) :
  RunK Tryz.prog (Builtin.append_ #[72, 72] ty #[l.v, Sl.v (Sl.mk (some ⟨B, 0, none⟩) 1 1)]) w1 bx K := by
 have hn := h.len
 have h1 := h.ext hE
 have hsz := hE.size
 have hone : Own [] w1 (Sl.mk (some ⟨B, 0, none⟩) 1 1) 8 80 [ndc x] := Own.one (A := []) (cs := ndc x) hbox (by simp)
 refine App.runK (A := A) Tryz.underlying72 ti_80 rfl (by decide) (.inl h1.row) (fun b hb => by have := hA b hb; omega) hone.row (ones_ndc x) (by simp) (by simp only [maxLen, List.length_singleton]; omega) (by simp only [List.length_singleton]; omega) hbx fun l' w2 hrow2 hC2 hbl2 => k l' w2 (.inr (by have := hC2.size; omega)) ?_ fun w3 hE3 w4 hC4 hB4 => ?_
 ·exact h1.box.keep hC2 fun hm => (h1.row.other h1.box (by decide)) (Sl.own_blk hm)
 have hbox2 : Box w2 D 74 [l.v] := h1.box.keep hC2 fun hm => (h1.row.other h1.box (by decide)) (Sl.own_blk hm)
 have hbox3 := hbox2.ext hE3
 have hmod : Mod A w w4 := by
  have m2 : Mod A w1 w2 := Mod.of hC2 fun b hb => (h1.row.blk b (Sl.own_blk hb)).1
  have m4 : Mod A w3 w4 := Mod.of hC4 (by simpa using h.dA)
  exact (((Mod.ext hE).trans m2).trans (Mod.ext hE3)).trans m4
 have kp : ∀ {A0 : List Nat} {s : Sl} {size : Nat} {T : TypeId} {vs : List (List Value)}, T ≠ 74 → T ≠ 80 → Own A0 w1 s size T vs → Own A0 w4 s size T vs := fun {A0 s size T vs} t1 t2 ho => by
  have a1 := ho.keep hC2 fun b hb hm => (ho.apart h1.row t2) b hb (Sl.own_blk hm)
  have a2 := a1.ext hE3
  exact a2.keep hC4 fun b hb hm => (a2.other hbox3 t1) (by simp only [List.mem_singleton] at hm; exact hm ▸ hb)
 have hrow4 : Own A w4 l' 8 80 ((X ++ [x]).map ndc) := by
  have a1 := hrow2.ext hE3
  have a2 := a1.keep hC4 fun b hb hm => (a1.other hbox3 (by decide)) (by simp only [List.mem_singleton] at hm; exact hm ▸ hb)
  rw [List.map_append]; exact a2
 have hs4 := kp (by decide) (by decide) hsa
 refine ⟨h.push x hid hB4 hrow4 hmod (fun y hy => ⟨kp (by decide) (by decide) (h1.sa y hy), kp (by decide) (by decide) (h1.sk y hy)⟩) (hs4.less fun b hb => List.mem_range.2 (hA b hb)) (by rw [hsk, hk]; exact Own.nil _ _ _ _) (fun b hb => ?_) (by rw [hsk]; simp [Sl.blk, Sl.nil]) ⟨hat, by rw [hk]; simp⟩ hX, hmod⟩
 have := (hsa.blk b hb).1
 simpa using this
def BareV (t : T) (w : World) (kd : Int) (n x : Str) (a k : Sl) (w' : World) : Prop := kd = t.kind ∧ n = t.name ∧ x = t.text ∧ k = Sl.nil ∧ Own (List.range w.heap.size) w' a 2 63 (t.attrs.map ac)
theorem BareV.ext {t : T} {w w' w'' : World} {kd : Int} {n x : Str} {a k : Sl} (h : BareV t w kd n x a k w') (hE : Ext w' w'') : BareV t w kd n x a k w'' := ⟨h.1, h.2.1, h.2.2.1, h.2.2.2.1, h.2.2.2.2.ext hE⟩
theorem bareV {B : List Nat} {t : T} {w w' : World} {sa sk : Sl} (h : RdT B w t sa sk) (hb : t.attrs.length ≤ 1099511627776) (hE : Ext w w') : Calls Tryz.prog 58 #[tv t sa sk] w' (Ret fun v w'' => Ext w' w'' ∧ ∃ kd : Int, ∃ n : Str, ∃ x : Str, ∃ a : Sl, ∃ k : Sl, v = .agg #[.int .i64 kd, .string (Bs n), .string (Bs x), Sl.v a, Sl.v k] ∧ BareV t w kd n x a k w'') :=
 Ret.mono (refBareA (h.ext hE) hb) fun v w'' ⟨h1, s, hv, ho⟩ => ⟨h1, _, _, _, s, Sl.nil, hv, rfl, rfl, rfl, rfl, ho.less fun b hb => List.mem_range.2 (by have := List.mem_range.1 hb; have := hE.size; omega)⟩
end
theorem nodAdd {D : Nat} : ∀ (t : T), t.span ≤ 900000 → ∀ {A : List Nat} {w : World} {l : Sl} {X : List Nd} {sa sk : Sl} (par : Int), Nodes A w D l X → (∀ b ∈ A, b < w.heap.size) → Safe A w t sa sk → (∀ y ∈ X, y.r.id < X.length) → X.length + t.size ≤ 300 →
  Calls Tryz.prog 50 #[.pointer (some ⟨D, 0, none⟩), tv t sa sk, .int .i64 par] w (Ret fun v w' => Mod A w w' ∧ v = .int .i64 (X.length : Int) ∧ ∃ l' Y, Nodes A w' D l' (X ++ Y) ∧ Y.map Nd.r = (I.num t X.length).recs par) := T.ind' fun t ih hb A w l X sa sk par h hA hS hids hsz => by
 refine ref06_D_add.ok _ _ _ _ _ _ _ ?_
 unfold ref06_D_add.vc
 intro w1 B1 hN1 hE1
 have hb1 := hN1.ge
 have hn := h.len
 have hat : t.attrs.length ≤ 1000000 := by have := T.attrs_span t; omega
 have hkl := T.kids_span t
 have hts := T.size_eq t
 have hnk := hS.nkids
 have hA1 : ∀ b ∈ B1 :: A, b < w1.heap.size := fun b hb => by
  rcases List.mem_cons.1 hb with rfl | hb
  ·exact hN1.lt
  ·have := hA b hb; have := hE1.size; omega
 have h1 : Nodes (B1 :: A) w1 D l X := (h.wide (A' := B1 :: A) fun b hb => by
  rcases List.mem_cons.1 hb with rfl | hb
  ·exact .inr hb1
  ·exact .inl hb).ext hE1
 have hS1 : Safe (B1 :: A) w1 t sa sk := (hS.mod (Mod.ext hE1)).more fun x hx => List.mem_cons_of_mem _ hx
 refine ⟨l, h1.cell, fun w2 hE2 => ?_⟩
 have h2 := h1.ext hE2
 have hS2 : Safe (B1 :: A) w2 t sa sk := hS1.mod (Mod.ext hE2)
 have hA2 : ∀ b ∈ B1 :: A, b < w2.heap.size := fun b hb => by have := hA1 b hb; have := hE2.size; omega
 refine ⟨l, h2.cell, BareV t w2, fun _ _ _ _ _ w' w'' hE hv => hv.ext hE, fun w' hE => bareV hS2 (Nat.le_trans hat (by decide)) hE, ?_⟩
 rintro w3 kd nm tx a kk B3 hE3 ⟨rfl, rfl, rfl, rfl, ho⟩ hB3 hbox3 _
 let x0 : Nd := ⟨⟨(l.n : Int), par, t.kind, t.name, t.text, t.attrs, []⟩, a, Sl.nil⟩
 refine h2.moreK (x := x0) hA2 (by simp) (fun y hy => by have := hids y hy; show y.r.id ≠ (l.n : Int); omega) hE3 hbox3 ho rfl rfl hat (by omega) fun l2 w4 _ hbox4 hk4 => ⟨l2, rfl, by rw [Addr.add_zero']; exact hbox4.cell 0 _ rfl, fun w5 hE5 w6 hE6 => ⟨D, 0, 74, [l.v], Addr.add_zero' _, (hbox4.ext hE5).ext hE6, by simp, fun b hb => ?_, fun w7 hC7 hB7 => ?_⟩⟩
 ·have := h2.dA; simp at hb; subst hb; intro e; exact this (by simp [e])
 obtain ⟨h7, hM7⟩ := hk4 w6 (hE5.trans hE6) w7 hC7 hB7
 have hM17 : Mod (B1 :: A) w1 w7 := (Mod.ext hE2).trans hM7
 refine ⟨fun j w' => ∃ (k : Nat) (l' : Sl) (x : Nd) (Y : List Nd), j = (k : Int) ∧ k ≤ t.kids.length ∧ Nodes (B1 :: A) w' D l' (X ++ x :: Y) ∧ x.r = ⟨(X.length : Int), par, t.kind, t.name, t.text, t.attrs, (I.numL (t.kids.take k) (X.length + 1)).map I.id⟩ ∧ Y.map Nd.r = (I.numL (t.kids.take k) (X.length + 1)).flatMap (fun u => u.recs (X.length : Int)) ∧ Mod (B1 :: A) w1 w', fun j _ => t.kids.length - j.toNat,
  ⟨0, l2, x0, [], rfl, by omega, h7, by simp only [x0]; rw [hn]; simp [I.numL], by simp [I.numL], hM17⟩, ?_⟩
 rintro _ w8 ⟨k, l3, x, Y, rfl, hk, h3, hx, hY, hM3⟩
 have hsz3 := hM3.size
 have hYl : Y.length = ((t.kids.take k).map T.size).sum := by rw [← List.length_map (f := Nd.r), hY, numL_len]
 have hsum : ((t.kids.take k).map T.size).sum ≤ (t.kids.map T.size).sum := sum_take_le T.size _ _
 have hidx : ∀ z ∈ X ++ x :: Y, z.r.id < ((X ++ x :: Y).length : Int) := fun z hz => by
  rw [List.length_append, List.length_cons]
  rcases List.mem_append.1 hz with hz | hz
  ·have := hids z hz; omega
  ·rcases List.mem_cons.1 hz with rfl | hz
   ·rw [hx]; simp only; omega
   ·have hm : z.r.id ∈ (Y.map Nd.r).map Rec.id := List.mem_map_of_mem (List.mem_map_of_mem hz)
    rw [hY, I.map_flatMap_congr (fun v _ => I.recs_id v _), I.numL_ids _ (fun u _ => I.num_ids u)] at hm
    obtain ⟨q, hq, e⟩ := List.mem_map.1 hm
    have := List.mem_range'_1.1 hq
    omega
 refine ⟨fun hlt => ?_, fun hge => ⟨?_, by rw [hn], l3, x :: Y, h3.wide (fun b hb => .inl (List.mem_cons_of_mem _ hb)), ?_⟩⟩
 ·have hk' : k < t.kids.length := by omega
  have hS3 : Safe (B1 :: A) w8 t sa sk := hS1.mod hM3
  obtain ⟨p, sau, sku, hp, _, hc, hru⟩ := hS3.kid hk'
  rw [Int.toNat_natCast]
  have hm := getD_mem (d := T.nul) hk'
  have hsk := sum_take T.size hk'
  have hs2 : ((t.kids.take (k + 1)).map T.size).sum ≤ (t.kids.map T.size).sum := sum_take_le T.size _ _
  have hA3 : ∀ b ∈ B1 :: A, b < w8.heap.size := fun b hb => by have := hA1 b hb; omega
  refine ⟨⟨by omega, hlt⟩, p, hp, _, _, _, sau, sku, hc, ?_⟩
  have hcall := ih _ hm (by have := T.kid_span hm; omega) (X.length : Int) h3 hA3 hru hidx (by rw [List.length_append, List.length_cons]; omega)
  rw [hn]
  refine CallK.mod hcall (by simp) ?_
  rintro v w9 hM9 ⟨rfl, l5, Y5, h5, hY5⟩
  have hlen : (X ++ x :: Y).length = X.length + 1 + ((t.kids.take k).map T.size).sum := by rw [List.length_append, List.length_cons, hYl]; omega
  refine ⟨_, rfl, fun w10 hE10 => ?_⟩
  have h6 := h5.ext hE10
  have hX6 : (X ++ x :: Y ++ Y5)[X.length]? = some x := by simp
  obtain ⟨g, hg, hgb, hcx⟩ := h6.at hX6
  have hxm := List.mem_of_getElem? hX6
  have hn5 := h6.len
  rw [List.length_append, hlen] at hn5
  have hk6 := h6.sk x hxm
  have hxk : x.r.kids.length ≤ 300 := by
   rw [hx]; simp only [List.length_map]
   have hnl : ∀ (ks : List T) (i : Nat), (I.numL ks i).length = ks.length := fun ks => by
    induction ks with
    |nil => intro i; rw [I.numL]; rfl
    |cons a r ih => intro i; rw [I.numL, List.length_cons, ih]; rfl
   rw [hnl, List.length_take]; have := len_sizes t.kids; omega
  have hkn := hk6.len
  rw [List.length_map] at hkn
  refine ⟨l5, h6.cell, l5, h6.cell, ⟨g, 0, none⟩, ⟨⟨by omega, by omega⟩, hg⟩, x.sk, ?_, fun w11 B11 hE11 hB11 hbox11 _ => ?_⟩
  ·rw [Int.toNat_natCast, Addr.add_lit, Nat.zero_add]; exact hcx 7 _ rfl
  have h7 := h6.ext hE11
  have hk7 := h7.sk x hxm
  have hbox11' : Box w11 B11 3 (ic (((X ++ x :: Y).length : Nat) : Int)) := hbox11
  refine App.runK Tryz.underlying78 ti_3 rfl (by decide) (.inl hk7) (fun b hb => by have := hA3 b hb; have := hM9.size; have := hE10.size; have := hE11.size; omega) (Own.one (A := []) hbox11' (by simp)).row (ones_ics [_]) (by simp) (by simp only [maxLen, List.length_singleton]; omega) (by simp only [List.length_singleton]; omega) (by simp) fun r w12 ho12 hC12 hbl12 => ⟨r, rfl, ?_⟩
  have honly := fun b (hb : b ∈ x.sk.own) => h7.only hX6 (b := b) (.inr (Sl.own_blk hb))
  have hD12 : Box w12 D 74 [l5.v] := h7.box.keep hC12 fun hm => (honly D hm).2.1 rfl
  obtain ⟨cur, hcur, hcurl⟩ : ∃ cur, Box w11 g 80 cur ∧ cur.length = l5.c * 8 := by
   rcases h7.row.at_ with e | ⟨g', cur, e1, _, e3, e4, _⟩
   ·rw [e] at hg; cases hg
   ·rw [hg] at e1; cases e1; exact ⟨cur, e3, e4⟩
  have hcur12 : Box w12 g 80 cur := hcur.keep hC12 fun hm => (honly g hm).2.2.1 (by rw [hgb]; simp)
  have hcx11 : Cells w11 ⟨g, X.length * 8, none⟩ (ndc x) := hcx.ext hE11
  have hcx12 : Cells w12 ⟨g, X.length * 8, none⟩ (ndc x) := hcx11.chg hC12 fun hm => (honly g hm).2.2.1 (by rw [hgb]; simp)
  refine ⟨by rw [Addr.add_zero']; exact hD12.cell 0 _ rfl, by rw [Addr.add_zero']; exact hD12.cell 0 _ rfl, by rw [Int.toNat_natCast, Addr.add_lit, Nat.zero_add]; exact hcx12 7 _ rfl, fun w13 hE13 => ⟨⟨g, 0, none⟩, ⟨⟨by omega, by omega⟩, hg⟩, fun w14 hE14 => ?_⟩⟩
  have hE124 := hE13.trans hE14
  have hcap := h7.row.cap
  have hroom : X.length * 8 + 7 + 1 ≤ cur.length := by rw [hcurl]; omega
  refine ⟨g, X.length * 8 + 7, 80, cur, by rw [Int.toNat_natCast, Addr.add_lit, Addr.add_lit, Nat.zero_add], hcur12.ext hE124, hroom, fun b hb => ?_, fun w15 hC15 hB15 => ⟨⟨by omega, by omega⟩, ?_, by dsimp only; omega⟩⟩
  ·simp at hb; subst hb; intro e
   exact (h7.row.blk g (by rw [hgb]; simp)).1 (by simp [e])
  let x' : Nd := ⟨{ x.r with kids := x.r.kids ++ [((X ++ x :: Y).length : Int)] }, x.sa, r⟩
  have hsa12 : Own (B1 :: A) w14 x'.sa 2 63 (x'.r.attrs.map ac) := ((h7.sa x hxm).keep hC12 fun b hb hm => ((h7.sa x hxm).apart hk7 (by decide)) b hb (Sl.own_blk hm)).ext hE124
  have hsk12 : Own (B1 :: A) w14 x'.sk 1 3 (x'.r.kids.map ic) := by
   show Own _ _ _ _ _ ((x.r.kids ++ [((X ++ x :: Y).length : Int)]).map ic)
   rw [List.map_append]
   exact ho12.ext hE124
  obtain ⟨hup, hupC⟩ := h7.upd hX6 x' rfl (hC12.trans (hE124.mono (by simp))) (fun b hb => .inr (.inl (Sl.own_blk hb))) hsa12 hsk12 (fun b hb => .inl hb) (fun b hb => (hbl12 b hb).imp Sl.own_blk id) ⟨(h7.fit x hxm).1, by simp only [x', List.length_append, List.length_singleton]; omega⟩ hg (hcur12.ext hE124) hC15 hB15 (by simp) rfl
  have hset : (X ++ x :: Y ++ Y5).set X.length x' = X ++ x' :: (Y ++ Y5) := by simp
  rw [hset] at hup
  refine ⟨k + 1, l5, x', Y ++ Y5, by omega, by omega, hup, ?_, ?_, ?_⟩
  ·show ({ x.r with kids := _ } : Rec) = _
   rw [hx, numL_snoc hk', List.map_append, hlen]
   simp only [List.map_cons, List.map_nil, I.num_id]
  ·rw [List.map_append, hY, hY5, numL_snoc hk', List.flatMap_append, hlen]
   simp
  ·have m2 : Mod (B1 :: A) w11 w15 := Mod.of hupC fun b hb => by
    rcases List.mem_cons.1 hb with rfl | hb
    ·exact (h7.row.blk b (by rw [hgb]; simp)).1
    ·exact (honly b hb).1
   exact ((hM3.trans hM9).trans (Mod.ext (hE10.trans hE11))).trans m2
 ·exact (Mod.ext hE1).trans (hM3.less fun b hb => List.mem_cons_of_mem _ hb)
 ·have hkl' : k = t.kids.length := by omega
  subst hkl'
  rw [List.take_length] at hx hY
  rw [List.map_cons, hY, I.recs_eq, hx, I.num_eq]
  rfl
theorem nodNew {X0 : List Nat} {w : World} {t : T} {sa sk : Sl} (hr : RdT X0 w t sa sk) (hb : t.bulk ≤ 900000000) (hb2 : t.check = true → t.span ≤ 900000) :
  Calls Tryz.prog 24 #[tv t sa sk] w (Ret fun v w' => Ext w w' ∧ ((t.check = false ∧ v = .pointer none) ∨ (t.check = true ∧ ∃ D, v = .pointer (some ⟨D, 0, none⟩) ∧ Nod (List.range w.heap.size) w' D (I.num t 0)))) := by
 refine ref06_New.ok _ _ _ _ _ ?_
 unfold ref06_New.vc
 intro w1 B1 hN1 hE1
 have hb1 := hN1.ge
 refine CallK.exact (refCheck t (by omega) (hr.ext hE1)) fun w2 hE2 => ⟨_, rfl, fun hf => ⟨hE1.trans hE2, .inl ⟨hf, rfl⟩⟩, fun ht w4 D hN4 hE4 hbox => ?_⟩
 have hE14 := hE2.trans hE4
 have hE04 := hE1.trans hE14
 have hD := hN4.ge
 have hsz12 := hE2.size
 have hA0 : ∀ b ∈ List.range w1.heap.size, b < w4.heap.size := fun b hb => by have := List.mem_range.1 hb; have := hE14.size; omega
 have hAr : Nodes (List.range w1.heap.size) w4 D Sl.nil [] := by
  refine ⟨hbox, fun hm => ?_, Own.nil _ _ _ _, by simp, by simp, by simp, by simp, by simp, by simp⟩
  have := List.mem_range.1 hm; omega
 have hS : Safe (List.range w1.heap.size) w4 t sa sk := (Safe.of (hr.ext hE1) fun x hx => List.mem_range.2 hx).mod (Mod.ext hE14)
 have hs : t.size ≤ 300 := by
  have ht' := ht
  unfold T.check at ht'
  simp only [Bool.and_eq_true, decide_eq_true_eq] at ht'
  exact ht'.1.1.1.1.2
 refine CallK.mod (nodAdd t (hb2 ht) (-1) hAr hA0 hS (by simp) (by simpa using hs)) (fun b hb => ?_) ?_
 ·simp only [List.mem_singleton] at hb; subst hb; exact List.mem_range.2 hN1.lt
 rintro v w5 hM5 ⟨rfl, l', Y, h5, hY⟩
 refine ⟨_, rfl, Mod.fresh hE04 hM5 (fun x hx => List.mem_range.2 (by have := hE1.size; omega)), .inr ⟨ht, D, rfl, l', Y, ?_, by rw [hY]; exact List.Perm.refl _, I.num_okay ht⟩⟩
 rw [List.nil_append] at h5
 exact h5.wide fun b hb => .inl (List.mem_range.2 (by have := List.mem_range.1 hb; have := hE1.size; omega))
end
section
open Go.RowKit
section
variable {A : List Nat} {w w1 : World} {D : Nat} {l : Sl} {X : List Nd}
theorem new_own {s : Sl} {size : Nat} {T : TypeId} {vs : List (List Value)} (hA : ∀ b ∈ A, b < w.heap.size) (hs : Own (List.range w.heap.size) w1 s size T vs) : Own A w1 s size T vs ∧ ∀ b ∈ s.blk, w.heap.size ≤ b :=
 ⟨hs.less fun b hb => List.mem_range.2 (hA b hb), fun b hb => by have := (hs.blk b hb).1; simpa using this⟩
theorem Nodes.rowK (h : Nodes A w D l X) {j : Nat} {y : Nd} (hj : X[j]? = some y) (hE : Ext w w1) (x' : Nd) (hid : x'.r.id = y.r.id) (hsa : Own A w1 x'.sa 2 63 (x'.r.attrs.map ac)) (hsk : Own A w1 x'.sk 1 3 (x'.r.kids.map ic)) (hba : ∀ b ∈ x'.sa.blk, b ∈ y.sa.blk ∨ w.heap.size ≤ b) (hbk : ∀ b ∈ x'.sk.blk, b ∈ y.sk.blk ∨ w.heap.size ≤ b)
  (hfit : x'.r.attrs.length ≤ 1000000 ∧ x'.r.kids.length ≤ 1000000) {g : Nat} (hg : l.a = some ⟨g, 0, none⟩) {o : Nat} {u : Value} (ho : o < 8) (hput : putAt (ndc y) o [u] = ndc x') :
  ∃ cur, Box w1 g 80 cur ∧ j * 8 + 8 ≤ cur.length ∧ (∀ b ∈ A, b ≠ g) ∧ ∀ w2, Chg [g] w1 w2 → Box w2 g 80 (putAt cur (j * 8 + o) [u]) → Nodes A w2 D l (X.set j x') ∧ Mod A w w2 := by
 have h1 := h.ext hE
 obtain ⟨cur, hcur, hlen⟩ := h1.cur hg
 have hgA : g ∉ A := (h1.row.blk g (by simp [Sl.blk, hg])).1
 refine ⟨cur, hcur, hlen hj, fun b hb e => hgA (e ▸ hb), fun w2 hC hB => ?_⟩
 obtain ⟨hup, hupC⟩ := h.upd hj x' hid hE (by simp) hsa hsk hba hbk hfit hg hcur hC hB (by simp; omega) hput
 exact ⟨hup, Mod.of hupC fun b hb => by simp at hb; subst hb; exact hgA⟩
end
theorem may_one (kind : Int) (name text : Str) : mayOk (.node kind name text [] []) false true = (oneT kind name text).check := by
 have hck : (oneT kind name text).check = nodeOk (.node kind name text [] []) := by
  unfold T.check
  rw [T.size_eq, T.depth_eq]
  simp [oneT, T.kind, T.name, T.text, T.attrs, T.kids, kidsOk, T.size_eq, T.depth_eq]
 rw [hck]
 unfold mayOk
 by_cases h2 : kind = 2
 ·subst h2
  rw [nodeOk_el (by rfl)]
  simp [T.kind, T.name, T.text, T.attrs, T.kids, kidsOk]
 ·rw [nodeOk_ne (by exact h2)]
  simp only [T.kind, T.name, T.text, T.attrs, T.kids]
  by_cases h1 : kind = 1
  ·subst h1; simp
  by_cases h3 : kind = 3
  ·subst h3; simp
  by_cases h4 : kind = 4
  ·subst h4; simp
  by_cases h5 : kind = 5
  ·subst h5; simp [Bool.and_comm]
  simp [h1, h2, h3, h4, h5]
section
variable {A : List Nat} {w : World} {D : Nat} {R : I}
theorem nodInsert (h : Nod A w D R) (hA : ∀ b ∈ A, b < w.heap.size) (id p at_ kind : Int) (name text : Str) :
  Calls Tryz.prog 51 #[.pointer (some ⟨D, 0, none⟩), .int .i64 id, .int .i64 p, .int .i64 at_, .agg #[.int .i64 kind, .string (Bs name), .string (Bs text), Sl.nil.v, Sl.nil.v]] w (Ret fun v w' => v = .int .i64 (insE R id p at_ kind name text) ∧ if insE R id p at_ kind name text = 0 then Mod A w w' ∧ Nod A w' D (R.ins p at_.toNat (leaf id kind name text)) else Ext w w') := by
 have hR := h.okay
 obtain ⟨E, hE⟩ : ∃ E, E = insE R id p at_ kind name text := ⟨_, rfl⟩
 rw [← hE]
 have hokay : E = 0 → _ := fun e => ins_okay hR (hE.symm.trans e)
 unfold insE at hE
 have fin : ∀ {k : Int} {w' : World}, E = k → k ≠ 0 → Ext w w' → (Value.int .i64 k = .int .i64 E ∧ if E = 0 then Mod A w w' ∧ Nod A w' D (R.ins p at_.toNat (leaf id kind name text)) else Ext w w') := fun {k w'} e hk hx => ⟨by rw [e], by rw [if_neg (by rw [e]; exact hk)]; exact hx⟩
 refine ref06_D_Insert.ok _ _ _ _ _ _ _ _ _ ?_
 unfold ref06_D_Insert.vc
 intro w1 B1 hN1 hE1
 have hb1 := hN1.ge
 have h1' := h.ext hE1
 have h0 := h
 obtain ⟨l, X, hA0, hp, _⟩ := h
 refine CallK.ext (nodN (hA0.ext hE1) p) fun v w2 hE2 ⟨r, hv, hr⟩ => ⟨r, hv, ?_⟩
 refine CallK.ext (nodHas (h1'.ext hE2) id) fun v w3 hE3 ⟨k, hv3, hk⟩ => ⟨k, hv3, mayOk (.node kind name text [] []) false true, fun _ => refMay (RdT.nil [] _ _ _ _) false true, fun w4 hE4 => ?_⟩
 have hE04 := ((hE1.trans hE2).trans hE3).trans hE4
 rw [may_one]
 have hbad : insBad R id kind name text = true ↔ (((((0 ≤ k) ∨ (id < 1)) ∨ (1048576 < id)) ∨ (0 < ((Sl.nil.n : Nat) : Int))) ∨ (0 < ((Sl.nil.n : Nat) : Int))) ∨ ((oneT kind name text).check = false) := by
  unfold insBad
  simp only [Bool.or_eq_true, decide_eq_true_eq, Bool.not_eq_true', hk]
  constructor
  ·rintro (((h | h) | h) | h)
   ·exact .inl (.inl (.inl (.inl (.inl h))))
   ·exact .inl (.inl (.inl (.inl (.inr h))))
   ·exact .inl (.inl (.inl (.inr h)))
   ·exact .inr h
  ·rintro (((((h | h) | h) | h) | h) | h)
   ·exact .inl (.inl (.inl h))
   ·exact .inl (.inl (.inr h))
   ·exact .inl (.inr h)
   ·exact absurd h (by simp [Sl.nil])
   ·exact absurd h (by simp [Sl.nil])
   ·exact .inr h
 refine ⟨fun hb => fin (by rw [hE, if_pos (hbad.2 hb)]) (by decide) hE04, fun hb => ?_⟩
 have hnb : ¬ insBad R id kind name text = true := fun hh => by
  rcases hbad.1 hh with (((((h | h) | h) | h) | h) | h)
  ·exact hb.1.1.1.1.1 h
  ·exact hb.1.1.1.1.2 h
  ·exact hb.1.1.1.2 h
  ·exact hb.1.1.2 h
  ·exact hb.1.2 h
  ·rw [hb.2] at h; cases h
 rw [if_neg hnb] at hE
 have h4 := hA0.ext hE04
 have hln : l.n = R.ids.length := by
  have h1 := hA0.len
  have h2 := hp.length_eq
  rw [List.length_map] at h2
  rw [h1, h2, ← I.recs_id R (-1), List.length_map]
 refine ⟨l, h4.cell, fun h300 => fin (by rw [hE, if_pos (by omega)]) (by decide) hE04, fun hlt => ?_⟩
 rw [if_neg (by omega)] at hE
 rcases hr.find hp hR with ⟨hf, rfl⟩ | ⟨i, x, g, e, hi, hx, hg, rfl, hf, hxr⟩
 ·rw [hf] at hE
  exact ⟨fun _ => fin (k := 3) hE (by decide) hE04, fun hb => by cases hb⟩
 rw [hf] at hE
 simp only at hE
 refine ⟨fun hb => (by cases hb), fun _ => ?_⟩
 have hxm := List.mem_of_getElem? hi
 have atx : ∀ w', Ext w w' → Cells w' ⟨g, i * 8, none⟩ (ndc x) := fun w' hE' => by
  obtain ⟨g', hg', _, hc⟩ := (hA0.ext hE').at hi
  rw [hg] at hg'; cases hg'; exact hc
 have hkind : x.r.kind = e.1.kind := by rw [hxr]; rfl
 have hkids : x.r.kids = e.1.kids.map I.id := by rw [hxr]; rfl
 have hskn : x.sk.n = e.1.kids.length := by
  have := (hA0.sk x hxm).len
  rw [List.length_map, hkids, List.length_map] at this; exact this
 have hcell : ∀ w', Ext w w' → w'.cell? (((⟨g, i * 8, none⟩ : Addr).add 2).add 0) = some (.int .i64 e.1.kind) := fun w' hE' => by rw [← hkind]; exact atx w' hE' 2 _ rfl
 refine CallK.exact (nodHolds (hcell w4 hE04)) fun w5 hE5 => ⟨_, rfl, _, fun _ => rfl, e.1.kind, fun _ => hcell w5 (hE04.trans hE5), fun hf4 => ?_, fun ht4 => ?_⟩
 ·have hh4 : I.holds e.1.kind kind = false := by
   unfold I.holds
   rcases hf4 with hf4 | hf4
   ·simp only [Bool.or_eq_false_iff, decide_eq_false_iff_not] at hf4
    simp [hf4]
   ·simp [hf4]
  exact fin (by rw [hE, if_pos hh4]) (by decide) (hE04.trans hE5)
 have hE05 := hE04.trans hE5
 have hh : ¬ I.holds e.1.kind kind = false := by
  unfold I.holds
  obtain ⟨h5, h6⟩ := ht4
  simp only [Bool.or_eq_true, decide_eq_true_eq] at h5
  rcases h5 with h5 | h5
  ·simp [h5]
  ·rcases h6 with h6 | h6
   ·simp [h5, h6]
   ·exact absurd h6 (by omega)
 rw [if_neg hh] at hE
 refine ⟨_, fun _ => rfl, x.sk, fun _ => atx w5 hE05 7 _ rfl, fun hb5 => fin (by rw [hE, if_pos (by rw [← hskn]; exact hb5)]) (by decide) hE05, fun hg5 => ?_⟩
 rw [if_neg (by rw [← hskn]; omega)] at hE
 have hlev : lev R p = e.2.2 := by unfold lev; rw [hf]
 refine CallK.exact (nodDeep (h0.ext hE05) p) fun w6 hE6 => ⟨_, rfl, fun hb6 => fin (by rw [hE, if_pos (by rw [← hlev]; omega)]) (by decide) (hE05.trans hE6), fun hb6 => ?_⟩
 rw [if_neg (by rw [← hlev]; omega)] at hE
 obtain ⟨hok, hidn, hpm⟩ := hokay hE
 have hE06 := hE05.trans hE6
 have h6 : Nodes (B1 :: A) w6 D l X := (hA0.wide (A' := B1 :: A) fun b hb => by
  rcases List.mem_cons.1 hb with rfl | hb
  ·exact .inr hb1
  ·exact .inl hb).ext hE06
 have hs1 := hE2.size
 have hs2 := hE3.size
 have hs3 := hE4.size
 have hs4 := hE5.size
 have hs5 := hE6.size
 have hA6 : ∀ b ∈ B1 :: A, b < w6.heap.size := fun b hb => by
  rcases List.mem_cons.1 hb with rfl | hb
  ·have := hN1.lt; omega
  ·have := hA b hb; have := hE06.size; omega
 have hnid : ∀ y ∈ X, y.r.id ≠ id := fun y hy e => hidn (by
  rw [← I.recs_id R (-1), ← (hp.map Rec.id).mem_iff, List.map_map, ← e]
  exact List.mem_map_of_mem (f := Rec.id ∘ Nd.r) hy)
 have hXl : X.length = R.ids.length := by have := hA0.len; omega
 have hkf := kids_few hR (I.find_some hf).1
 have hlk : x.r.kids.length = e.1.kids.length := by rw [hkids, List.length_map]
 obtain ⟨q, hq⟩ : ∃ q : Nat, at_ = (q : Int) := ⟨at_.toNat, by omega⟩
 have hqt : at_.toNat = q := by omega
 rw [hqt] at hok ⊢
 have hput := nodPut (w := w6) (h6.sk x hxm).row (by omega) (k := q) (by omega) id
 rw [← hq] at hput
 refine ⟨_, rfl, x.sk, atx w6 hE06 7 _ rfl, CallK.ext hput fun v w7 hE7 ⟨s', hv7, hs'⟩ => ⟨s', hv7, _, rfl, ?_⟩⟩
 have hnew := new_own hA6 hs'
 let y' : Nd := ⟨{ x.r with kids := insAt q id x.r.kids }, x.sa, s'⟩
 obtain ⟨cur, hcur, hlen, hgA, hrow⟩ := h6.rowK hi hE7 y' rfl ((h6.sa x hxm).ext hE7) hnew.1 (fun b hb => .inl hb) (fun b hb => .inr (hnew.2 b hb)) ⟨(h6.fit x hxm).1, by show (insAt _ _ _).length ≤ _; rw [insAt_len, hlk]; omega⟩ hg (o := 7) (u := s'.v) (by decide) rfl
 refine ⟨g, i * 8 + 7, 80, cur, by rw [Addr.add_lit], hcur, by omega, fun b hb => hgA b (by simp at hb; simp [hb]), fun w8 hC8 hB8 => ?_⟩
 obtain ⟨h8, hM8⟩ := hrow w8 hC8 hB8
 intro w9 hE9
 have h9 := h8.ext hE9
 have hA9 : ∀ b ∈ B1 :: A, b < w9.heap.size := fun b hb => by have := hA6 b hb; have := hM8.size; have := hE9.size; omega
 have hset : (X.set i y').map (fun x => x.r.id) = X.map fun x => x.r.id := set_ids hi rfl
 refine ⟨l, h9.cell, BareV (.node kind name text [] []) w9, fun _ _ _ _ _ w' w'' hE hv => hv.ext hE, fun w' hE => bareV (B := []) (sa := Sl.nil) (sk := Sl.nil) (RdT.nil [] w9 kind name text) (by simp [T.attrs]) hE, ?_⟩
 rintro w10 kd nm tx a kk B10 hE10 ⟨ekd, enm, etx, ekk, ho⟩ hB10 hbox10 _
 simp only [T.kind] at ekd
 simp only [T.name] at enm
 simp only [T.text] at etx
 rw [ekd, enm, etx, ekk] at hbox10
 let x0 : Nd := ⟨⟨id, p, kind, name, text, [], []⟩, a, Sl.nil⟩
 have hidset : ∀ y ∈ X.set i y', y.r.id ≠ x0.r.id := fun y hy e => by
  have hm : y.r.id ∈ (X.set i y').map fun x => x.r.id := List.mem_map_of_mem hy
  rw [hset] at hm
  obtain ⟨z, hz, e2⟩ := List.mem_map.1 hm
  exact hnid z hz (e2.trans e)
 refine h9.moreK (x := x0) hA9 (by simp) hidset hE10 hbox10 ho rfl rfl (by simp [x0]) (by rw [List.length_set]; omega) fun l2 w11 _ hbox11 hk11 => ⟨l2, rfl, fun w12 hE12 w13 hE13 => ⟨D, 0, 74, [l.v], Addr.add_zero' _, (hbox11.ext hE12).ext hE13, by simp, fun b hb => ?_, fun w14 hC14 hB14 => ?_⟩⟩
 ·have := h9.dA; simp at hb; subst hb; intro e; exact this (by simp [e])
 obtain ⟨h14, hM14⟩ := hk11 w13 (hE12.trans hE13) w14 hC14 hB14
 refine ⟨by rw [hE], ?_⟩
 rw [if_pos hE]
 have hmod : Mod A w w14 := ((Mod.ext hE06).trans (hM8.less fun b hb => List.mem_cons_of_mem _ hb)).trans (((Mod.ext hE9).trans hM14).less fun b hb => List.mem_cons_of_mem _ hb)
 refine ⟨hmod, l2, _, h14.wide (fun b hb => .inl (List.mem_cons_of_mem _ hb)), ?_, hok⟩
 rw [List.map_append, set_recs (G := I.insK p q id) hA0.nodup hi (by
  unfold I.insK; rw [if_pos hx]) (fun z hz => by unfold I.insK; rw [if_neg (by rw [← hx]; exact hz)])]
 refine List.Perm.trans ?_ (I.ins_recs R q (leaf id kind name text) (-1) hR.nodup hpm).symm
 rw [leaf_recs]
 exact (hp.map _).append (List.Perm.refl _)
end
end
section
open Go.RowKit
theorem ones_ndcs (X : List Nd) : ∀ u ∈ (X.map ndc).flatten, u.oneCell' = true := by
 intro u hu
 obtain ⟨l, hl, hm⟩ := List.mem_flatten.1 hu
 obtain ⟨x, _, rfl⟩ := List.mem_map.1 hl
 exact ones_ndc x u (by simpa using hm)
section
variable {A : List Nat} {w : World} {D : Nat} {R : I}
theorem nodDelete (h : Nod A w D R) (hA : ∀ b ∈ A, b < w.heap.size) (id : Int) :
  Calls Tryz.prog 52 #[.pointer (some ⟨D, 0, none⟩), .int .i64 id] w (Ret fun v w' => v = .int .i64 (delE R id) ∧ if delE R id = 0 then Mod A w w' ∧ Nod A w' D (R.del id) else Ext w w') := by
 have hR := h.okay
 obtain ⟨E, hE⟩ : ∃ E, E = delE R id := ⟨_, rfl⟩
 rw [← hE]
 unfold delE at hE
 have fin : ∀ {k : Int} {w' : World}, E = k → k ≠ 0 → Ext w w' → (Value.int .i64 k = .int .i64 E ∧ if E = 0 then Mod A w w' ∧ Nod A w' D (R.del id) else Ext w w') := fun {k w'} e hk hx => ⟨by rw [e], by rw [if_neg (by rw [e]; exact hk)]; exact hx⟩
 refine ref06_D_Delete.ok _ _ ?_
 unfold ref06_D_Delete.vc
 obtain ⟨l, X, h0, hp, _⟩ := h
 refine CallK.ext (nodN h0 id) fun v w1 hE1 ⟨r, hv, hr⟩ => ⟨r, hv, ?_⟩
 rcases hr.find hp hR with ⟨hf, rfl⟩ | ⟨i, x, g, e, hi, hx, hg, rfl, hf, hxr⟩
 ·rw [hf] at hE
  exact ⟨fun _ => fin (k := 3) hE (by decide) hE1, fun hb => by cases hb⟩
 rw [hf] at hE
 simp only at hE
 obtain ⟨e1, e2⟩ := I.find_some hf
 have h1 := h0.ext hE1
 obtain ⟨g', hg', hgb, hc⟩ := h1.at hi
 rw [hg] at hg'; cases hg'
 have hxm := List.mem_of_getElem? hi
 have hkind : x.r.kind = e.1.kind := by rw [hxr]; rfl
 have hpar : x.r.par = e.2.1 := by rw [hxr]; rfl
 have hskn : x.sk.n = e.1.kids.length := by
  have := (h0.sk x hxm).len
  rw [List.length_map, hxr] at this
  rw [this]; simp [I.rec0]
 refine ⟨fun hb => (by cases hb), fun _ => ⟨_, rfl, e.1.kind, by rw [← hkind]; exact hc 2 _ rfl, fun hk1 => fin (by rw [hE, if_pos hk1]) (by decide) hE1, fun hk1 => ⟨_, rfl, x.sk, hc 7 _ rfl, fun hkn => ?_, fun hkn => ?_⟩⟩⟩
 ·have : ¬ e.1.kids = [] := fun h => by rw [hskn, h] at hkn; simp at hkn
  exact fin (by rw [hE, if_neg hk1, if_neg this]) (by decide) hE1
 have hk0 : e.1.kids = [] := by
  cases hq : e.1.kids with
  |nil => rfl
  |cons a r => rw [hskn, hq] at hkn; exact absurd (by simp) hkn
 rw [if_neg hk1, if_pos hk0] at hE
 obtain ⟨s0, i0, hcut⟩ := cutOf hR e1 hk1
 obtain ⟨f, hff, hfid, _, _⟩ : ∃ f, R.find e.2.1 = some f ∧ f.1.id = e.2.1 ∧ f.2.2 + 1 = e.2.2 ∧ e.1 ∈ f.1.kids := by
  rcases up hR e1 with h | h
  ·rw [h] at hk1; exact absurd (I.check_iff.1 hR.check).1 hk1
  ·exact h
 obtain ⟨j, y, hj, hyr⟩ := rowOf hp (I.find_some hff).1
 have hyid : y.r.id = x.r.par := by rw [hyr, hxr]; exact hfid
 refine ⟨_, rfl, x.r.par, hc 1 _ rfl, CallK.ext (nodN h1 x.r.par) fun v w2 hE2 ⟨r2, hv2, hr2⟩ => ⟨r2, hv2, ?_⟩⟩
 have hE02 := hE1.trans hE2
 have h2 := h0.ext hE02
 obtain rfl : r2 = some ⟨g, j * 8, none⟩ := by
  rcases hr2 with ⟨hn, _⟩ | ⟨j', z, g2, hj', hz, hg2, e3⟩
  ·exact absurd hyid (hn y (List.mem_of_getElem? hj))
  ·obtain ⟨rfl, _⟩ := getNd h0.nodup hj' hj hz hyid
   rw [hg] at hg2; cases hg2; exact e3
 obtain ⟨g', hg', _, hcy⟩ := h2.at hj
 rw [hg] at hg'; cases hg'
 have hym := List.mem_of_getElem? hj
 have hfy := (h0.fit y hym).2
 have hA2 : ∀ b ∈ A, b < w2.heap.size := fun b hb => by have := hA b hb; have := hE02.size; omega
 refine ⟨_, rfl, y.sk, hcy 7 _ rfl, CallK.ext (nodWithout (w := w2) (h2.sk y hym).row hfy id) fun v w3 hE3 ⟨s', hv3, hs'⟩ => ⟨s', hv3, _, rfl, ?_⟩⟩
 have hnew := new_own hA2 hs'
 let y' : Nd := ⟨{ y.r with kids := y.r.kids.filter fun k => decide (k ≠ id) }, y.sa, s'⟩
 obtain ⟨cur, hcur, hlen, hgA, hrow⟩ := h2.rowK hj hE3 y' rfl ((h2.sa y hym).ext hE3) hnew.1 (fun b hb => .inl hb) (fun b hb => .inr (hnew.2 b hb)) ⟨(h2.fit y hym).1, Nat.le_trans (List.length_filter_le _ _) hfy⟩ hg (o := 7) (u := s'.v) (by decide) rfl
 refine ⟨g, j * 8 + 7, 80, cur, by rw [Addr.add_lit], hcur, by omega, by simp, fun w4 hC4 hB4 => ?_⟩
 obtain ⟨h4, hM4⟩ := hrow w4 hC4 hB4
 have hij : i ≠ j := fun e3 => by
  subst e3
  have : x = y := by rw [hi] at hj; exact Option.some.inj hj
  have hnp : e.2.1 ≠ e.1.id := fun e3 => (List.nodup_append.1 hcut.nodup).2.2 _ hcut.par _ (I.id_mem e.1) e3
  exact hnp (by rw [← hfid, e2, ← hx, this, hyr]; rfl)
 have hi4 : (X.set j y')[i]? = some x := by rw [List.getElem?_set, if_neg (fun e => hij e.symm)]; exact hi
 refine CallK.ext (nodAt h4 id) fun v w5 hE5 hv5 => ?_
 obtain rfl : v = .int .i64 (i : Int) := by
  rcases hv5 with ⟨hn, _⟩ | ⟨i', z, hi', hz, e3⟩
  ·exact absurd hx (hn x (List.mem_of_getElem? hi4))
  ·obtain ⟨rfl, _⟩ := getNd h4.nodup hi' hi4 hz hx; exact e3
 refine ⟨_, rfl, fun w6 hE6 => ?_⟩
 have hE46 := hE5.trans hE6
 have h6 := h4.ext hE46
 have hn6 := h6.len
 have hfew := h6.few
 have hcap := h6.row.cap
 have hmost := h6.row.most
 have hmo : maxLen = 9223372036854775807 := rfl
 obtain ⟨hil, _⟩ := List.getElem?_eq_some_iff.1 hi4
 have hA6 : ∀ b ∈ A, b < w6.heap.size := fun b hb => by have := hA2 b hb; have := hM4.size; have := hE46.size; omega
 rw [show ((i : Int)).toNat = i by omega, show ((i : Int) + 1).toNat = i + 1 by omega]
 generalize hX4 : X.set j y' = X4 at *
 refine ⟨⟨by omega, by omega⟩, l, h6.cell, ⟨by omega, by omega⟩, fun r w' => Own (List.range w6.heap.size) w' r 8 80 ((X4.take i).map ndc), fun r w' w'' hE hv => hv.ext hE, fun w' hE => ?_, l, h6.cell, ⟨by omega, by omega⟩, fun w7 r7 hE7 hV7 => ?_⟩
 ·have hr0 : Row [] w' (Sl.cut l 8 0 i l.c) 8 ((X4.take i).map ndc) := by
   have := ((h6.ext hE).row.row.less (A' := []) (by simp)).cut 0 i l.c (by omega) (by omega) (by omega) (by omega)
   rwa [List.drop_zero, Nat.sub_zero, ← List.map_take] at this
  have := Own.runK0 (P := Tryz.prog) (ty := 72) (A := List.range w'.heap.size) (bx := []) (w := w') (s := Sl.nil) (vs := []) (K := fun v w'' => Ext w' w'' ∧ ∃ r : Sl, v = r.v ∧ Own (List.range w6.heap.size) w'' r 8 80 ((X4.take i).map ndc)) Tryz.underlying72 ti_80 rfl (by decide) (Own.nil _ _ _ _) (fun b hb => List.mem_range.1 hb) hr0 (ones_ndcs _) (by simp; omega) (by simp; omega) (by simp) fun r w'' ho hc _ => ⟨hc.mono (by simp [Sl.own]), r, rfl, by rw [List.nil_append] at ho; exact ho.less fun b hb => List.mem_range.2 (by have := List.mem_range.1 hb; have := hE.size; omega)⟩
  obtain ⟨v, w'', q1, q2, q3, q4, r, q5, q6⟩ := this
  exact ⟨v, w'', q1, q4, r, q5, q6⟩
 have h7 := h6.ext hE7
 have hr1 : Row [] w7 (Sl.cut l 8 (i + 1) l.n l.c) 8 ((X4.drop (i + 1)).map ndc) := by
  have := (h7.row.row.less (A' := []) (by simp)).cut (i + 1) l.n l.c (by omega) (by omega) (by omega) (by omega)
  rwa [← List.map_drop, List.take_of_length_le (by simp; omega)] at this
 have hn7 : r7.n = i := by have := hV7.len; simp at this; omega
 refine Own.runK0 (A := List.range w6.heap.size) Tryz.underlying72 ti_80 rfl (by decide) hV7 (fun b hb => by have := List.mem_range.1 hb; have := hE7.size; omega) hr1 (ones_ndcs _) (by simp; omega) (by simp; omega) (by simp) fun r8 w8 ho8 hC8 hb8 => ⟨r8, rfl, fun w9 hE9 w10 hE10 => ?_⟩
 have hE68 : Ext w6 w8 := Chg.fresh hE7 hC8 hV7.new
 have hE610 := (hE68.trans hE9).trans hE10
 have h10 := h6.ext hE610
 refine ⟨D, 0, 74, [l.v], Addr.add_zero' _, h10.box, by simp, by simp, fun w11 hC11 hB11 => ?_⟩
 have ho10 : Own (List.range w6.heap.size) w10 r8 8 80 ((X4.take i ++ X4.drop (i + 1)).map ndc) := by
  rw [List.map_append]; exact (ho8.ext hE9).ext hE10
 have ho11 : Own (List.range w6.heap.size) w11 r8 8 80 ((X4.take i ++ X4.drop (i + 1)).map ndc) := ho10.keep hC11 fun b hb hm => (ho10.other h10.box (by decide)) (by simp only [List.mem_singleton] at hm; exact hm ▸ hb)
 have kp : ∀ {s : Sl} {size : Nat} {T : TypeId} {vs : List (List Value)}, T ≠ 74 → Own A w10 s size T vs → Own A w11 s size T vs := fun {s size T vs} t1 ho => ho.keep hC11 fun b hb hm => (ho.other h10.box t1) (by simp only [List.mem_singleton] at hm; exact hm ▸ hb)
 have hfin := h10.cut i (l' := r8) hB11 (ho11.less fun b hb => List.mem_range.2 (hA6 b hb)) fun z hz => ⟨kp (by decide) (h10.sa z hz), kp (by decide) (h10.sk z hz)⟩
 refine ⟨by rw [hE], ?_⟩
 rw [if_pos hE]
 have hmod : Mod A w w11 := ((Mod.ext hE02).trans hM4).trans ((Mod.ext (hE46.trans hE610)).trans (Mod.of hC11 (by simpa using h0.dA)))
 refine ⟨hmod, r8, _, hfin, ?_, by rw [← e2, hcut.del]; exact hcut.okay⟩
 have hx1 : (X4.map Nd.r).Perm (s0.recs (-1) ++ e.1.recs e.2.1) := by
  rw [← hX4, set_recs (G := outK e.2.1 e.1.id) h0.nodup hj (by
   unfold outK
   rw [if_pos (by rw [hyr]; exact hfid), e2]) (fun q hq => by
   unfold outK
   rw [if_neg (by rw [← hfid]; intro e3; exact hq (by rw [e3, hyr]; rfl))])]
  exact (hp.map _).trans hcut.out
 have hur : e.1.recs e.2.1 = [x.r] := by rw [I.recs_eq, hk0, hxr]; rfl
 rw [hur] at hx1
 have hsw := insAt_perm i x (X4.take i ++ X4.drop (i + 1))
 rw [insAt_cut hi4] at hsw
 have hsw2 := hsw.map Nd.r
 rw [List.map_cons] at hsw2
 have h12 := (hsw2.symm.trans hx1).trans (List.perm_append_comm (l₁ := s0.recs (-1)) (l₂ := [x.r]))
 rw [← e2, hcut.del]
 exact (List.perm_cons x.r).1 h12
end
end
section
open Go.RowKit
theorem attrGet_has (n : Str) : ∀ l : List (Str × Str), (attrGet l n).2 = hasA l n
 |[] => rfl
 |p :: r => by
  have ih := attrGet_has n r
  rw [attrGet]
  unfold hasA at ih ⊢
  rw [List.any_cons]
  by_cases h : p.1 = n
  ·rw [if_pos h, decide_eq_true h]; rfl
  ·rw [if_neg h, decide_eq_false h, ih]; rfl
section
variable {A : List Nat} {w : World} {D : Nat} {R : I}
theorem nodText (h : Nod A w D R) (hA : ∀ b ∈ A, b < w.heap.size) (id : Int) (text : Str) :
  Calls Tryz.prog 56 #[.pointer (some ⟨D, 0, none⟩), .int .i64 id, .string (Bs text)] w (Ret fun v w' => v = .int .i64 (txtE R id text) ∧ if txtE R id text = 0 then Mod A w w' ∧ Nod A w' D (R.upd id text []) else Ext w w') := by
 have hR := h.okay
 obtain ⟨E, hE⟩ : ∃ E, E = txtE R id text := ⟨_, rfl⟩
 rw [← hE]
 unfold txtE at hE
 have fin : ∀ {k : Int} {w' : World}, E = k → k ≠ 0 → Ext w w' → (Value.int .i64 k = .int .i64 E ∧ if E = 0 then Mod A w w' ∧ Nod A w' D (R.upd id text []) else Ext w w') := fun {k w'} e hk hx => ⟨by rw [e], by rw [if_neg (by rw [e]; exact hk)]; exact hx⟩
 refine ref06_D_Text.ok _ _ _ ?_
 unfold ref06_D_Text.vc
 obtain ⟨l, X, h0, hp, _⟩ := h
 refine CallK.ext (nodN h0 id) fun v w1 hE1 ⟨r, hv, hr⟩ => ⟨r, hv, ?_⟩
 rcases hr.find hp hR with ⟨hf, rfl⟩ | ⟨i, x, g, e, hi, hx, hg, rfl, hf, hxr⟩
 ·rw [hf] at hE
  exact ⟨fun _ => fin (k := 3) hE (by decide) hE1, fun hb => by cases hb⟩
 rw [hf] at hE
 simp only at hE
 obtain ⟨e1, e2⟩ := I.find_some hf
 have h1 := h0.ext hE1
 obtain ⟨g', hg', hgb, hc⟩ := h1.at hi
 rw [hg] at hg'; cases hg'
 have hxm := List.mem_of_getElem? hi
 have hkind : x.r.kind = e.1.kind := by rw [hxr]; rfl
 have hck : w1.cell? (((⟨g, i * 8, none⟩ : Addr).add 2).add 0) = some (.int .i64 e.1.kind) := by rw [← hkind]; exact hc 2 _ rfl
 refine ⟨fun hb => (by cases hb), fun _ => ⟨_, rfl, e.1.kind, hck, _, fun _ => rfl, e.1.kind, fun _ => hck, fun hb => fin (by rw [hE, if_pos hb]) (by decide) hE1, fun hgood => ⟨_, rfl, e.1.kind, hck, fun hb => ?_, fun hg2 => ⟨fun hb => ?_, fun hg3 => ?_⟩⟩⟩⟩
 ·exact fin (by rw [hE, if_neg (by rintro ⟨a, b⟩; rcases hgood with h | h; exact h a; exact h b), if_pos hb]) (by decide) hE1
 ·exact fin (by rw [hE, if_neg (by rintro ⟨a, b⟩; rcases hgood with h | h; exact h a; exact h b), if_neg (by rintro ⟨a, b⟩; rcases hg2 with h | h; exact h a; exact h b), if_pos (by omega)]) (by decide) hE1
 rw [if_neg (by rintro ⟨a, b⟩; rcases hgood with h | h; exact h a; exact h b), if_neg (by rintro ⟨a, b⟩; rcases hg2 with h | h; exact h a; exact h b), if_neg (by omega)] at hE
 have hk34 : e.1.kind = 3 ∨ e.1.kind = 4 := hgood.imp Classical.not_not.1 Classical.not_not.1
 have hno := hR.node e1 (by omega)
 have hne : e.1.toT.kind ≠ 2 := by rw [I.toT_kind]; omega
 rw [nodeOk_ne hne, I.toT_attrs, I.toT_kids, I.toT_kind, I.toT_name, I.toT_text] at hno
 simp only [Bool.and_eq_true, List.isEmpty_iff] at hno
 have hat : e.1.attrs = [] := hno.1.1
 have hxa : x.r.attrs = [] := by rw [hxr]; exact hat
 let x' : Nd := ⟨{ x.r with text := text, attrs := [] }, x.sa, x.sk⟩
 obtain ⟨cur, hcur, hlen, hgA, hrow⟩ := h1.rowK hi (Chg.refl [] w1) x' rfl (by have := h1.sa x hxm; rw [hxa] at this; exact this) (h1.sk x hxm) (fun b hb => .inl hb) (fun b hb => .inl hb) ⟨by simp [x'], (h1.fit x hxm).2⟩ hg (o := 4) (u := .string (Bs text)) (by decide) rfl
 refine ⟨_, rfl, g, i * 8 + 4, 80, cur, by rw [Addr.add_lit, Addr.add_lit], hcur, by omega, by simp, fun w2 hC2 hB2 => ?_⟩
 obtain ⟨h2, hM2⟩ := hrow w2 hC2 hB2
 refine ⟨by rw [hE], ?_⟩
 rw [if_pos hE]
 refine ⟨(Mod.ext hE1).trans hM2, l, _, h2, updPerm h0.nodup hp hi hx rfl, hR.upd e1 e2 (by omega) ?_⟩
 have hne' : (I.node e.1.id e.1.kind e.1.name text [] e.1.kids).toT.kind ≠ 2 := by rw [I.toT_kind, I.mk_kind]; omega
 have hno0 : e.1.kids = [] := by have := hno.1.2; simpa using this
 rw [nodeOk_ne hne', I.toT_attrs, I.toT_kids, I.toT_kind, I.toT_name, I.toT_text, I.mk_attrs, I.mk_kids, I.mk_kind, I.mk_name, I.mk_text]
 obtain ⟨_, h9⟩ := hno
 have hempty : ([] : List (Str × Str)).isEmpty = true := rfl
 rcases hk34 with hk | hk
 ·rw [if_pos hk] at h9
  simp only [Bool.and_eq_true] at h9
  have ht : ¬ text = [] := by rcases hg2 with h | h; exact absurd hk h; exact h
  have ht' : text.isEmpty = false := by cases text with
   |nil => exact absurd rfl ht
   |cons a b => rfl
  rw [if_pos hk, h9.1.1, ht', hempty, decide_eq_true (show text.length ≤ 4096 by omega)]
  simp [hno0]
 ·rw [if_neg (by omega), if_pos hk] at h9
  simp only [Bool.and_eq_true] at h9
  rw [if_neg (by omega), if_pos hk, h9.1, hempty, decide_eq_true (show text.length ≤ 4096 by omega)]
  simp [hno0]
theorem nodSet (h : Nod A w D R) (hA : ∀ b ∈ A, b < w.heap.size) (id : Int) (name value : Str) :
  Calls Tryz.prog 54 #[.pointer (some ⟨D, 0, none⟩), .int .i64 id, .string (Bs name), .string (Bs value)] w (Ret fun v w' => v = .int .i64 (setE R id name value) ∧ if setE R id name value = 0 then Mod A w w' ∧ Nod A w' D (R.upd id [] (withA (attrsOf R id) name value)) else Ext w w') := by
 have hR := h.okay
 obtain ⟨E, hE⟩ : ∃ E, E = setE R id name value := ⟨_, rfl⟩
 rw [← hE]
 unfold setE at hE
 have fin : ∀ {k : Int} {w' : World}, E = k → k ≠ 0 → Ext w w' → (Value.int .i64 k = .int .i64 E ∧ if E = 0 then Mod A w w' ∧ Nod A w' D (R.upd id [] (withA (attrsOf R id) name value)) else Ext w w') := fun {k w'} e hk hx => ⟨by rw [e], by rw [if_neg (by rw [e]; exact hk)]; exact hx⟩
 refine ref06_D_Set.ok _ _ _ _ ?_
 unfold ref06_D_Set.vc
 obtain ⟨l, X, h0, hp, _⟩ := h
 refine CallK.ext (nodN h0 id) fun v w1 hE1 ⟨r, hv, hr⟩ => ⟨r, hv, ?_⟩
 rcases hr.find hp hR with ⟨hf, rfl⟩ | ⟨i, x, g, e, hi, hx, hg, rfl, hf, hxr⟩
 ·rw [hf] at hE
  exact ⟨fun _ => fin (k := 3) hE (by decide) hE1, fun hb => by cases hb⟩
 rw [hf] at hE
 simp only at hE
 have haof : attrsOf R id = e.1.attrs := by unfold attrsOf; rw [hf]
 obtain ⟨e1, e2⟩ := I.find_some hf
 have hxm := List.mem_of_getElem? hi
 have hkind : x.r.kind = e.1.kind := by rw [hxr]; rfl
 have hxa : x.r.attrs = e.1.attrs := by rw [hxr]; rfl
 have atc : ∀ w', Ext w w' → Cells w' ⟨g, i * 8, none⟩ (ndc x) := fun w' hE' => by
  obtain ⟨g', hg', _, hc⟩ := (h0.ext hE').at hi
  rw [hg] at hg'; cases hg'; exact hc
 refine ⟨fun hb => (by cases hb), fun _ => ⟨_, rfl, e.1.kind, by rw [← hkind]; exact atc w1 hE1 2 _ rfl, fun hk => fin (by rw [hE, if_pos hk]) (by decide) hE1, fun hk => ?_⟩⟩
 rw [if_neg hk] at hE
 have hk2 : e.1.kind = 2 := Classical.not_not.1 hk
 obtain ⟨_, hte, hal, hao, _⟩ := elAttrs hR e1 hk2
 have hsn : x.sa.n = x.r.attrs.length := by have := (h0.sa x hxm).len; rwa [List.length_map] at this
 refine ⟨_, rfl, x.sa, atc w1 hE1 5 _ rfl, CallK.exact (refAttr ((h0.ext hE1).sa x hxm).row name) fun w2 hE2 => ⟨_, _, rfl, CallK.exact (refName name) fun w3 hE3 => ⟨_, rfl, fun hb => fin (by rw [hE, if_pos hb]) (by decide) ((hE1.trans hE2).trans hE3), fun hnm => ?_⟩⟩⟩
 rw [if_neg (by rw [hnm]; decide)] at hE
 have hE03 := (hE1.trans hE2).trans hE3
 rw [attrGet_has, hxa]
 refine ⟨_, fun _ => rfl, x.sa, fun _ => atc w3 hE03 5 _ rfl, fun hb => ?_, fun hgood => ?_⟩
 ·refine fin (k := 2) ?_ (by decide) hE03
  rw [hE, if_pos]
  rcases hb with hb | hb
  ·exact .inl (by omega)
  ·exact .inr ⟨hb.2, by rw [← hxa, ← hsn]; omega⟩
 rw [if_neg (by
  rintro (hb | hb)
  ·exact hgood.1 (by omega)
  ·rcases hgood.2 with h | h
   ·exact h (by rw [hsn, hxa]; omega)
   ·rw [hb.1] at h; cases h)] at hE
 have h3 := h0.ext hE03
 have hA3 : ∀ b ∈ A, b < w3.heap.size := fun b hb => by have := hA b hb; have := hE03.size; omega
 refine ⟨_, rfl, x.sa, atc w3 hE03 5 _ rfl, CallK.ext (nodWith (w := w3) (h3.sa x hxm).row (by rw [hxa]; omega) name value) fun v w4 hE4 ⟨s', hv4, hs'⟩ => ⟨s', hv4, _, rfl, ?_⟩⟩
 have hso : x.r.attrs.Pairwise fun a b => cmpS a.1 b.1 < 0 := by rw [hxa]; exact (attrsOk_iff.1 hao).2
 rw [goWith_with name value hso, hxa] at hs'
 have hnew := new_own hA3 hs'
 have hwl := withA_len hao name value
 have hwl2 : (withA e.1.attrs name value).length ≤ 12 := by
  by_cases hh : hasA e.1.attrs name = true
  ·rw [if_pos hh] at hwl; omega
  ·rw [if_neg hh] at hwl
   rcases hgood.2 with h | h
   ·rw [hsn, hxa] at h; omega
   ·exact absurd h hh
 have hvl : value.length ≤ 4096 := by have := hgood.1; omega
 have hwo : attrsOk [] (withA e.1.attrs name value) = true := withA_ok hao hnm hvl
 let x' : Nd := ⟨{ x.r with attrs := withA e.1.attrs name value }, s', x.sk⟩
 obtain ⟨cur, hcur, hlen, hgA, hrow⟩ := h3.rowK hi hE4 x' rfl hnew.1 ((h3.sk x hxm).ext hE4) (fun b hb => .inr (hnew.2 b hb)) (fun b hb => .inl hb) ⟨by show (withA _ _ _).length ≤ _; omega, (h3.fit x hxm).2⟩ hg (o := 5) (u := s'.v) (by decide) rfl
 refine ⟨g, i * 8 + 5, 80, cur, by rw [Addr.add_lit, Addr.add_lit], hcur, by omega, by simp, fun w5 hC5 hB5 => ?_⟩
 obtain ⟨h5, hM5⟩ := hrow w5 hC5 hB5
 refine ⟨by rw [hE], ?_⟩
 rw [if_pos hE, haof]
 refine ⟨(Mod.ext hE03).trans hM5, l, _, h5, updPerm h0.nodup hp hi hx (by
   show ({ x.r with attrs := _ } : Rec) = _
   have : x.r.text = [] := by rw [hxr]; exact hte
   rw [← this]), by rw [← e2]; exact set_okay hR e1 hk2 hwo hwl2⟩
theorem nodUnset (h : Nod A w D R) (hA : ∀ b ∈ A, b < w.heap.size) (id : Int) (name : Str) :
  Calls Tryz.prog 55 #[.pointer (some ⟨D, 0, none⟩), .int .i64 id, .string (Bs name)] w (Ret fun v w' => v = .int .i64 (unsE R id name) ∧ if unsE R id name = 0 then Mod A w w' ∧ Nod A w' D (R.upd id [] (withoutA (attrsOf R id) name)) else Ext w w') := by
 have hR := h.okay
 obtain ⟨E, hE⟩ : ∃ E, E = unsE R id name := ⟨_, rfl⟩
 rw [← hE]
 unfold unsE at hE
 have fin : ∀ {k : Int} {w' : World}, E = k → k ≠ 0 → Ext w w' → (Value.int .i64 k = .int .i64 E ∧ if E = 0 then Mod A w w' ∧ Nod A w' D (R.upd id [] (withoutA (attrsOf R id) name)) else Ext w w') := fun {k w'} e hk hx => ⟨by rw [e], by rw [if_neg (by rw [e]; exact hk)]; exact hx⟩
 refine ref06_D_Unset.ok _ _ _ ?_
 unfold ref06_D_Unset.vc
 obtain ⟨l, X, h0, hp, _⟩ := h
 refine CallK.ext (nodN h0 id) fun v w1 hE1 ⟨r, hv, hr⟩ => ⟨r, hv, ?_⟩
 rcases hr.find hp hR with ⟨hf, rfl⟩ | ⟨i, x, g, e, hi, hx, hg, rfl, hf, hxr⟩
 ·rw [hf] at hE
  exact ⟨fun _ => fin (k := 3) hE (by decide) hE1, fun hb => by cases hb⟩
 rw [hf] at hE
 simp only at hE
 have haof : attrsOf R id = e.1.attrs := by unfold attrsOf; rw [hf]
 obtain ⟨e1, e2⟩ := I.find_some hf
 have hxm := List.mem_of_getElem? hi
 have hkind : x.r.kind = e.1.kind := by rw [hxr]; rfl
 have hxa : x.r.attrs = e.1.attrs := by rw [hxr]; rfl
 have atc : ∀ w', Ext w w' → Cells w' ⟨g, i * 8, none⟩ (ndc x) := fun w' hE' => by
  obtain ⟨g', hg', _, hc⟩ := (h0.ext hE').at hi
  rw [hg] at hg'; cases hg'; exact hc
 refine ⟨fun hb => (by cases hb), fun _ => ⟨_, rfl, e.1.kind, by rw [← hkind]; exact atc w1 hE1 2 _ rfl, fun hk => fin (by rw [hE, if_pos hk]) (by decide) hE1, fun hk => ?_⟩⟩
 rw [if_neg hk] at hE
 have hk2 : e.1.kind = 2 := Classical.not_not.1 hk
 obtain ⟨_, hte, hal, hao, _⟩ := elAttrs hR e1 hk2
 refine ⟨_, rfl, x.sa, atc w1 hE1 5 _ rfl, CallK.exact (refAttr ((h0.ext hE1).sa x hxm).row name) fun w2 hE2 => ⟨_, _, rfl, fun hb => ?_, fun hgood => ?_⟩⟩
 ·rw [attrGet_has, hxa] at hb
  exact fin (k := 8) (by rw [hE, if_neg (by rw [hb]; decide)]) (by decide) (hE1.trans hE2)
 rw [attrGet_has, hxa] at hgood
 rw [if_pos hgood] at hE
 have hE02 := hE1.trans hE2
 have h2 := h0.ext hE02
 have hA2 : ∀ b ∈ A, b < w2.heap.size := fun b hb => by have := hA b hb; have := hE02.size; omega
 refine ⟨_, rfl, x.sa, atc w2 hE02 5 _ rfl, CallK.ext (nodWithoutA (w := w2) (h2.sa x hxm).row (by rw [hxa]; omega) name) fun v w3 hE3 ⟨s', hv3, hs'⟩ => ⟨s', hv3, _, rfl, ?_⟩⟩
 rw [hxa] at hs'
 have hnew := new_own hA2 hs'
 have hwl2 : (withoutA e.1.attrs name).length ≤ 12 := Nat.le_trans (List.length_filter_le _ _) hal
 have hwo := withoutA_ok hao name
 let x' : Nd := ⟨{ x.r with attrs := withoutA e.1.attrs name }, s', x.sk⟩
 obtain ⟨cur, hcur, hlen, hgA, hrow⟩ := h2.rowK hi hE3 x' rfl hnew.1 ((h2.sk x hxm).ext hE3) (fun b hb => .inr (hnew.2 b hb)) (fun b hb => .inl hb) ⟨by show (withoutA _ _).length ≤ _; omega, (h2.fit x hxm).2⟩ hg (o := 5) (u := s'.v) (by decide) rfl
 refine ⟨g, i * 8 + 5, 80, cur, by rw [Addr.add_lit, Addr.add_lit], hcur, by omega, by simp, fun w5 hC5 hB5 => ?_⟩
 obtain ⟨h5, hM5⟩ := hrow w5 hC5 hB5
 refine ⟨by rw [hE], ?_⟩
 rw [if_pos hE, haof]
 refine ⟨(Mod.ext hE02).trans hM5, l, _, h5, updPerm h0.nodup hp hi hx (by
   show ({ x.r with attrs := _ } : Rec) = _
   have : x.r.text = [] := by rw [hxr]; exact hte
   rw [← this]), by rw [← e2]; exact set_okay hR e1 hk2 hwo hwl2⟩
end
end
end Go.Proofs.YtghmgfkdnolcdaaGreat
