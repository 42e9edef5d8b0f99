/-
  slots.Of, all of it.
-/
import Derived.Test.YteohbfaechfliaaSltC
namespace Go.Proofs.Yteohbfaechfliaa
open Go.RowKit Go.MapKept

def Done (o x : T) (ps : List (Int × Int)) (N : Nat) (w : World) (i : Nat) (row : List Value) : Prop := ∃ se un ki : Sl, row = slc (slotOf o x ps i) se un ki ∧ Own [] w se 2 47 ((slotOf o x ps i).set.map ac) ∧ Own [] w un 1 9 ((slotOf o x ps i).unset.map wc) ∧ Own [] w ki 1 3 ((slotOf o x ps i).kids.map zc) ∧ ∀ b ∈ ki.blk, b < N
theorem Done.mono {o x : T} {ps : List (Int × Int)} {N N' : Nat} {w : World} {i : Nat} {row : List Value} (h : Done o x ps N w i row) (hN : N ≤ N') : Done o x ps N' w i row := by
  obtain ⟨se, un, ki, h1, h2, h3, h4, h5⟩ := h
  exact ⟨se, un, ki, h1, h2, h3, h4, fun b hb => Nat.lt_of_lt_of_le (h5 b hb) hN⟩
theorem Done.ext {o x : T} {ps : List (Int × Int)} {N : Nat} {w w' : World} {i : Nat} {row : List Value} (h : Done o x ps N w i row) (c : Ext w w') : Done o x ps N w' i row := by
  obtain ⟨se, un, ki, h1, h2, h3, h4, h5⟩ := h
  exact ⟨se, un, ki, h1, h2.ext c, h3.ext c, h4.ext c, h5⟩

/-- Where the loop stands: the slots of before are as they are to be, those behind are empty. -/
structure OfSt (o x : T) (ps : List (Int × Int)) (g : Nat) (r : Sl) (wb : World) (N k : Nat) (row : List Value) (w : World) : Prop where
  chg : Chg [g] wb w
  low : wb.heap.size ≤ N
  high : N ≤ w.heap.size
  rows : ∃ rows : List (List Value), Own [] w r 6 43 rows ∧ rows.length = o.size ∧ rows.getD k [] = row ∧ (∀ i, i < k → Done o x ps N w i (rows.getD i [])) ∧ (∀ i, k < i → i < o.size → rows.getD i [] = slc sv0 Sl.nil Sl.nil Sl.nil)
theorem OfSt.ext {o x : T} {ps : List (Int × Int)} {g : Nat} {r : Sl} {wb : World} {N k : Nat} {row : List Value} {w w' : World} (h : OfSt o x ps g r wb N k row w) (c : Ext w w') : OfSt o x ps g r wb N k row w' := by
  obtain ⟨rows, h1, h2, h3, h4, h5⟩ := h.rows
  exact ⟨h.chg.more c, h.low, Nat.le_trans h.high c.size, rows, h1.ext c, h2, h3, fun i hi => (h4 i hi).ext c, h5⟩
theorem OfSt.kids {o x : T} {ps : List (Int × Int)} {g : Nat} {r : Sl} {wb : World} {N k : Nat} {row : List Value} {w w' : World} {F : List Nat} {ki : Sl} {us : List (List Value)} (h : OfSt o x ps g r wb N k row w) (hk : Own [] w ki 1 3 us) (c : Chg F w w') (hF : ∀ b ∈ F, b ∈ ki.blk ∧ N ≤ b) : OfSt o x ps g r wb N k row w' := by
  obtain ⟨rows, h1, h2, h3, h4, h5⟩ := h.rows
  refine ⟨h.chg.more' c fun b hb => .inr (Nat.le_trans h.low (hF b hb).2), h.low, Nat.le_trans h.high c.size, rows, h1.keep c (fun b hb hm => (h1.apart hk (by decide)) b hb (hF b hm).1), h2, h3, fun i hi => ?_, h5⟩
  obtain ⟨se, un, k2, e, a1, a2, a3, a4⟩ := h4 i hi
  exact ⟨se, un, k2, e, a1.keep c (fun b hb hm => (a1.apart hk (by decide)) b hb (hF b hm).1), a2.keep c (fun b hb hm => (a2.apart hk (by decide)) b hb (hF b hm).1), a3.keep c (fun b hb hm => by have := a4 b hb; have := (hF b hm).2; omega), a4⟩
theorem OfSt.put {o x : T} {ps : List (Int × Int)} {g : Nat} {r : Sl} {wb : World} {N k : Nat} {row : List Value} {w : World} (h : OfSt o x ps g r wb N k row w) (hk : k < o.size) (hag : r.a = some ⟨g, 0, none⟩) :
    ∃ cur, Box w g 43 cur ∧ (k + 1) * 6 ≤ cur.length ∧ ∀ (w' : World) (us : List Value) (o' : Nat), o' + us.length ≤ 6 → Chg [g] w w' → Box w' g 43 (putAt cur (k * 6 + o') us) → OfSt o x ps g r wb N k (putAt row o' us) w' := by
  obtain ⟨rows, h1, h2, h3, h4, h5⟩ := h.rows
  have hn := h1.len
  have hc := h1.cap
  obtain ⟨cur, hg, hcl, hct⟩ : ∃ cur, Box w g 43 cur ∧ cur.length = r.c * 6 ∧ cur.take (r.n * 6) = rows.flatten := by
    rcases h1.at_ with e | ⟨g', cur, e1, _, e3, e4, e5⟩
    · rw [e] at hag; cases hag
    · rw [hag] at e1; cases e1; exact ⟨cur, e3, e4, e5⟩
  have hgb : ∀ b ∈ [g], b ∈ r.blk := by simp [Sl.blk, hag]
  refine ⟨cur, hg, by omega, fun w' us o' ho' hC hB => ⟨h.chg.trans hC, h.low, Nat.le_trans h.high hC.size, ?_⟩⟩
  have hput := h1.put (o := o') (us := us) hag hg (j := k) (by omega) ho' hB
  refine ⟨_, hput, by simpa using h2, ?_, fun i hi => ?_, fun i hi hi' => ?_⟩
  · rw [List.getD_eq_getElem?_getD, List.getElem?_set_self (by omega), h3]; rfl
  · rw [List.getD_eq_getElem?_getD, List.getElem?_set_ne (by omega), ← List.getD_eq_getElem?_getD]
    obtain ⟨se, un, k2, e, a1, a2, a3, a4⟩ := h4 i hi
    exact ⟨se, un, k2, e, a1.keep hC (fun b hb hm => (h1.apart a1 (by decide)) b (hgb b hm) hb), a2.keep hC (fun b hb hm => (h1.apart a2 (by decide)) b (hgb b hm) hb), a3.keep hC (fun b hb hm => (h1.apart a3 (by decide)) b (hgb b hm) hb), a4⟩
  · rw [List.getD_eq_getElem?_getD, List.getElem?_set_ne (by omega), ← List.getD_eq_getElem?_getD]
    exact h5 i hi hi'
/-- Rows of the call's own, of another kind: kept when a slot is written. -/
theorem OfSt.keep {o x : T} {ps : List (Int × Int)} {g : Nat} {r : Sl} {wb : World} {N k : Nat} {row : List Value} {w w' : World} (h : OfSt o x ps g r wb N k row w) (hag : r.a = some ⟨g, 0, none⟩) (c : Chg [g] w w') {A : List Nat} {s : Sl} {size : Nat} {S : TypeId} {us : List (List Value)} (hs : Own A w s size S us) (hne : 43 ≠ S) : Own A w' s size S us := by
  obtain ⟨rows, h1, _⟩ := h.rows
  exact hs.keep c fun b hb hm => (h1.apart hs hne) b (by simp at hm; simp [Sl.blk, hag, hm]) hb
theorem OfSt.cells {o x : T} {ps : List (Int × Int)} {g : Nat} {r : Sl} {wb : World} {N k : Nat} {row : List Value} {w : World} (h : OfSt o x ps g r wb N k row w) (hk : k < o.size) (hag : r.a = some ⟨g, 0, none⟩) : r.n = o.size ∧ Cells w ((⟨g, 0, none⟩ : Addr).add (k * 6)) row := by
  obtain ⟨rows, h1, h2, h3, _⟩ := h.rows
  refine ⟨by rw [h1.len, h2], ?_⟩
  have := h1.row.cells1 (i := k) (by omega) hag
  rwa [h3] at this
/-- At the loop's head. -/
def OfHd (o x : T) (ps : List (Int × Int)) (g : Nat) (r : Sl) (wb : World) (k : Nat) (w : World) : Prop := Chg [g] wb w ∧ ∃ rows : List (List Value), Own [] w r 6 43 rows ∧ rows.length = o.size ∧ (∀ i, i < k → Done o x ps w.heap.size w i (rows.getD i [])) ∧ (∀ i, k ≤ i → i < o.size → rows.getD i [] = slc sv0 Sl.nil Sl.nil Sl.nil)
theorem OfHd.in {o x : T} {ps : List (Int × Int)} {g : Nat} {r : Sl} {wb : World} {k : Nat} {w : World} (h : OfHd o x ps g r wb k w) (hk : k < o.size) : OfSt o x ps g r wb w.heap.size k (slc sv0 Sl.nil Sl.nil Sl.nil) w := by
  obtain ⟨hc, rows, h1, h2, h3, h4⟩ := h
  exact ⟨hc, hc.size, Nat.le_refl _, rows, h1, h2, h4 k (Nat.le_refl _) hk, h3, fun i hi hi' => h4 i (by omega) hi'⟩
theorem OfSt.out {o x : T} {ps : List (Int × Int)} {g : Nat} {r : Sl} {wb : World} {N k : Nat} {w : World} {se un ki : Sl} (h : OfSt o x ps g r wb N k (slc (slotOf o x ps k) se un ki) w) (h1 : Own [] w se 2 47 ((slotOf o x ps k).set.map ac)) (h2 : Own [] w un 1 9 ((slotOf o x ps k).unset.map wc)) (h3 : Own [] w ki 1 3 ((slotOf o x ps k).kids.map zc)) : OfHd o x ps g r wb (k + 1) w := by
  obtain ⟨rows, a1, a2, a3, a4, a5⟩ := h.rows
  refine ⟨h.chg, rows, a1, a2, fun i hi => ?_, fun i hi hi' => a5 i (by omega) hi'⟩
  by_cases e : i = k
  · subst e
    rw [a3]
    exact ⟨se, un, ki, rfl, h1, h2, h3, fun b hb => (h3.blk b hb).2⟩
  · exact (a4 i (by omega)).mono h.high

theorem Items.cellF {A : List Nat} {w : World} {a : Sl} {t : T} (h : Items A w a t) : a.n = t.size ∧ ∃ (p : Addr) (al : List Sl), a.a = some p ∧ ∀ (w' : World) (F : List Nat), Chg F w w' → (∀ b ∈ F, b ∈ A) → ∀ j, j < t.size → Cells w' (p.add (j * 10)) (itc (t.nd j) (al.getD j Sl.nil) (t.zAt j) (t.hAt j)) ∧ Row [] w' (al.getD j Sl.nil) 2 ((t.nd j).t.attrs.map ac) := by
  obtain ⟨al, hal, ho, hr⟩ := h
  have hpos := T.size_pos t
  have hfl := T.flat_len t
  obtain ⟨p, hp, _⟩ := ho.row.at_ 0 (by rw [icl_len]; omega)
  refine ⟨by rw [ho.len, icl_len, hfl], p, al, hp, fun w' F c hF j hj => ⟨?_, ?_⟩⟩
  · have := (ho.chg c hF).row.cells1 (i := j) (by rw [icl_len]; omega) hp
    rwa [icl_get _ _ _ _ (by omega)] at this
  · refine ((hr j _ _ (t.flat_get hj) ?_).chg c hF).less (by simp)
    rw [List.getD_eq_getElem?_getD, List.getElem?_eq_getElem (by omega)]; rfl
theorem take_map_snoc {α β : Type} (f : α → β) (l : List α) (d : α) {k : Nat} (h : k < l.length) : (l.take (k + 1)).map f = (l.take k).map f ++ [f (l.getD k d)] := by
  rw [take_snoc l d h, List.map_append]; rfl

theorem slotsOfC {A : List Nat} {w : World} {o x : T} {sa sk ta tk l : Sl} {ps : List (Int × Int)} (ho : RdT A w o sa sk) (hx : RdT A w x ta tk) (hl : Row A w l 2 (ps.map pc)) (no : o.bulk ≤ 400000000) (nx : x.bulk ≤ 400000000) (np : ps.length ≤ 400000000) :
    Calls Try.prog 12 #[tv o sa sk, tv x ta tk, l.v] w (Ret fun v w' => Ext w w' ∧ ((chkP o x ps = false ∧ v = .tuple #[Sl.nil.v, .int .i64 1]) ∨ (chkP o x ps = true ∧ ∃ s : Sl, v = .tuple #[s.v, .int .i64 0] ∧ Slots (List.range w.heap.size) w' s (slotsOf o x ps)))) := by
  refine slots_Of.ok _ _ _ _ _ _ _ _ _ _ _ ?_
  unfold slots_Of.vc
  have hln := hl.len
  rw [List.length_map] at hln
  have hso := T.size_bulk o
  have hsx := T.size_bulk x
  intro w1 B1 B2 _ _ _ hE1
  refine CallK.exact (matchCheck (ho.ext hE1) (hx.ext hE1) (hl.ext hE1) no nx (by omega)) fun w2 hE2 => ⟨_, rfl, fun hf => ⟨hE1.trans hE2, .inl ⟨hf, rfl⟩⟩, fun ht w3 hE3 => ?_⟩
  have hE03 := (hE1.trans hE2).trans hE3
  have hvals := chkP_vals ht
  refine ⟨fun s w' => Items [] w' s o, fun s w' w'' hE h => h.ext hE, fun w' hE => ?_, fun s w' => Items [] w' s x, fun s w' w'' hE h => h.ext hE, fun w' hE => ?_, ?_⟩
  · refine Ret.mono (walkFlat (by omega) (ho.ext (hE03.trans hE))) ?_
    rintro v w'' ⟨h1, s, rfl, h2⟩
    exact ⟨h1, s, rfl, h2.less (by simp)⟩
  · refine Ret.mono (walkFlat (by omega) (hx.ext (hE03.trans hE))) ?_
    rintro v w'' ⟨h1, s, rfl, h2⟩
    exact ⟨h1, s, rfl, h2.less (by simp)⟩
  intro w4 ra rb hE4 hX hY
  have hE04 := hE03.trans hE4
  refine makeMap_run intV (.int .i64) fun M1 w5 hE5 hM1 hMap1 => ⟨some M1, rfl, makeMap_run intV (.int .i64) fun M2 w6 hE6 hM2 hMap2 => ⟨some M2, rfl, fun w7 B3 hN3 hE7 => ?_⟩⟩
  have hM12 : M1 < M2 := Nat.lt_of_lt_of_le hMap1.lt hM2
  have hE47 := (hE5.trans hE6).trans hE7
  have hE07 := hE04.trans hE47
  have pairAt : ∀ w', Ext w w' → ∀ k, k < ps.length → ∃ p, l.a = some p ∧ Cells w' (p.add (k * 2)) (pc (ps.getD k (0, 0))) := fun w' hE k hk => by
    obtain ⟨p, hp, _, hc, _⟩ := (hl.ext hE).at_ k (by simpa using hk)
    refine ⟨p, hp, ?_⟩
    have e : (ps.map pc).getD k [] = pc (ps.getD k (0, 0)) := by simp [List.getD_eq_getElem?_getD, hk]
    rwa [e] at hc
  have hM1w : w.heap.size ≤ M1 := Nat.le_trans hE04.size hM1
  refine ⟨fun i w' => ∃ (k : Nat) (m1 m2 : List (Int × Value)), i = (k : Int) ∧ k ≤ ps.length ∧ MapIs intV (.int .i64) w' M1 m1 ∧ MapIs intV (.int .i64) w' M2 m2 ∧ (∀ z, mget m1 z = (toF (ps.take k) z).map intV) ∧ (∀ z, mget m2 z = (toF ((ps.take k).map swapP) z).map intV) ∧ Chg [M1, M2] w7 w', fun i _ => ps.length - i.toNat,
    ⟨0, [], [], rfl, by omega, (hMap1.ext hE6).ext hE7, hMap2.ext hE7, fun z => rfl, fun z => rfl, Chg.refl _ _⟩, ?_⟩
  rintro _ w8 ⟨k, m1, m2, rfl, hk, hm1, hm2, hg1, hg2, hC8⟩
  have hE08 : Ext w w8 := Chg.fresh hE07 hC8 (fun b hb => by simp at hb; rcases hb with rfl | rfl <;> omega)
  refine ⟨fun hi => ?_, fun hi => ?_⟩
  · have hk' : k < ps.length := by omega
    obtain ⟨p, hp, hc⟩ := pairAt w8 hE08 k hk'
    have t1 := take_snoc ps (0, 0) hk'
    have t2 := take_map_snoc swapP ps (0, 0) hk'
    generalize ps.getD k (0, 0) = q at hc t1 t2
    obtain ⟨qa, qb⟩ := q
    refine ⟨⟨by omega, hi⟩, p, hp, qa, qb, hc, fun w9 B4 hN4 hE9 => ?_⟩
    have hb1 : M1 ∉ [B3, B4] := by
      have := hN3.ge; have := hMap1.lt; have := hMap2.lt; have := hE6.size; have := hm1.lt; have := hN4.ge; simp; omega
    have hb2 : M2 ∉ [B3, B4] := by
      have := hN3.ge; have := hMap2.lt; have := hm2.lt; have := hN4.ge; simp; omega
    refine mapUpdate_run keyInt intV_inj Try.underlying81 Try.underlying3 (hm1.ext hE9) qa (intV qb) hb1 fun w10 hC10 hm10 w11 hE11 => ?_
    have hm2' := ((hm2.ext hE9).chg hC10 (by simp; omega)).ext hE11
    refine mapUpdate_run keyInt intV_inj Try.underlying81 Try.underlying3 hm2' qb (intV qa) hb2 fun w12 hC12 hm12 => ⟨⟨by omega, by omega⟩, ⟨k + 1, _, _, by omega, by omega, (hm10.ext hE11).chg hC12 (by simp; omega), hm12, fun z => ?_, fun z => ?_, ?_⟩, by dsimp only; omega⟩
    · rw [mget_put, hg1, t1, toF_snoc]
      by_cases h : z = qa
      · rw [if_pos h, if_pos h]; rfl
      · rw [if_neg h, if_neg h]
    · rw [mget_put, hg2, t2, toF_snoc]
      by_cases h : z = qb
      · rw [if_pos h, if_pos (show z = (swapP (qa, qb)).1 from h)]; rfl
      · rw [if_neg h, if_neg (show ¬ z = (swapP (qa, qb)).1 from h)]
    · exact (((hC8.more hE9).trans (hC10.mono (by simp))).more hE11).trans (hC12.mono (by simp))
  have hkl : k = ps.length := by omega
  subst hkl
  rw [List.take_of_length_le (Nat.le_refl _)] at hg1 hg2
  have hX8 : Items [] w8 ra o := ((((hX.fresh (Nat.le_trans hE5.size hM2)).fresh hM1).ext hE47).chg hC8 (by simp)).less (by simp)
  have hY8 : Items [] w8 rb x := ((((hY.fresh (Nat.le_trans hE5.size hM2)).fresh hM1).ext hE47).chg hC8 (by simp)).less (by simp)
  have hna := hX8.cell.1
  rw [hna]
  refine makeSlice_own (A := []) Try.underlying33 ti_43 rfl (by omega) (by omega) (by simp) fun wb hOwn hE9 => ⟨_, rfl, fun hBox => ?_⟩
  have hE0b : Ext w wb := hE08.trans hE9
  have hg8 : w.heap.size ≤ w8.heap.size := hE08.size
  have hXb : Items [w8.heap.size] wb ra o := (hX8.fresh (Nat.le_refl _)).ext hE9
  have hYb : Items [w8.heap.size] wb rb x := (hY8.fresh (Nat.le_refl _)).ext hE9
  have hgM1 : M1 ∉ [w8.heap.size] := by have := hm1.lt; simp; omega
  have hgM2 : M2 ∉ [w8.heap.size] := by have := hm2.lt; simp; omega
  have hgB3 : B3 ∉ [w8.heap.size] := by have := hN3.lt; have := hC8.size; simp; omega
  have hm1b := hm1.ext hE9
  have hm2b := hm2.ext hE9
  have hag : (Sl.mk (some ⟨w8.heap.size, 0, none⟩) o.size o.size).a = some ⟨w8.heap.size, 0, none⟩ := rfl
  have hxpos := T.size_pos x
  obtain ⟨hna', pa, ala, hpa, hca⟩ := hXb.cellF
  obtain ⟨hnb, pb, alb, hpb, hcb⟩ := hYb.cellF
  have itemO : ∀ w', Chg [w8.heap.size] wb w' → ∀ j, j < o.size → Cells w' (pa.add (j * 10)) (itc (o.nd j) (ala.getD j Sl.nil) (o.zAt j) (o.hAt j)) ∧ Row [] w' (ala.getD j Sl.nil) 2 ((o.nd j).t.attrs.map ac) := fun w' hc j hj => hca w' _ hc (by simp) j hj
  have itemX : ∀ w', Chg [w8.heap.size] wb w' → ∀ j, j < x.size → Cells w' (pb.add (j * 10)) (itc (x.nd j) (alb.getD j Sl.nil) (x.zAt j) (x.hAt j)) ∧ Row [] w' (alb.getD j Sl.nil) 2 ((x.nd j).t.attrs.map ac) := fun w' hc j hj => hcb w' _ hc (by simp) j hj
  have mapA : ∀ w', Chg [w8.heap.size] wb w' → MapIs intV (.int .i64) w' M1 m1 := fun w' hc => hm1b.chg hc hgM1
  have mapB : ∀ w', Chg [w8.heap.size] wb w' → MapIs intV (.int .i64) w' M2 m2 ∧ w'.cell? ⟨B3, 0, none⟩ = some (.map (some M2)) := fun w' hc => ⟨hm2b.chg hc hgM2, (hBox.keep hc hgB3).cell 0 _ rfl⟩
  have attrsLe : ∀ (t : T) (j : Nat), t.bulk ≤ 400000000 → j < t.size → (t.nd j).t.attrs.length ≤ 1000000000 := fun t j hb hj => by
    have h1 := T.flat_bulk t _ (List.mem_of_getElem? (t.flat_get hj))
    have h2 := T.slots_bulk (t.nd j).t
    have h3 := T.slots_eq (t.nd j).t
    have h4 : (t.nd j).t.bulk ≤ t.bulk := h1
    omega
  refine ⟨fun i w' => ∃ k : Nat, i = (k : Int) ∧ k ≤ o.size ∧ OfHd o x ps w8.heap.size ⟨some ⟨w8.heap.size, 0, none⟩, o.size, o.size⟩ wb k w', fun i _ => o.size - i.toNat,
    ⟨0, rfl, by omega, Chg.refl _ _, _, hOwn, by simp, fun i hi => by omega, fun i _ hi => by simp [List.getD_eq_getElem?_getD, List.getElem?_replicate, hi]; rfl⟩, ?_⟩
  rintro _ w9 ⟨k, rfl, hk, hHd⟩
  refine ⟨fun hi => ?_, fun hi => ?_⟩
  · have hk' : k < o.size := by omega
    have hSt := hHd.in hk'
    have hN : w9.heap.size = w9.heap.size := rfl
    have hlk := (lookup_run keyInt intV_inj Try.underlying81 Try.underlying3 (tiInt.zeroValue w9) (mapA w9 hHd.1) (k : Int)).1
    rw [hg1] at hlk
    have hslot : slotOf o x ps k = _ := rfl
    unfold slotOf at hslot
    cases hto : toF ps (k : Int) with
    | none =>
      rw [hto] at hlk hslot
      refine ⟨0, false, hlk, fun _ => ?_, fun h => (by cases h)⟩
      obtain ⟨cur, hgb, hcl, hput⟩ := hSt.put hk' hag
      refine ⟨⟨by omega, by simp; omega⟩, _, hag, w8.heap.size, k * 6 + 0, 43, cur, by simp [Addr.add_lit], hgb, by omega, by simp, fun w10 hC10 hB10 => ⟨⟨by omega, by omega⟩, ⟨k + 1, by omega, by omega, ?_⟩, by dsimp only; omega⟩⟩
      have hS2 := hput w10 [.bool true] 0 (by simp) hC10 hB10
      have e : putAt (slc sv0 Sl.nil Sl.nil Sl.nil) 0 [.bool true] = slc (slotOf o x ps k) Sl.nil Sl.nil Sl.nil := by
        unfold slotOf; rw [hto]; rfl
      rw [e] at hS2
      refine hS2.out ?_ ?_ ?_ <;> (unfold slotOf; rw [hto]; exact Own.nil _ _ _ _)
    | some j =>
      rw [hto] at hlk
      have hjm := hvals _ (toF_mem hto)
      obtain ⟨j', rfl⟩ : ∃ j' : Nat, j = (j' : Int) := ⟨j.toNat, by omega⟩
      have hjx : j' < x.size := by simp only at hjm; omega
      refine ⟨(j' : Int), true, hlk, fun h => (by cases h), fun _ w10 hE10 => ?_⟩
      have hS10 := hSt.ext hE10
      obtain ⟨c1, r1⟩ := itemO w10 hS10.chg k hk'
      obtain ⟨c2, r2⟩ := itemX w10 hS10.chg j' hjx
      refine ⟨pa, ⟨⟨by omega, by omega⟩, hpa⟩, _, _, _, _, _, c1.drop 5, pb, ⟨⟨by omega, by omega⟩, hpb⟩, _, _, _, _, _, c2.drop 5, ?_⟩
      generalize htx : decide ((o.nd k).t.text ≠ (x.nd j').t.text) = tx
      generalize hse : setOf (o.nd k).t.attrs (x.nd j').t.attrs = SE
      generalize hun : unsetOf (o.nd k).t.attrs (x.nd j').t.attrs = UN
      generalize hup : (if 0 ≤ (x.nd j').par then num ps (x.nd j').par else -1) = UP
      refine ⟨fun gone text se un up ki w' => gone = false ∧ tx = text ∧ up = 0 ∧ ki = Sl.nil ∧ Own [] w' se 2 47 (SE.map ac) ∧ Own [] w' un 1 9 (UN.map wc), fun gone text se un up ki w' w'' hE ⟨h1, h2, h3, h4, h5, h6⟩ => ⟨h1, h2, h3, h4, h5.ext hE, h6.ext hE⟩, fun w' hE => ?_, ⟨w8.heap.size, 0, none⟩, ⟨⟨by omega, by simp; omega⟩, hag⟩, ?_⟩
      · refine Ret.mono (slotsChanged (r1.ext hE) (r2.ext hE) (attrsLe o k no hk') (attrsLe x j' nx hjx)) ?_
        rintro v w'' ⟨h1, se, un, rfl, h2, h3⟩
        rw [htx, hse] at *
        rw [hun] at h3
        exact ⟨h1, _, _, se, un, _, _, rfl, rfl, rfl, rfl, rfl, h2.less (by simp), h3.less (by simp)⟩
      rintro w11 _ _ se un _ _ hE11 ⟨rfl, rfl, rfl, rfl, hSe, hUn⟩
      have hS11 := hS10.ext hE11
      obtain ⟨cur, hgb, hcl, hput⟩ := hS11.put hk' hag
      refine ⟨w8.heap.size, k * 6 + 0, 43, cur, by simp [Addr.add_lit], hgb, by omega, by simp, fun w12 hC12 hB12 => ⟨⟨by omega, by simp; omega⟩, _, hag, ?_⟩⟩
      have hS12 := hput w12 _ 0 (by simp) hC12 hB12
      have hSe12 := hS11.keep hag hC12 hSe (by decide)
      have hUn12 := hS11.keep hag hC12 hUn (by decide)
      obtain ⟨cur, hgb, hcl, hput⟩ := hS12.put hk' hag
      refine ⟨w8.heap.size, k * 6 + 4, 43, cur, by simp [Addr.add_lit], hgb, by omega, by simp, fun w13 hC13 hB13 => ?_⟩
      have hS13 : OfSt o x ps w8.heap.size ⟨some ⟨w8.heap.size, 0, none⟩, o.size, o.size⟩ wb w9.heap.size k [.bool false, .bool tx, se.v, un.v, .int .i64 (-1), Sl.nil.v] w13 := hput w13 _ 4 (by simp) hC13 hB13
      have hSe13 := hS12.keep hag hC13 hSe12 (by decide)
      have hUn13 := hS12.keep hag hC13 hUn12 (by decide)
      have hcp := (itemX w13 hS13.chg j' hjx).1
      have hpl : (x.nd j').par < j' := T.flat_lt x (x.flat_get hjx)
      refine ⟨⟨by omega, by omega⟩, pb, hpb, (x.nd j').par, hcp 0 _ rfl, fun w' => OfSt o x ps w8.heap.size ⟨some ⟨w8.heap.size, 0, none⟩, o.size, o.size⟩ wb w9.heap.size k [.bool false, .bool tx, se.v, un.v, .int .i64 UP, Sl.nil.v] w' ∧ Own [] w' se 2 47 (SE.map ac) ∧ Own [] w' un 1 9 (UN.map wc), ⟨fun h0 => ?_, fun h0 => ?_⟩, ?_⟩
      · obtain ⟨hmB, hcB⟩ := mapB w13 hS13.chg
        refine CallK.exact (slotsNum hcB hmB hg2 h0 (by omega)) fun w14 hE14 => ⟨_, rfl, ⟨by omega, by simp; omega⟩, _, hag, ?_⟩
        have hS14 := hS13.ext hE14
        obtain ⟨cur, hgb, hcl, hput⟩ := hS14.put hk' hag
        refine ⟨w8.heap.size, k * 6 + 4, 43, cur, by simp [Addr.add_lit], hgb, by omega, by simp, fun w15 hC15 hB15 => ⟨?_, hS14.keep hag hC15 (hSe13.ext hE14) (by decide), hS14.keep hag hC15 (hUn13.ext hE14) (by decide)⟩⟩
        rw [← hup, if_pos h0]
        exact hput w15 _ 4 (by simp) hC15 hB15
      · refine ⟨?_, hSe13, hUn13⟩
        rw [← hup, if_neg h0]; exact hS13
      rintro w16 ⟨hS16, hSe16, hUn16⟩
      have hzj := x.zAt_end hjx
      refine ⟨⟨by omega, by omega⟩, fun kk w' => ∃ (k' f : Nat) (us : List Nat) (ki : Sl), kk = (k' : Int) ∧ j' < k' ∧ x.size ≤ f + k' ∧ k' ≤ x.size ∧ us.length ≤ k' ∧ us ++ kidLoop x.zAt (j' + x.zAt j') f k' = x.kidsAt j' ∧ OfSt o x ps w8.heap.size ⟨some ⟨w8.heap.size, 0, none⟩, o.size, o.size⟩ wb w9.heap.size k [.bool false, .bool tx, se.v, un.v, .int .i64 UP, ki.v] w' ∧ Own [] w' se 2 47 (SE.map ac) ∧ Own [] w' un 1 9 (UN.map wc) ∧ Own [] w' ki 1 3 ((us.map fun q : Nat => num ps (q : Int)).map zc) ∧ (∀ b ∈ ki.blk, w9.heap.size ≤ b), fun kk _ => x.size - kk.toNat,
        ⟨j' + 1, x.size, [], Sl.nil, by omega, by omega, by omega, by omega, by simp, rfl, hS16, hSe16, hUn16, Own.nil _ _ _ _, by simp [Sl.blk, Sl.nil]⟩, ?_⟩
      rintro _ w17 ⟨k', f, us, ki, rfl, hjk, hf, hks, hul, hus, hS17, hSe17, hUn17, hKi, hKb⟩
      refine ⟨⟨by omega, by omega⟩, pb, hpb, (x.zAt j' : Int), (itemX w17 hS17.chg j' hjx).1 1 _ rfl, ⟨by omega, by omega⟩, fun hlt w18 hE18 => ?_, fun hge => ⟨⟨by omega, by omega⟩, ⟨k + 1, by omega, by omega, ?_⟩, by dsimp only; omega⟩⟩
      · have hkx : k' < x.size := by omega
        have hzk := x.zAt_end hkx
        obtain ⟨f', rfl⟩ : ∃ f', f = f' + 1 := by
          cases f with
          | zero => exact absurd hf (by omega)
          | succ f => exact ⟨f, rfl⟩
        rw [kidLoop, if_pos (by omega)] at hus
        have hS18 := hS17.ext hE18
        obtain ⟨hrn, hrow⟩ := hS18.cells hk' hag
        refine ⟨_, ⟨⟨by omega, by simp; omega⟩, hag⟩, ki, hrow 5 _ rfl, num ps (k' : Int), fun w' hE => ?_, fun w19 B5 hE19 hB5 hbox _ => ?_⟩
        · obtain ⟨hmB, hcB⟩ := mapB w' (hS18.ext hE).chg
          exact slotsNum hcB hmB hg2 (by omega) (by omega)
        have hS19 := hS18.ext hE19
        have hKi19 := (hKi.ext hE18).ext hE19
        have hbox' : Box w19 B5 3 (zc (num ps (k' : Int))) := hbox
        have hkin := hKi.len
        simp only [List.length_map] at hkin
        refine App.runK Try.underlying22 ti_3 rfl (by decide) (.inl hKi19) (by simp) (Own.one (A := []) hbox' (by simp)).row (ones_zc _) (by simp) (by simp only [maxLen, List.length_singleton]; omega) (by simp only [List.length_singleton]; omega) (by simp) fun s' w20 ho20 hC20 hb20 => ⟨s', rfl, fun w21 hE21 => ⟨_, ⟨⟨by omega, by simp; omega⟩, hag⟩, fun w22 hE22 => ?_⟩⟩
        have hF : ∀ b ∈ ki.own, b ∈ ki.blk ∧ w9.heap.size ≤ b := fun b hb => ⟨Sl.own_blk hb, hKb b (Sl.own_blk hb)⟩
        have hS20 := hS19.kids hKi19 hC20 hF
        have hSe20 := ((hSe17.ext hE18).ext hE19).keep hC20 (fun b hb hm => (((hSe17.ext hE18).ext hE19).apart hKi19 (by decide)) b hb (Sl.own_blk hm))
        have hUn20 := ((hUn17.ext hE18).ext hE19).keep hC20 (fun b hb hm => (((hUn17.ext hE18).ext hE19).apart hKi19 (by decide)) b hb (Sl.own_blk hm))
        have hS22 := (hS20.ext hE21).ext hE22
        obtain ⟨cur, hgb, hcl, hput⟩ := hS22.put hk' hag
        refine ⟨w8.heap.size, k * 6 + 5, 43, cur, by simp [Addr.add_lit], hgb, by omega, by simp, fun w23 hC23 hB23 => ?_⟩
        have hS23 : OfSt o x ps w8.heap.size ⟨some ⟨w8.heap.size, 0, none⟩, o.size, o.size⟩ wb w9.heap.size k [.bool false, .bool tx, se.v, un.v, .int .i64 UP, s'.v] w23 := hput w23 _ 5 (by simp) hC23 hB23
        refine ⟨⟨by omega, by omega⟩, pb, hpb, (x.zAt k' : Int), (itemX w23 hS23.chg k' hkx).1 1 _ rfl, ⟨by omega, by omega⟩, ⟨k' + x.zAt k', f', us ++ [k'], s', by omega, by omega, by omega, by omega, by simp; omega, by rw [List.append_assoc]; exact hus, hS23, ?_, ?_, ?_, ?_⟩, by dsimp only; omega⟩
        · exact hS22.keep hag hC23 ((hSe20.ext hE21).ext hE22) (by decide)
        · exact hS22.keep hag hC23 ((hUn20.ext hE21).ext hE22) (by decide)
        · rw [List.map_append, List.map_append]
          exact hS22.keep hag hC23 ((ho20.ext hE21).ext hE22) (by decide)
        · intro b hb
          rcases hb20 b hb with h | h
          · exact (hF b h).2
          · exact Nat.le_trans hS19.high h
      · have e : us = x.kidsAt j' := by
          rw [← hus]
          cases f with
          | zero => simp [kidLoop]
          | succ f => rw [kidLoop, if_neg (by omega)]; simp
        have es : slotOf o x ps k = ⟨false, tx, SE, UN, UP, (x.kidsAt j').map fun q : Nat => num ps (q : Int)⟩ := by
          unfold slotOf
          rw [hto]
          simp only [Int.toNat_natCast]
          rw [htx, hse, hun, hup]
        rw [e] at hKi
        refine OfSt.out (N := w9.heap.size) (se := se) (un := un) (ki := ki) ?_ ?_ ?_ ?_
        · rw [es]; exact hS17
        · rw [es]; exact hSe17
        · rw [es]; exact hUn17
        · rw [es]; exact hKi
  · have hkl : k = o.size := by omega
    subst hkl
    obtain ⟨hC, rows, h1, h2, h3, _⟩ := hHd
    refine ⟨Chg.fresh hE0b hC (by simpa using hg8), .inr ⟨ht, _, rfl, rows, h1.avoid (fun b hb => by simp [Sl.blk] at hb; subst hb; simp; omega), by simp [slotsOf, h2], fun i v row hv hr => ?_⟩⟩
    have hi' : i < o.size := by have := (List.getElem?_eq_some_iff.1 hr).1; omega
    have e1 : v = slotOf o x ps i := by
      simp [slotsOf, hi'] at hv; exact hv.symm
    obtain ⟨se, un, ki, e, a1, a2, a3, _⟩ := h3 i hi'
    rw [List.getD_eq_getElem?_getD, hr] at e
    subst e1
    exact ⟨se, un, ki, e, a1, a2, a3⟩

end Go.Proofs.Yteohbfaechfliaa
