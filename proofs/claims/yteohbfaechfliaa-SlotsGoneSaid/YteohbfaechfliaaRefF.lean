/-
  Chapter 7's own answer: Flat, Kids.
-/
import Derived.Test.YteohbfaechfliaaKid
import Derived.Test.YteohbfaechfliaaGref06
namespace Go.Proofs.Yteohbfaechfliaa
open Go.RowKit

theorem refBare {A : List Nat} {w : World} {t : T} {sa sk : Sl} (h : RdT A w t sa sk) (hb : t.bulk ≤ 1099511627776) :
    Calls Try.prog 59 #[tv t sa sk] w (Ret fun v w' => Ext w w' ∧ ∃ s : Sl, v = .agg #[.int .i64 t.kind, .string (Bs t.name), .string (Bs t.text), s.v, Sl.nil.v] ∧ Own (List.range w.heap.size) w' s 2 47 (t.attrs.map ac)) := by
  refine ref06_Bare.ok _ _ _ _ _ ?_
  unfold ref06_Bare.vc
  intro w1 B1 B2 hN1 hN2 hne hE1
  have hl := h.nattrs
  have hla : t.attrs.length ≤ 1099511627776 := by have := T.slots_bulk t; have := T.slots_eq t; omega
  have h2 := hN2.ge
  cases hx : t.attrs with
  | nil =>
    have e := append_none (P := Try.prog) (w := w1) (s := Sl.nil) (x := sa) (t := 23) (ty := 23) Try.underlying23 ti_47 (Nat.le_refl _) (by rw [hl, hx]; rfl)
    refine ⟨_, _, e, fun b hb _ => rfl, Nat.le_refl _, Sl.nil, rfl, fun w2 hE2 w3 hC3 => ⟨Chg.fresh (hE1.trans hE2) hC3 (by simpa using h2), Sl.nil, rfl, Own.nil _ _ _ _⟩⟩
  | cons x r =>
    rw [← hx]
    refine App.runK (A := B1 :: B2 :: List.range w.heap.size) Try.underlying23 ti_47 rfl (by decide) (.inl (Own.nil _ _ _ _)) (fun b hb => ?_) ((h.ext hE1).attrs.less (by simp)) (ones_acs t.attrs) (by rw [hx]; simp) (by simp [maxLen]; omega) (by simp; omega) (by simp) fun s' w' ho hc hb => ⟨s', rfl, fun w2 hE2 w3 hC3 => ⟨?_, s', rfl, ?_⟩⟩
    · have h3 := hN1.lt; have h4 := hN2.lt; have h5 := hE1.size
      simp only [List.mem_cons, List.mem_range] at hb
      rcases hb with rfl | rfl | hb <;> omega
    · exact Chg.fresh ((hE1.trans (hc.mono (by simp [Sl.own]))).trans hE2) hC3 (by simpa using h2)
    · exact ((ho.ext hE2).chg hC3 (by simp)).less fun b hb => by simp at hb ⊢; omega

/-- A chapter 7's item: as an item, and the node with all in it behind. -/
def rc (e : En) (a sa sk : Sl) (z h : Nat) : List Value := [.int .i64 e.par, .int .i64 (z : Int), .int .i64 (e.dep : Int), .int .i64 (h : Int), .int .i64 (e.pl : Int), .int .i64 e.t.kind, .string (Bs e.t.name), .string (Bs e.t.text), a.v, Sl.nil.v, .int .i64 e.t.kind, .string (Bs e.t.name), .string (Bs e.t.text), sa.v, sk.v]
theorem ones_rc (e : En) (a sa sk : Sl) (z h : Nat) : ∀ u ∈ [rc e a sa sk z h].flatten, u.oneCell' = true := by
  intro u hu; simp [rc] at hu; rcases hu with rfl | rfl | rfl | rfl | rfl | rfl | rfl | rfl | rfl | rfl | rfl | rfl | rfl | rfl | rfl <;> rfl
def RIok (w : World) (e : En) (z h : Nat) (u : List Value) : Prop := ∃ a sa sk : Sl, u = rc e a sa sk z h ∧ Own [] w a 2 47 (e.t.attrs.map ac)
def RIs (w : World) (es : List En) (rows : List (List Value)) : Prop := rows.length = es.length ∧ ∀ (i : Nat) (e : En) (u : List Value), es[i]? = some e → rows[i]? = some u → RIok w e e.t.size e.t.depth u
theorem RIok.keep {w w' : World} {e : En} {z h : Nat} {u : List Value} (k : RIok w e z h u) {A : List Nat} {s : Sl} {vs : List (List Value)} {F : List Nat} (ho : Own A w s 15 38 vs) (c : Chg F w w') (hF : ∀ b ∈ F, b ∈ s.blk) : RIok w' e z h u := by
  obtain ⟨a, sa, sk, h1, h2⟩ := k
  exact ⟨a, sa, sk, h1, h2.keep c fun b hb hm => (ho.apart h2 (by decide)) b (hF b hm) hb⟩
theorem RIok.ext {w w' : World} {e : En} {z h : Nat} {u : List Value} (k : RIok w e z h u) (c : Ext w w') : RIok w' e z h u := by
  obtain ⟨a, sa, sk, h1, h2⟩ := k
  exact ⟨a, sa, sk, h1, h2.ext c⟩
theorem RIs.keep {w w' : World} {es : List En} {rows : List (List Value)} (k : RIs w es rows) {A : List Nat} {s : Sl} {vs : List (List Value)} {F : List Nat} (ho : Own A w s 15 38 vs) (c : Chg F w w') (hF : ∀ b ∈ F, b ∈ s.blk) : RIs w' es rows :=
  ⟨k.1, fun i e u he hu => (k.2 i e u he hu).keep ho c hF⟩
theorem RIs.ext {w w' : World} {es : List En} {rows : List (List Value)} (k : RIs w es rows) (c : Ext w w') : RIs w' es rows := ⟨k.1, fun i e u he hu => (k.2 i e u he hu).ext c⟩
theorem RIs.app {w : World} {es fs : List En} {r1 r2 : List (List Value)} (k : RIs w es r1) (l : RIs w fs r2) : RIs w (es ++ fs) (r1 ++ r2) := by
  refine ⟨by simp [k.1, l.1], fun i e u he hu => ?_⟩
  by_cases hi : i < es.length
  · rw [List.getElem?_append_left hi] at he
    rw [List.getElem?_append_left (by rw [k.1]; exact hi)] at hu
    exact k.2 i e u he hu
  · rw [List.getElem?_append_right (by omega)] at he
    rw [List.getElem?_append_right (by rw [k.1]; omega), k.1] at hu
    exact l.2 _ e u he hu
theorem kidsE_snoc : ∀ (us : List T) (u : T) (nx : Nat) (p : Int) (d i : Nat), kidsE (us ++ [u]) nx p d i = kidsE us nx p d i ++ u.ents (nx + (us.map T.size).sum) p d (i + us.length)
  | [], u, nx, p, d, i => by simp [kidsE_cons, kidsE_nil]
  | v :: us, u, nx, p, d, i => by
    rw [List.cons_append, kidsE_cons, kidsE_snoc us u, kidsE_cons, List.append_assoc]
    simp only [List.map_cons, List.sum_cons, List.length_cons]
    rw [show nx + v.size + (us.map T.size).sum = nx + (v.size + (us.map T.size).sum) by omega, show i + 1 + us.length = i + (us.length + 1) by omega]

theorem refFlat : ∀ t : T, ∀ {X A : List Nat} {w : World} {sa sk l : Sl} {vs : List (List Value)} (par : Int) (dep pl : Nat), RdT X w t sa sk → Own A w l 15 38 vs → (∀ b ∈ A, b < w.heap.size) → (∀ b ∈ l.own, b ∈ X) → vs.length + t.size ≤ 1000000000 → t.bulk ≤ 1000000000 → dep + t.size ≤ 1000000000 →
    Calls Try.prog 35 #[l.v, tv t sa sk, .int .i64 par, .int .i64 (dep : Int), .int .i64 (pl : Int)] w
      (Ret fun v w' => Chg l.own w w' ∧ ∃ (s : Sl) (rows : List (List Value)), v = s.v ∧ Own A w' s 15 38 (vs ++ rows) ∧ (∀ b ∈ s.blk, b ∈ l.own ∨ w.heap.size ≤ b) ∧ RIs w' (t.ents vs.length par dep pl) rows) := T.ind' fun t ih X A w sa sk l vs par dep pl hr ho hA hlX hvs hb hdep => by
  refine ref07_flat.ok _ _ _ _ _ _ _ _ _ ?_
  unfold ref07_flat.vc
  have hn := ho.len
  have hpos := T.size_pos t
  intro w1 B1 hN1 hE1
  refine ⟨fun k n x a b w' => k = t.kind ∧ n = t.name ∧ x = t.text ∧ b = Sl.nil ∧ Own [] w' a 2 47 (t.attrs.map ac), fun k n x a b w' w'' hE ⟨h1, h2, h3, h4, h5⟩ => ⟨h1, h2, h3, h4, h5.ext hE⟩, fun w' hE => ?_, ?_⟩
  · refine Ret.mono (refBare (hr.ext (hE1.trans hE)) (by omega)) ?_
    rintro v w'' ⟨h1, s, rfl, h2⟩
    exact ⟨h1, _, _, _, s, Sl.nil, rfl, rfl, rfl, rfl, rfl, h2.less (by simp)⟩
  rintro w2 _ _ _ a _ B2 hE2 ⟨rfl, rfl, rfl, rfl, ha⟩ hB2 _ hbox
  have hE02 : Ext w w2 := hE1.trans hE2
  have hbox' : Box w2 B2 38 (rc ⟨par, dep, pl, t⟩ a sa sk 0 0) := hbox
  have ho2 : Own (B1 :: A) w2 l 15 38 vs := (ho.ext hE02).cons (fun hm => by have := (ho.blk _ hm).2; have := hN1.ge; omega)
  refine App.runK Try.underlying31 ti_38 rfl (by decide) (.inl ho2) (fun b hb => ?_) (Own.one (A := []) hbox' (by simp)).row (ones_rc _ _ _ _ _ _) (by simp) (by simp only [maxLen, List.length_singleton]; omega) (by simp only [List.length_singleton]; omega) (by simp) fun s3 w3 ho3 hC3 hb3 => ⟨s3, rfl, fun w4 hE4 => ?_⟩
  · have h1 := hN1.lt; have h2 := hE2.size; have h3 := hE02.size
    rcases List.mem_cons.1 hb with rfl | hb
    · omega
    · have := hA b hb; omega
  have ha3 : Own [] w3 a 2 47 (t.attrs.map ac) := ha.keep hC3 fun b hb hm => (ho2.apart ha (by decide)) b (Sl.own_blk hm) hb
  have hC04 : Chg l.own w w4 := ((hE02.mono (by simp)).more' hC3 (fun b hb => .inl hb)).more hE4
  have hnk := hr.nkids
  have hszk := T.size_eq t
  have hkln := T.kids_len t
  refine ⟨fun s h i w' => ∃ (k : Nat) (rows : List (List Value)), i = (k : Int) ∧ k ≤ t.kids.length ∧ h = (((t.kids.take k).map T.depth).foldr max 0 : Nat) ∧ Own (B1 :: A) w' s 15 38 (vs ++ rc ⟨par, dep, pl, t⟩ a sa sk 0 0 :: rows) ∧ Own [] w' a 2 47 (t.attrs.map ac) ∧ RIs w' (kidsE (t.kids.take k) (vs.length + 1) vs.length (dep + 1) 0) rows ∧ Chg l.own w w' ∧ (∀ b ∈ s.blk, b ∈ l.own ∨ w.heap.size ≤ b) ∧ w4.heap.size ≤ w'.heap.size, fun _ _ i _ => t.kids.length - i.toNat,
    ⟨0, [], rfl, by omega, rfl, by simpa using ho3.ext hE4, ha3.ext hE4, ⟨rfl, fun i e u h => by simp [kidsE_nil] at h⟩, hC04, fun b hb => (hb3 b hb).imp id (fun h => Nat.le_trans hE02.size h), Nat.le_refl _⟩, ?_⟩
  rintro s5 _ _ w5 ⟨k, rows, rfl, hk, rfl, ho5, ha5, hR5, hC5, hb5, hsz5⟩
  have hrl : rows.length = ((t.kids.take k).map T.size).sum := by rw [hR5.1, kidsE_len]
  have hn5 := ho5.len
  simp only [List.length_append, List.length_cons] at hn5
  have hsum : ((t.kids.take k).map T.size).sum ≤ (t.kids.map T.size).sum := sum_take_le T.size _ _
  refine ⟨fun hi => ?_, fun hi => ?_⟩
  · have hk' : k < t.kids.length := by omega
    have hr5 : RdT (s5.own ++ X) w5 t sa sk := by
      have h1 := hr.wide (A' := s5.own ++ X) (fun b hb => by
        rcases List.mem_append.1 hb with hb | hb
        · exact (hb5 b (Sl.own_blk hb)).imp (hlX b) id
        · exact .inl hb)
      exact RdT.chg hC5 (fun b hb => List.mem_append_right _ (hlX b hb)) h1
    obtain ⟨p, sau, sku, hp, _, hc, hru⟩ := hr5.kid hk'
    rw [Int.toNat_natCast]
    have hm := getD_mem (d := T.nul) hk'
    have hsk := sum_take T.size hk'
    have hs2 : ((t.kids.take (k + 1)).map T.size).sum ≤ (t.kids.map T.size).sum := sum_take_le T.size _ _
    refine ⟨⟨by omega, hi⟩, p, hp, _, _, _, sau, sku, hc, ⟨by omega, by omega⟩, ?_⟩
    have hkb := T.kid_bulk hm
    have hcall := ih _ hm (A := B1 :: A) (vs := vs ++ rc ⟨par, dep, pl, t⟩ a sa sk 0 0 :: rows) (vs.length : Int) (dep + 1) k hru ho5 (fun b hb => ?_) (fun b hb => List.mem_append_left _ hb) (by simp only [List.length_append, List.length_cons]; omega) (by omega) (by omega)
    · have q1 : (l.n : Int) = (vs.length : Int) := by rw [hn]
      have q2 : (dep : Int) + 1 = ((dep + 1 : Nat) : Int) := by omega
      rw [q1, q2]
      refine CallK.chg (F := s5.own) hcall (fun b hb => ?_) ?_
      · simp at hb; subst hb
        exact fun hm => (ho5.blk _ (Sl.own_blk hm)).1 (by simp)
      rintro v w6 hC6 ⟨s6, rows6, rfl, ho6, hb6, hR6⟩
      have hn6 := ho6.len
      have hl6 := hR6.1
      rw [T.ents_len] at hl6
      have hkp := T.size_pos (t.kids.getD k T.nul)
      simp only [List.length_append, List.length_cons] at hn6
      obtain ⟨p6, hp6, _, hc6, _⟩ := ho6.row.at_ s5.n (by simp only [List.length_append, List.length_cons]; omega)
      have hg : (vs ++ rc ⟨par, dep, pl, t⟩ a sa sk 0 0 :: rows ++ rows6).getD s5.n [] = rows6.getD 0 [] := by
        rw [List.getD_eq_getElem?_getD, List.getElem?_append_right (by simp only [List.length_append, List.length_cons]; omega), List.getD_eq_getElem?_getD]
        congr 2
        simp only [List.length_append, List.length_cons]; omega
      rw [hg] at hc6
      obtain ⟨u, hu⟩ : ∃ u, rows6[0]? = some u := ⟨_, List.getElem?_eq_getElem (by omega)⟩
      obtain ⟨a6, sa6, sk6, rfl, _⟩ := hR6.2 0 _ u (by rw [T.ents_eq]; rfl) hu
      rw [List.getD_eq_getElem?_getD, hu] at hc6
      refine ⟨s6, rfl, ⟨by omega, by omega⟩, p6, hp6, ((t.kids.getD k T.nul).depth : Int), hc6 3 _ rfl, ⟨by omega, by omega⟩, ⟨k + 1, rows ++ rows6, by omega, by omega, ?_, ?_, ?_, ?_, ?_, ?_, ?_⟩, ?_⟩
      · have := max_take T.depth hk'
        rw [this]; omega
      · have e : vs ++ rc ⟨par, dep, pl, t⟩ a sa sk 0 0 :: (rows ++ rows6) = (vs ++ rc ⟨par, dep, pl, t⟩ a sa sk 0 0 :: rows) ++ rows6 := by simp
        rw [e]; exact ho6
      · exact ha5.keep hC6 fun b hb hm => (ho5.apart ha5 (by decide)) b (Sl.own_blk hm) hb
      · have e1 : t.kids.take (k + 1) = t.kids.take k ++ [t.kids.getD k T.nul] := take_getD hk'
        rw [e1, kidsE_snoc]
        refine (hR5.keep ho5 hC6 (fun b hb => Sl.own_blk hb)).app ?_
        have e2 : (vs ++ rc ⟨par, dep, pl, t⟩ a sa sk 0 0 :: rows).length = vs.length + 1 + ((t.kids.take k).map T.size).sum := by
          simp only [List.length_append, List.length_cons]; omega
        have e3 : 0 + (t.kids.take k).length = k := by rw [List.length_take]; omega
        rw [e3, ← e2]; exact hR6
      · exact hC5.more' hC6 fun b hb => hb5 b (Sl.own_blk hb)
      · exact fun b hb => (hb6 b hb).elim (fun h => hb5 b (Sl.own_blk h)) (fun h => .inr (Nat.le_trans hC5.size h))
      · exact Nat.le_trans hsz5 hC6.size
      · dsimp only; omega
    · rcases List.mem_cons.1 hb with rfl | hb
      · have := hN1.lt; have := hE2.size; have := hC3.size; have := hE4.size; omega
      · have := hA b hb; have := hC5.size; omega
  · have hkl : k = t.kids.length := by omega
    subst hkl
    rw [List.take_of_length_le (Nat.le_refl _)] at hR5 hrl
    have hbi := T.size_bulk t
    obtain ⟨g, cur, hag, hgA, hg5, hcl, hct⟩ : ∃ g cur, s5.a = some ⟨g, 0, none⟩ ∧ g ∉ B1 :: A ∧ Box w5 g 38 cur ∧ cur.length = s5.c * 15 ∧ cur.take (s5.n * 15) = (vs ++ rc ⟨par, dep, pl, t⟩ a sa sk 0 0 :: rows).flatten := by
      rcases ho5.at_ with h1 | h1
      · rw [h1] at hn5; simp [Sl.nil] at hn5
      · exact h1
    have hcap := ho5.cap
    have hset : ∀ u u' : List Value, (vs ++ u :: rows).set vs.length u' = vs ++ u' :: rows := fun u u' => by simp
    have hget : ∀ u : List Value, (vs ++ u :: rows).getD vs.length [] = u := fun u => by simp [List.getD_eq_getElem?_getD]
    have hgs : ∀ b ∈ [g], b ∈ s5.blk := by simp [Sl.blk, hag]
    have hfm : ((t.kids.take t.kids.length).map T.depth).foldr max 0 + 1 = t.depth := by
      have hde := T.depth_eq t; rw [List.take_of_length_le (Nat.le_refl _)]; omega
    have hdb := T.depth_size t
    have hln : l.n = vs.length := hn
    refine ⟨⟨by omega, by omega⟩, ⟨by omega, by omega⟩, ⟨g, 0, none⟩, hag, g, vs.length * 15 + 1, 38, cur, by rw [hln]; simp [Addr.add_lit], hg5, by omega, by simp, fun w6 hC6 hB6 => ?_⟩
    have ho6 := ho5.put (o := 1) (us := [.int .i64 ((s5.n : Int) - (l.n : Int))]) hag hg5 (j := vs.length) (by simp) (by simp) hB6
    rw [hset, hget] at ho6
    have e6 : (s5.n : Int) - (l.n : Int) = ((t.size : Nat) : Int) := by omega
    rw [e6] at ho6
    have ho6' : Own (B1 :: A) w6 s5 15 38 (vs ++ rc ⟨par, dep, pl, t⟩ a sa sk t.size 0 :: rows) := ho6
    refine ⟨⟨by omega, by omega⟩, ⟨by omega, by omega⟩, ⟨g, 0, none⟩, hag, g, vs.length * 15 + 3, 38, _, by rw [hln]; simp [Addr.add_lit], hB6, by rw [putAt_len]; omega, by simp, fun w7 hC7 hB7 => ?_⟩
    have ho7 := ho6'.put (o := 3) (us := [.int .i64 (((((t.kids.take t.kids.length).map T.depth).foldr max 0 : Nat) : Int) + 1)]) hag hB6 (j := vs.length) (by simp) (by simp) hB7
    rw [hset, hget] at ho7
    have e7 : ((((t.kids.take t.kids.length).map T.depth).foldr max 0 : Nat) : Int) + 1 = ((t.depth : Nat) : Int) := by omega
    rw [e7] at ho7
    have ho7' : Own (B1 :: A) w7 s5 15 38 (vs ++ rc ⟨par, dep, pl, t⟩ a sa sk t.size t.depth :: rows) := ho7
    have ha7 : Own [] w7 a 2 47 (t.attrs.map ac) := (ha5.keep hC6 fun b hb hm => (ho5.apart ha5 (by decide)) b (hgs b hm) hb).keep hC7 fun b hb hm => (ho5.apart ha5 (by decide)) b (hgs b hm) hb
    refine ⟨(hC5.more' hC6 fun b hb => hb5 b (hgs b hb)).more' hC7 fun b hb => hb5 b (hgs b hb), s5, rc ⟨par, dep, pl, t⟩ a sa sk t.size t.depth :: rows, rfl, ho7'.less (fun b hb => List.mem_cons_of_mem _ hb), hb5, ?_⟩
    have hR7 := (hR5.keep ho5 hC6 hgs).keep ho6' hC7 hgs
    rw [T.ents_eq]
    refine ⟨by rw [List.length_cons, List.length_cons, hR7.1], fun i e u he hu => ?_⟩
    cases i with
    | zero =>
      simp only [List.getElem?_cons_zero, Option.some.injEq] at he hu
      subst he; subst hu
      exact ⟨a, sa, sk, rfl, ha7⟩
    | succ i =>
      rw [List.getElem?_cons_succ] at he hu
      exact hR7.2 i e u he hu

/-- Chapter 7's items of a tree. -/
def RItems (w : World) (s : Sl) (t : T) : Prop := ∃ rows : List (List Value), Own [] w s 15 38 rows ∧ RIs w t.flat rows
theorem RItems.ext {w w' : World} {s : Sl} {t : T} (h : RItems w s t) (c : Ext w w') : RItems w' s t := by
  obtain ⟨rows, h1, h2⟩ := h
  exact ⟨rows, h1.ext c, h2.ext c⟩
theorem RItems.len {w : World} {s : Sl} {t : T} (h : RItems w s t) : s.n = t.size := by
  obtain ⟨rows, h1, h2⟩ := h
  rw [h1.len, h2.1, T.flat_len]
theorem refFlat0 {X : List Nat} {t : T} (hb : t.bulk ≤ 400000000) {w : World} {sa sk : Sl} (hr : RdT X w t sa sk) :
    Calls Try.prog 11 #[tv t sa sk] w (Ret fun v w' => Ext w w' ∧ ∃ s : Sl, v = s.v ∧ RItems w' s t ∧ ∀ b ∈ s.blk, w.heap.size ≤ b) := by
  refine ref07_Flat.ok _ _ _ _ _ ?_
  unfold ref07_Flat.vc
  intro w1 B hN hE
  have hsz := T.size_bulk t
  have hcall := refFlat t (A := []) (vs := []) (-1) 0 0 (hr.ext hE) (Own.nil _ _ _ _) (by simp) (by simp [Sl.own, Sl.nil]) (by simp; omega) (by omega) (by omega)
  refine CallK.chg hcall (by simp [Sl.own, Sl.nil]) ?_
  rintro v w2 hC ⟨s, rows, rfl, ho, hbl, hR⟩
  have hC' : Ext w1 w2 := hC.mono (by simp [Sl.own, Sl.nil])
  refine ⟨s, rfl, hE.trans hC', s, rfl, ⟨rows, by simpa using ho, hR⟩, fun b hb => ?_⟩
  rcases hbl b hb with h | h
  · simp [Sl.own, Sl.nil] at h
  · exact Nat.le_trans hE.size h

end Go.Proofs.Yteohbfaechfliaa
