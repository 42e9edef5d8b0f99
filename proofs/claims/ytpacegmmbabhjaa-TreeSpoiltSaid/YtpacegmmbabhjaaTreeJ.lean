/-
  The laws of chapter 5: TreeSpoilt.
-/
import Derived.Test.YtpacegmmbabhjaaTreeH
import Derived.Test.YtpacegmmbabhjaaGlaw05TreeSpoilt
namespace Go.Proofs.Ytpacegmmbabhjaa
open Go.RowKit

theorem putAt_right (us : List Value) : ∀ (l m : List Value) (o : Nat), putAt (l ++ m) (l.length + o) us = l ++ putAt m o us := by
  induction us with
  | nil => intro l m o; rfl
  | cons u us ih =>
    intro l m o
    rw [putAt, putAt, List.set_append_right _ _ (by omega), show l.length + o - l.length = o by omega, Nat.add_assoc, ih]
theorem putAt_left (us : List Value) : ∀ (v m : List Value) (o : Nat), o + us.length ≤ v.length → putAt (v ++ m) o us = putAt v o us ++ m := by
  induction us with
  | nil => intro v m o _; rfl
  | cons u us ih =>
    intro v m o h
    simp only [List.length_cons] at h
    rw [putAt, putAt, List.set_append_left _ _ (by omega), ih _ _ _ (by simp; omega)]
theorem putAt_len (us : List Value) : ∀ (v : List Value) (o : Nat), (putAt v o us).length = v.length := by
  induction us with
  | nil => intro v o; rfl
  | cons u us ih => intro v o; rw [putAt, ih, List.length_set]

/-- One group of an own row is written, or a part of it. -/
theorem Own.put {A : List Nat} {w w' : World} {s : Sl} {size g o j : Nat} {T : TypeId} {vs : List (List Value)} {cur us : List Value} (h : Own A w s size T vs) (ha : s.a = some ⟨g, 0, none⟩) (hb : Box w g T cur) (hj : j < vs.length) (ho : o + us.length ≤ size) (hb' : Box w' g T (putAt cur (j * size + o) us)) :
    Own A w' s size T (vs.set j (putAt (vs.getD j []) o us)) := by
  have hl := h.len
  have hv : (vs.getD j []).length = size := h.each _ (by rw [List.getD_eq_getElem?_getD, List.getElem?_eq_getElem hj]; exact List.getElem_mem hj)
  refine ⟨by rw [List.length_set]; exact hl, h.cap, h.most, fun u hu => ?_, .inr ⟨g, putAt cur (j * size + o) us, ha, ?_, hb', ?_, ?_⟩⟩
  · rcases List.mem_or_eq_of_mem_set hu with hu | hu
    · exact h.each u hu
    · rw [hu, putAt_len]; exact hv
  · rcases h.at_ with e | ⟨g', cur', h1, h2, _⟩
    · rw [e] at ha; cases ha
    · rw [ha] at h1; cases h1; exact h2
  all_goals
    rcases h.at_ with e | ⟨g', cur', h1, h2, h3, h4, h5⟩
    · rw [e] at ha; cases ha
    · rw [ha] at h1
      cases h1
      have e : cur = cur' := by unfold Box at hb h3; rw [hb] at h3; simpa using h3
      subst e
      first
      | rw [putAt_len]; exact h4
      | have hsplit : vs = vs.take j ++ vs.getD j [] :: vs.drop (j + 1) := by
          rw [List.getD_eq_getElem?_getD, List.getElem?_eq_getElem hj]
          exact (List.take_append_drop j vs).symm.trans (by rw [List.drop_eq_getElem_cons hj]; rfl)
        have hset : vs.set j (putAt (vs.getD j []) o us) = vs.take j ++ putAt (vs.getD j []) o us :: vs.drop (j + 1) := by
          rw [List.set_eq_take_append_cons_drop, if_pos hj]
        have hcur : cur = vs.flatten ++ cur.drop (s.n * size) := by rw [← h5, List.take_append_drop]
        have hjl : (vs.take j).flatten.length = j * size := by
          rw [flatten_len (vs.take j) (fun u hu => h.each u (List.mem_of_mem_take hu)), List.length_take, Nat.min_eq_left (by omega)]
        have hfl : vs.flatten = (vs.take j).flatten ++ (vs.getD j [] ++ (vs.drop (j + 1)).flatten) := by
          conv => lhs; rw [hsplit]
          rw [List.flatten_append, List.flatten_cons]
        have hlen : vs.flatten.length = s.n * size := by rw [flatten_len vs h.each, hl]
        have e1 : cur = (vs.take j).flatten ++ (vs.getD j [] ++ ((vs.drop (j + 1)).flatten ++ cur.drop (s.n * size))) := by
          conv => lhs; rw [hcur, hfl]
          simp only [List.append_assoc]
        have e2 : putAt cur (j * size + o) us = (vs.take j).flatten ++ (putAt (vs.getD j []) o us ++ ((vs.drop (j + 1)).flatten ++ cur.drop (s.n * size))) := by
          conv => lhs; rw [e1]
          rw [← hjl, putAt_right, putAt_left _ _ _ _ (by omega)]
        generalize cur.drop (s.n * size) = rest at e2
        rw [e2, hset, List.flatten_append, List.flatten_cons]
        have e3 : ((vs.take j).flatten ++ (putAt (vs.getD j []) o us ++ (vs.drop (j + 1)).flatten)).length = s.n * size := by
          rw [← hlen, hfl]; simp only [List.length_append, putAt_len]
        have e4 : (vs.take j).flatten ++ (putAt (vs.getD j []) o us ++ ((vs.drop (j + 1)).flatten ++ rest)) = ((vs.take j).flatten ++ (putAt (vs.getD j []) o us ++ (vs.drop (j + 1)).flatten)) ++ rest := by simp only [List.append_assoc]
        rw [← e3, e4, List.take_left]

theorem set_zipWith {ts : List T} {ps : List (Sl × Sl)} {j : Nat} {t : T} {p : Sl × Sl} (hl : ps.length = ts.length) : (List.zipWith tc ts ps).set j (tc t p) = List.zipWith tc (ts.set j t) (ps.set j p) := by
  induction ts generalizing ps j with
  | nil => simp
  | cons a ts ih =>
    cases ps with
    | nil => simp at hl
    | cons q ps =>
      cases j with
      | zero => simp
      | succ j => simp [ih (ps := ps) (by simpa using hl)]

/-- One tree of a nursery is written over. -/
theorem Nur.set {A : List Nat} {w : World} {s : Sl} {ts : List T} (h : Nur A w s ts) {j : Nat} (hj : j < ts.length) :
    ∃ (g : Nat) (cur : List Value) (p : Sl × Sl), s.a = some ⟨g, 0, none⟩ ∧ g ∉ A ∧ Box w g 26 cur ∧ j * 5 + 5 ≤ cur.length ∧ RdT (s.blk ++ A) w (ts.getD j T.nul) p.1 p.2 ∧
      ∀ {w1 w' : World} {o : Nat} {cells : List Value} {t' : T} {p' : Sl × Sl}, Ext w w1 → Chg [g] w1 w' → Box w' g 26 (putAt cur (j * 5 + o) cells) → o + cells.length ≤ 5 → putAt (tc (ts.getD j T.nul) p) o cells = tc t' p' → RdT (s.blk ++ A) w1 t' p'.1 p'.2 → Nur A w' s (ts.set j t') := by
  obtain ⟨ps, hl, ho, hr⟩ := h
  have hz : (List.zipWith tc ts ps).length = ts.length := by simp [hl]
  have hn := ho.len
  rcases ho.at_ with e | ⟨g, cur, h1, h2, h3, h4, h5⟩
  · rw [e] at hn; simp [Sl.nil, hl] at hn; omega
  have hp : j < ps.length := by omega
  have ht : ts[j]? = some (ts.getD j T.nul) := by rw [List.getD_eq_getElem?_getD, List.getElem?_eq_getElem hj]; rfl
  have hps : ps[j]? = some ps[j] := List.getElem?_eq_getElem hp
  have hgb : g ∈ s.blk := by simp [Sl.blk, h1]
  refine ⟨g, cur, ps[j], h1, h2, h3, ?_, hr j _ _ ht hps, ?_⟩
  · have h6 : s.n * 5 ≤ cur.length := by rw [h4]; exact Nat.mul_le_mul_right _ ho.cap
    omega
  · intro w1 w' o cells t' p' hE hC hB hle hput hrd
    have hown := (ho.ext hE).put h1 (h3.ext hE) (by rw [hz]; exact hj) hle hB
    have eg : (List.zipWith tc ts ps).getD j [] = tc (ts.getD j T.nul) ps[j] := by
      simp [List.getD_eq_getElem?_getD, hj, hp, List.getElem?_zipWith]
    rw [eg, hput, set_zipWith hl] at hown
    refine ⟨ps.set j p', by simp [hl], hown, fun i t p hti hpi => ?_⟩
    have hF : ∀ b ∈ [g], b ∈ s.blk ++ A := by simpa using .inl hgb
    by_cases hij : i = j
    · subst hij
      rw [List.getElem?_set_self hj] at hti
      rw [List.getElem?_set_self hp] at hpi
      cases hti; cases hpi
      exact hrd.chg hC hF
    · rw [List.getElem?_set_ne (fun e => hij e.symm)] at hti hpi
      exact ((hr i t p hti hpi).ext hE).chg hC hF

theorem RdT.rekind {A : List Nat} {w : World} {t : T} {sa sk : Sl} (h : RdT A w t sa sk) (k : Int) : RdT A w (.node k t.name t.text t.attrs t.kids) sa sk := by
  cases h with | mk ps ha hl hk h => exact .mk ps ha hl hk h

theorem bulk_set {us : List T} {j : Nat} (u : T) : ((us.set j u).map T.bulk).sum ≤ (us.map T.bulk).sum + u.bulk := by
  induction us generalizing j with
  | nil => simp
  | cons a r ih =>
    cases j with
    | zero => simp; omega
    | succ j => have := ih (j := j); simp only [List.set_cons_succ, List.map_cons, List.sum_cons]; omega

/-- A tree with one kid that may not be may not be. -/
theorem spoilt {us : List T} {j : Nat} (u : T) (hj : j < us.length) (hu : nodeOk u = false) : (grownT (us.set j u)).check = false := by
  have hk : kidsOk (grownT (us.set j u)) = false := by
    unfold kidsOk
    rw [List.all_eq_false]
    exact ⟨u, by show u ∈ us.set j u; exact List.mem_set hj u, by rw [hu]; simp⟩
  unfold T.check
  rw [hk, Bool.and_false]

theorem treeSpoiltLaw {w : World} {l : Sl} {zs : List Int} (hl : Row [] w l 1 (zs.map ic)) (at_ how : Int) :
    Calls Try.prog 3 #[l.v, .int .i64 at_, .int .i64 how] w (Ret fun v w' => Ext w w' ∧ v = .bool true) := by
  refine law05_TreeSpoilt.ok _ _ _ ?_
  unfold law05_TreeSpoilt.vc
  refine CallK.ext (lawGrownT hl) ?_
  rintro v w1 hE1 ⟨us, sk, rfl, hNur, hG⟩
  have hn := hNur.own
  have hbk := hG.bulk
  have hne : 0 < us.length := List.length_pos_iff.2 hG.ne
  refine ⟨_, _, _, _, sk, rfl, fun w2 B2 hN2 hE2 => ?_⟩
  have hrd : RdT (List.range w.heap.size) w2 (grownT us) Sl.nil sk := (hNur.ext hE2).rd (Row.nil _ _ _)
  refine CallK.ext (lawTree _ (by omega) hrd) ?_
  rintro v w3 hE3 ⟨sa3, sk3, rfl, hrd3⟩
  refine ⟨_, _, _, sa3, sk3, rfl, CallK.exact (treeCheck _ (by omega) hrd3) fun w4 hE4 => ⟨_, rfl, fun hbad => ?_, fun _ w5 hE5 => ?_⟩⟩
  · rw [hG.check] at hbad; cases hbad
  have hj0 : 0 ≤ at_.emod (us.length : Int) := Int.emod_nonneg _ (by omega)
  have hj1 : at_.emod (us.length : Int) < (us.length : Int) := Int.emod_lt_of_pos _ (by omega)
  have hpl := fun (w' : World) => place (w := w') at_ (sk.n : Int) (by omega) (by have := hn.2.1; have := hn.2.2.1; simp only [maxLen] at this; omega)
  have hsk : (sk.n : Int) = (us.length : Int) := by omega
  rw [hsk] at hpl
  generalize at_.emod (us.length : Int) = jz at hj0 hj1 hpl
  obtain ⟨j, rfl⟩ := Int.eq_ofNat_of_zero_le hj0
  have hj : j < us.length := by omega
  have hNur5 := ((hNur.ext hE2).ext hE3).ext (hE4.trans hE5)
  obtain ⟨g, cur, p, hga, hgA, hbox, hcl, hru, hset⟩ := hNur5.set hj
  rw [hsk]
  refine ⟨(j : Int), fun w' _ => hpl w', ⟨g, 0, none⟩, ⟨⟨by omega, by omega⟩, hga⟩, fun w6 hE6 => CallK.exact (place how 6 (by omega) (by omega)) fun w7 hE7 => ⟨_, rfl, ?_⟩⟩
  rw [Int.toNat_natCast]
  have hE57 := hE6.trans hE7
  have hE17 : Ext w1 w7 := ((((hE2.trans hE3).trans hE4).trans hE5).trans hE57)
  have hbox7 := hbox.ext hE57
  have hgw : w.heap.size ≤ g := by simpa using hgA
  have hB2g : ∀ b ∈ [B2], b ≠ g := by
    have h1 := (hn.2.2.2 g (by simp [Sl.blk, hga])).2
    have h2 := hN2.ge
    simp; omega
  have ea0 : ((⟨g, 0, none⟩ : Addr).add (j * 5)).add 0 = ⟨g, j * 5, none⟩ := by rw [Addr.add_zero', Addr.add_lit, Nat.zero_add]
  have ea : (⟨g, 0, none⟩ : Addr).add (j * 5) = ⟨g, j * 5, none⟩ := by rw [Addr.add_lit, Nat.zero_add]
  rw [ea0, ea]
  refine ⟨fun w' => Ext w w' ∧ ∃ u, nodeOk u = false ∧ u.bulk ≤ 1000 ∧ Nur (List.range w.heap.size) w' sk (us.set j u), ?_, ?_⟩
  · have hsprout := hG.each _ (getD_mem (d := T.nul) hj)
    have hub : (us.getD j T.nul).bulk ≤ 601 := by
      have h1 : (us.getD j T.nul).bulk ≤ (us.map T.bulk).sum := T.mem_sum T.bulk (getD_mem (d := T.nul) hj)
      rw [T.bulk_eq] at hbk; simp only [grownT, T.kids] at hbk; omega
    have fin : ∀ {wa w' : World} {o : Nat} {cells : List Value} {u : T} {p' : Sl × Sl}, Ext w7 wa → Chg [g] wa w' → Box w' g 26 (putAt cur (j * 5 + o) cells) → o + cells.length ≤ 5 → putAt (tc (us.getD j T.nul) p) o cells = tc u p' → RdT (sk.blk ++ List.range w.heap.size) wa u p'.1 p'.2 → nodeOk u = false → u.bulk ≤ 1000 →
        Ext w w' ∧ ∃ u, nodeOk u = false ∧ u.bulk ≤ 1000 ∧ Nur (List.range w.heap.size) w' sk (us.set j u) := fun hEa hC hB hle hput hr hno hbu =>
      ⟨Chg.fresh ((hE1.trans hE17).trans hEa) hC (by simpa using hgw), _, hno, hbu, hset (hE57.trans hEa) hC hB hle hput hr⟩
    have hru7 := hru.ext hE57
    have rek : ∀ k : Int, (T.node k (us.getD j T.nul).name (us.getD j T.nul).text (us.getD j T.nul).attrs (us.getD j T.nul).kids).bulk ≤ 1000 := fun k => by
      have : (T.node k (us.getD j T.nul).name (us.getD j T.nul).text (us.getD j T.nul).attrs (us.getD j T.nul).kids).bulk = (us.getD j T.nul).bulk := by rw [T.bulk_eq, T.bulk_eq (us.getD j T.nul)]; rfl
      omega
    have hfresh : ∀ {wa : World} {B : Nat}, New w7 B wa → B ∉ sk.blk ++ List.range w.heap.size := fun hN hm => by
      have h1 := hN.ge
      have hs := (hE1.trans hE17).size
      have hs2 := hE17.size
      rcases List.mem_append.1 hm with hm | hm
      · have := (hn.2.2.2 _ hm).2; omega
      · have := List.mem_range.1 hm; omega
    refine ⟨fun _ => ⟨g, j * 5, _, _, rfl, hbox7, by omega, hB2g, fun w8 hC hB => fin (o := 0) (u := .node 1 (us.getD j T.nul).name (us.getD j T.nul).text (us.getD j T.nul).attrs (us.getD j T.nul).kids) (p' := p) (Chg.refl _ _) hC hB (by simp) rfl (hru7.rekind 1) ?_ (rek 1)⟩, fun _ =>
      ⟨fun _ => ⟨g, j * 5, _, _, rfl, hbox7, by omega, hB2g, fun w8 hC hB => fin (o := 0) (u := .node 0 (us.getD j T.nul).name (us.getD j T.nul).text (us.getD j T.nul).attrs (us.getD j T.nul).kids) (p' := p) (Chg.refl _ _) hC hB (by simp) rfl (hru7.rekind 0) ?_ (rek 0)⟩, fun _ =>
      ⟨fun _ => ⟨g, j * 5, _, _, rfl, hbox7, by omega, hB2g, fun w8 hC hB => fin (o := 0) (u := .node 3 [] [] [] []) (p' := (Sl.nil, Sl.nil)) (Chg.refl _ _) hC hB (by simp) rfl (RdT.nil _ _ _ _ _) ?_ ?_⟩, fun _ =>
      ⟨fun _ => ⟨g, j * 5, _, _, rfl, hbox7, by omega, hB2g, fun w8 hC hB => fin (o := 0) (u := .node 2 [65] [] [] []) (p' := (Sl.nil, Sl.nil)) (Chg.refl _ _) hC hB (by simp) rfl (RdT.nil _ _ _ _ _) ?_ ?_⟩, fun _ =>
      ⟨fun _ w8 B8 hN8 hE8 hb8 => ⟨g, j * 5, _, _, rfl, hbox7.ext hE8, by omega, hB2g, fun w9 hC hB => fin (o := 0) (u := .node 2 [97] [] [([121], []), ([120], [])] []) (p' := (Sl.mk (some ⟨B8, 0, none⟩) 2 2, Sl.nil)) hE8 hC hB (by simp) rfl ?_ ?_ ?_⟩, fun _ w8 B8 hN8 hE8 hb8 =>
        ⟨g, j * 5, _, _, rfl, hbox7.ext hE8, by omega, hB2g, fun w9 hC hB => fin (o := 0) (u := .node 4 [] [] [] [exA]) (p' := (Sl.nil, Sl.mk (some ⟨B8, 0, none⟩) 1 1)) hE8 hC hB (by simp) rfl ?_ ?_ ?_⟩⟩⟩⟩⟩⟩
    · rw [nodeOk_ne (by simp [T.kind])]; simp [T.kind]
    · rw [nodeOk_ne (by simp [T.kind])]; simp [T.kind]
    · rw [nodeOk_ne (by simp [T.kind])]; rfl
    · simp [T.bulk_eq, T.kids, T.name, T.text, T.attrs]
    · rw [nodeOk_el rfl, show nameOk (T.node 2 [65] [] [] []).name = false by decide +kernel]; rfl
    · simp [T.bulk_eq, T.kids, T.name, T.text, T.attrs]
    · refine .mk [] ⟨rfl, Nat.le_refl _, by simp [maxLen], fun i hi => ?_⟩ rfl (Row.nil _ _ _) (by simp)
      have hnm := hfresh hN8
      rcases i with _ | _ | i
      · exact ⟨_, rfl, hnm, by rw [Nat.zero_mul, Addr.add_zero']; exact hb8.part 0 _ rfl, rfl⟩
      · exact ⟨_, rfl, hnm, by rw [Addr.add_lit, Nat.zero_add]; exact hb8.part 2 _ rfl, rfl⟩
      · simp at hi; omega
    · rw [nodeOk_el rfl, show attrsOk [] (T.node 2 [97] [] [([121], []), ([120], [])] []).attrs = false by decide +kernel]; simp
    · simp [T.bulk_eq, T.kids, T.name, T.text, T.attrs, T.abulk]
    · exact .mk [(Sl.nil, Sl.nil)] (Row.nil _ _ _) rfl (Row.one hb8 (hfresh hN8)) (fun i t p ht hp => by
        cases i with
        | zero => simp at ht hp; subst ht; subst hp; exact exA_rd
        | succ i => simp at ht)
    · rw [nodeOk_ne (by simp [T.kind])]; rfl
    · simp [T.bulk_eq, T.kids, T.name, T.text, T.attrs, exA]
  · rintro w8 ⟨hE8, u, hno, hbu, hN8⟩
    have hb8 : (grownT (us.set j u)).bulk ≤ 1099511627776 := by
      have h1 := bulk_set (us := us) (j := j) u
      rw [T.bulk_eq] at hbk ⊢
      simp only [grownT, T.kids, T.name, T.text, T.attrs] at hbk ⊢
      omega
    have hrd8 : RdT (List.range w.heap.size) w8 (grownT (us.set j u)) Sl.nil sk := hN8.rd (Row.nil _ _ _)
    refine CallK.exact (treeCheck _ hb8 hrd8) fun w9 hE9 => ⟨_, rfl, true, fun _ => treeAwake w9, fun w10 hE10 => ⟨(hE8.trans hE9).trans hE10, ?_⟩⟩
    rw [spoilt u hj hno]; rfl

end Go.Proofs.Ytpacegmmbabhjaa
