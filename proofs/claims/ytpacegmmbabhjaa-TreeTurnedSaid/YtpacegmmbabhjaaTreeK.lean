/-
  The laws of chapter 5: TreeTurned.
-/
import Derived.Test.YtpacegmmbabhjaaTreeH
import Derived.Test.YtpacegmmbabhjaaTreeS
import Derived.Test.YtpacegmmbabhjaaGlaw05TreeTurned
namespace Go.Proofs.Ytpacegmmbabhjaa
open Go.RowKit

def hop : T := .node 3 [] [104, 111, 112] [] []

theorem mem_zip_tc {c : List Value} : ∀ {ts : List T} {ps : List (Sl × Sl)}, c ∈ List.zipWith tc ts ps → ∃ t p, c = tc t p
  | [], _, h => by simp at h
  | _ :: _, [], h => by simp at h
  | t :: ts, p :: ps, h => by
    simp only [List.zipWith_cons_cons, List.mem_cons] at h
    rcases h with rfl | h
    · exact ⟨t, p, rfl⟩
    · exact mem_zip_tc h
theorem ones_zip {ts : List T} {ps : List (Sl × Sl)} : ∀ u ∈ (List.zipWith tc ts ps).flatten, u.oneCell' = true := by
  intro u hu
  obtain ⟨c, hc, hu⟩ := List.mem_flatten.1 hu
  obtain ⟨t, p, rfl⟩ := mem_zip_tc hc
  exact ones_tc t p u (by simpa using hu)

theorem treeTurnedLaw {w : World} {l : Sl} {zs : List Int} (hl : Row [] w l 1 (zs.map ic)) (at_ : Int) :
    Calls Try.prog 9 #[l.v, .int .i64 at_] w (Ret fun v w' => Ext w w' ∧ v = .bool true) := by
  refine law05_TreeTurned.ok _ _ ?_
  unfold law05_TreeTurned.vc
  refine CallK.ext (lawGrownT hl) ?_
  rintro v w1 hE1 ⟨us, sk, rfl, hNur, hG⟩
  have hbk := hG.bulk
  have hfew := hG.few
  have hul := len_sizes us
  have hra : RdT [] w1 (grownT us) Sl.nil sk := (hNur.rd (k := 1) (n := []) (x := []) (Row.nil _ _ _)).less (by simp)
  have hcp := hra.caps
  simp only [maxLen] at hcp
  have hn : sk.n = us.length := hra.nkids
  refine ⟨_, _, _, _, sk, rfl, fun w2 B2 hN2 hE2 => CallK.ext (lawTree _ (by omega) (hra.ext hE2)) ?_⟩
  rintro v w3 hE3 ⟨sb, skb, rfl, hrb⟩
  have hnb : skb.n = us.length := hrb.nkids
  have hj0 : 0 ≤ at_.emod ((us.length : Int) + 1) := Int.emod_nonneg _ (by omega)
  have hj1 : at_.emod ((us.length : Int) + 1) < (us.length : Int) + 1 := Int.emod_lt_of_pos _ (by omega)
  refine ⟨_, _, _, sb, skb, rfl, ⟨by omega, by omega⟩, fun w4 B4 hN4 hE4 => ?_⟩
  have hpl := place (w := w4) at_ ((us.length : Int) + 1) (by omega) (by omega)
  rw [hnb]
  generalize at_.emod ((us.length : Int) + 1) = jz at hj0 hj1 hpl
  obtain ⟨k, rfl⟩ := Int.eq_ofNat_of_zero_le hj0
  have hk : k ≤ us.length := by omega
  have hE14 := ((hE2.trans hE3).trans hE4)
  refine CallK.exact hpl fun w5 hE5 => ⟨(k : Int), rfl, CallK.ext (lawTree _ (by omega) (hra.ext (hE14.trans hE5))) ?_⟩
  rintro v w6 hE6 ⟨sc, skc, rfl, hrc⟩
  refine ⟨_, _, _, sc, skc, rfl, fun w7 B7 hN7 hE7 => ⟨⟨by omega, by omega⟩, ⟨by omega, by omega⟩, ?_⟩⟩
  rw [Int.toNat_natCast]
  -- all three as they are read from here on
  have hE16 := (hE14.trans hE5).trans hE6
  have ha6 : RdT [] w6 (grownT us) Sl.nil sk := hra.ext hE16
  have hb6 : RdT [] w6 (grownT us) sb skb := (hrb.less (by simp)).ext ((hE4.trans hE5).trans hE6)
  have hc6 : Row [] w6 sc 2 (([] : List (Str × Str)).map ac) := (hrc.less (A' := []) (by simp)).attrs
  obtain ⟨ps, hpl', hkr, hkids⟩ : ∃ ps : List (Sl × Sl), ps.length = us.length ∧ Row [] w6 sk 5 (List.zipWith tc us ps) ∧ ∀ (i : Nat) (t : T) (p : Sl × Sl), us[i]? = some t → ps[i]? = some p → RdT [] w6 t p.1 p.2 := by
    cases ha6 with | mk ps ha hl hk h => exact ⟨ps, hl, hk, h⟩
  have hzl : (List.zipWith tc us ps).length = us.length := by simp [hpl']
  have hones := ones_zip (ts := us) (ps := ps)
  have hzk : ((List.zipWith tc us ps).take k).length = k := by rw [List.length_take, hzl]; omega
  have hzd : ((List.zipWith tc us ps).drop k).length = us.length - k := by rw [List.length_drop, hzl]
  have honesT : ∀ k, ∀ u ∈ ((List.zipWith tc us ps).take k).flatten, u.oneCell' = true := fun k u hu => by
    obtain ⟨c, hc, hu⟩ := List.mem_flatten.1 hu
    exact hones u (List.mem_flatten.2 ⟨c, List.mem_of_mem_take hc, hu⟩)
  have honesD : ∀ k, ∀ u ∈ ((List.zipWith tc us ps).drop k).flatten, u.oneCell' = true := fun k u hu => by
    obtain ⟨c, hc, hu⟩ := List.mem_flatten.1 hu
    exact hones u (List.mem_flatten.2 ⟨c, List.mem_of_mem_drop hc, hu⟩)
  have hsz7 := hE7.size
  have h41 := hN2.lt
  have h42 := hN4.lt
  have h43 := hN7.lt
  have hs3 := hE3.size
  have hs4 := hE4.size
  have hs56 := (hE5.trans hE6).size
  have hbx : ∀ b ∈ [B2, B4, B7], b ∈ List.range w7.heap.size := by
    intro b hb; simp at hb; rw [List.mem_range]
    rcases hb with rfl | rfl | rfl <;> omega
  refine ⟨fun r w' => Own (List.range w7.heap.size) w' r 5 26 ((List.zipWith tc us ps).take k), fun r w' w'' hE h => h.ext hE, fun w' hE' => ?_, ?_⟩
  · have hcut := ((hkr.ext (hE7.trans hE')).cut 0 k sk.c (by omega) (by omega) (by omega) (by omega))
    rw [List.drop_zero, Nat.sub_zero] at hcut
    by_cases hk0 : k = 0
    · subst hk0
      exact ⟨_, _, append_none (P := Try.prog) (s := Sl.nil) (x := sk.cut 5 0 0 sk.c) Try.underlying24 ti_26 (Nat.le_refl _) rfl, Chg.refl _ _, Sl.nil, rfl, Own.nil _ _ _ _⟩
    · obtain ⟨s', w'', hr, ho, hc, _⟩ := append_app (P := Try.prog) (A := List.range w7.heap.size) (w := w') (s := Sl.nil) (ty := 24) (vs := []) Try.underlying24 ti_26 rfl (by decide)
        (.inl (Own.nil _ _ _ _)) (fun b hb => by have := List.mem_range.1 hb; have := hE'.size; omega) hcut (honesT k) (by intro e; rw [e] at hzk; simp at hzk; omega) (by rw [hzk]; simp [maxLen]; omega) (by rw [hzk]; simp; omega)
      exact ⟨_, _, hr, hc, s', rfl, ho⟩
  intro w8 r8 B8 hE8 ho8 hB8 hbox8 _
  have hs8 := hE8.size
  have hx8 : Row [] w8 (Sl.mk (some ⟨B8, 0, none⟩) 1 1) 5 [tc hop (Sl.nil, Sl.nil)] := Row.one hbox8 (by simp)
  have hl8 : r8.n = k := by have := ho8.len; simp [hpl'] at this; omega
  refine App.runK Try.underlying24 ti_26 rfl (by decide) (.inl ho8) (fun b hb => by have := List.mem_range.1 hb; omega) hx8 (ones_tc hop _) (by simp) (by simp [maxLen]; omega) (by simp; omega) hbx fun r9 w9 ho9 hC9 _ => ⟨r9, rfl, fun w10 hE10 => ?_⟩
  have hE69 : Ext w6 w9 := Chg.fresh (hE7.trans hE8) hC9 fun b hb => by have := ho8.tail b hb; simp at this; omega
  have hE610 := hE69.trans hE10
  have ho10 := ho9.ext hE10
  have hs10 := hE610.size
  have hs910 := hE10.size
  have hs89 := hC9.size
  have hl9 : r9.n = k + 1 := by have := ho9.len; simp [hpl'] at this; omega
  have hcut : Row [] w10 (sk.cut 5 k sk.n sk.c) 5 ((List.zipWith tc us ps).drop k) := by
    have := (hkr.ext hE610).cut k sk.n sk.c (by omega) (by omega) (by omega) (by omega)
    rwa [List.take_of_length_le (by simp [hpl']; omega)] at this
  -- the tree c as it stands then
  let cT : T := grownT (us.take k ++ [hop] ++ us.drop k)
  have key : ∀ {r : Sl} {w' : World}, Ext w6 w' → Own (List.range w7.heap.size) w' r 5 26 ((List.zipWith tc us ps).take k ++ [tc hop (Sl.nil, Sl.nil)] ++ (List.zipWith tc us ps).drop k) → RdT [] w' cT sc r := fun {r w'} hE ho => by
    refine .mk (ps.take k ++ [(Sl.nil, Sl.nil)] ++ ps.drop k) (hc6.ext hE) (by simp [hpl']) ?_ (fun i t p ht hp => ?_)
    · have e : List.zipWith tc (us.take k ++ [hop] ++ us.drop k) (ps.take k ++ [(Sl.nil, Sl.nil)] ++ ps.drop k) = (List.zipWith tc us ps).take k ++ [tc hop (Sl.nil, Sl.nil)] ++ (List.zipWith tc us ps).drop k := by
        rw [List.zipWith_append (by simp [hpl']), List.zipWith_append (by simp [hpl']), List.take_zipWith, List.drop_zipWith]; rfl
      rw [e]; exact ho.row.less (by simp)
    · rcases Nat.lt_trichotomy i k with hi | hi | hi
      · rw [List.append_assoc, List.getElem?_append_left (by simp; omega), List.getElem?_take_of_lt hi] at ht hp
        exact (hkids i t p ht hp).ext hE
      · subst hi
        rw [List.append_assoc, List.getElem?_append_right (by simp; omega), show i - (us.take i).length = 0 by simp; omega] at ht
        rw [List.append_assoc, List.getElem?_append_right (by simp [hpl']; omega), show i - (ps.take i).length = 0 by simp [hpl']; omega] at hp
        simp at ht hp; subst ht; subst hp
        exact RdT.nil _ _ _ _ _
      · rw [List.getElem?_append_right (by simp; omega)] at ht
        rw [List.getElem?_append_right (by simp [hpl']; omega)] at hp
        rw [show i - (us.take k ++ [hop]).length = i - (k + 1) by simp; omega, List.getElem?_drop] at ht
        rw [show i - (ps.take k ++ [(Sl.nil, Sl.nil)]).length = i - (k + 1) by simp [hpl']; omega, List.getElem?_drop] at hp
        exact (hkids _ t p ht hp).ext hE
  have hcz : cT.size = (grownT us).size + 1 := by
    rw [T.size_eq, T.size_eq (grownT us)]
    have h1 : (us.map T.size).sum = ((us.take k).map T.size).sum + ((us.drop k).map T.size).sum := by
      conv => lhs; rw [← List.take_append_drop k us]
      rw [List.map_append, List.sum_append]
    have h2 : hop.size = 1 := by simp [T.size_eq, hop, T.kids]
    simp only [cT, grownT, T.kids, List.map_append, List.sum_append, List.map_cons, List.map_nil, List.sum_cons, List.sum_nil, h1, h2]; omega
  have hne : grownT us ≠ cT := fun e => by rw [← e] at hcz; omega
  have hcb : cT.bulk ≤ 2000 := by
    have h1 : (us.map T.bulk).sum = ((us.take k).map T.bulk).sum + ((us.drop k).map T.bulk).sum := by
      conv => lhs; rw [← List.take_append_drop k us]
      rw [List.map_append, List.sum_append]
    have h2 : hop.bulk = 4 := by simp [T.bulk_eq, hop, T.kids, T.name, T.text, T.attrs]
    rw [T.bulk_eq] at hbk ⊢
    simp only [cT, grownT, T.kids, T.name, T.text, T.attrs, List.map_append, List.sum_append, List.map_cons, List.map_nil, List.sum_cons, List.sum_nil, h1, h2, List.length_nil] at hbk ⊢; omega
  obtain ⟨r11, w11, hrun, hnt, hs11, hE11, ho11⟩ : ∃ r11 w11, (Builtin.append_ #[24, 24] 24 #[Sl.v r9, Sl.v (sk.cut 5 k sk.n sk.c)]).run Try.prog w10 = .ok (Sl.v r11) w11 ∧ NoTouch [B2, B4, B7] w10 w11 ∧ w10.heap.size ≤ w11.heap.size ∧ Ext w6 w11 ∧
      Own (List.range w7.heap.size) w11 r11 5 26 ((List.zipWith tc us ps).take k ++ [tc hop (Sl.nil, Sl.nil)] ++ (List.zipWith tc us ps).drop k) := by
    by_cases hkn : k = us.length
    · have e := append_none (P := Try.prog) (w := w10) (s := r9) (x := sk.cut 5 k sk.n sk.c) (t := 24) (ty := 24) Try.underlying24 ti_26 ho10.cap (by simp [Sl.cut]; omega)
      refine ⟨_, _, e, fun _ _ _ => rfl, Nat.le_refl _, hE610, ?_⟩
      rw [List.drop_eq_nil_of_le (by omega), List.append_nil]; exact ho10
    · obtain ⟨v, w11, hrun, hnt, hs11, r11, rfl, hE11, ho11⟩ := App.runK (bx := [B2, B4, B7]) (K := fun v w' => ∃ r : Sl, v = r.v ∧ Ext w6 w' ∧ Own (List.range w7.heap.size) w' r 5 26 ((List.zipWith tc us ps).take k ++ [tc hop (Sl.nil, Sl.nil)] ++ (List.zipWith tc us ps).drop k)) (ty := 24) Try.underlying24 ti_26 rfl (by decide) (.inl ho10) (fun b hb => by have := List.mem_range.1 hb; omega) hcut (honesD k) (by intro e; rw [e] at hzd; simp at hzd; omega) (by rw [hzd]; simp only [maxLen]; omega) (by rw [hzd]; omega) hbx
        fun r11 w11 ho11 hC11 _ => ⟨r11, rfl, Chg.fresh hE610 hC11 fun b hb => by have := ho10.tail b hb; simp at this; omega, ho11⟩
      exact ⟨r11, w11, hrun, hnt, hs11, hE11, ho11⟩
  refine ⟨_, _, hrun, hnt, hs11, r11, rfl, fun w12 hC12 => ?_⟩
  have hE612 : Ext w6 w12 := Chg.fresh hE11 hC12 (by simpa using hN7.ge)
  have ho12 := ho11.chg hC12 (by simpa using h43)
  have hc12 := key hE612 ho12
  have ha12 := ha6.ext hE612
  have hb12 := hb6.ext hE612
  have hsm := cmp_small (grownT us) cT
  have hsm2 := cmp_small cT (grownT us)
  have hanti := T.cmp_anti (grownT us) cT
  have hz0 : T.cmp (grownT us) (grownT us) = 0 := (T.cmp_zero _ _).2 rfl
  have hz1 : T.cmp (grownT us) cT ≠ 0 := fun e => hne ((T.cmp_zero _ _).1 e)
  have hcb' : cT.bulk ≤ 1099511627776 := by omega
  have hab' : (grownT us).bulk ≤ 1099511627776 := by omega
  have hzb := T.size_bulk (grownT us)
  have hzb2 := T.size_bulk cT
  refine ⟨T.cmp (grownT us) cT, fun w' hE' => treeCompare (grownT us) cT (ha12.ext hE') (hc12.ext hE'), T.cmp cT (grownT us), fun w' hE' => treeCompare cT (grownT us) (hc12.ext hE') (ha12.ext hE'), fun w13 hE13 =>
    ⟨_, fun w' hE' => treeSame (grownT us) (grownT us) ((ha12.ext hE13).ext hE') ((hb12.ext hE13).ext hE'), _, fun _ w' hE' => treeCompare (grownT us) (grownT us) ((ha12.ext hE13).ext hE') ((hb12.ext hE13).ext hE'), _, fun _ w' hE' => treeSame (grownT us) cT ((ha12.ext hE13).ext hE') ((hc12.ext hE13).ext hE'), fun _ => ⟨by omega, by omega⟩,
      _, fun _ w' hE' => treeSize cT hcb' ((hc12.ext hE13).ext hE'), _, fun _ w' hE' => treeSize (grownT us) hab' ((ha12.ext hE13).ext hE'), fun _ => ⟨by omega, by omega⟩, true, fun _ w' _ => treeAwake w', fun w14 hE14 => ⟨(hE1.trans hE16).trans (hE612.trans (hE13.trans hE14)), ?_⟩⟩⟩
  rw [hz0, decide_eq_false hz1, decide_eq_true hz1]
  have e1 : T.cmp (grownT us) cT = 0 - T.cmp cT (grownT us) := by omega
  have e2 : ((cT.size : Nat) : Int) = ((grownT us).size : Int) + 1 := by omega
  rw [decide_eq_true e1, decide_eq_true e2]; rfl

end Go.Proofs.Ytpacegmmbabhjaa
