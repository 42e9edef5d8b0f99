/-
  The laws of chapter 25: SlotsGone.
-/
import Derived.Test.YteohbfaechfliaaSltG
import Derived.Test.YteohbfaechfliaaGref05
import Derived.Test.YteohbfaechfliaaGlaw25SlotsGone
namespace Go.Proofs.Yteohbfaechfliaa
open Go.RowKit Go.MapKept

theorem refSizeG {A : List Nat} : ∀ t : T, t.bulk ≤ 1099511627776 → ∀ {w : World} {sa sk : Sl}, RdT A w t sa sk →
    Calls Try.prog 15 #[tv t sa sk] w (Ret fun v w' => Ext w w' ∧ v = .int .i64 (t.size : Int)) := T.ind' fun t ih hb w sa sk h => by
  refine ref05_Size.ok _ _ _ _ _ ?_
  unfold ref05_Size.vc
  have hn := h.nkids
  have hcp := h.caps
  have hl := T.kids_len t
  intro w1 B1 _ hE1
  refine ⟨fun n i w2 => ∃ k : Nat, i = (k : Int) ∧ k ≤ t.kids.length ∧ n = ((1 + ((t.kids.take k).map T.size).sum : Nat) : Int) ∧ Ext w w2, fun _ i _ => t.kids.length - i.toNat, ⟨0, rfl, Nat.zero_le _, by simp, hE1⟩, ?_⟩
  rintro _ _ w2 ⟨k, rfl, hk, rfl, hE⟩
  refine ⟨fun hi => ?_, fun hi => ⟨hE, ?_⟩⟩
  · have hk' : k < t.kids.length := by omega
    obtain ⟨p, sa', sk', hp, _, hc, hr⟩ := (h.ext hE).kid hk'
    rw [Int.toNat_natCast]
    have hm := getD_mem (d := T.nul) hk'
    have hs := sum_take T.size hk'
    have hsl := sum_take_le T.size t.kids (k + 1)
    have ht := T.size_eq t
    have htb := T.size_bulk t
    refine ⟨⟨by omega, hi⟩, p, hp, _, _, _, sa', sk', hc, CallK.exact (ih _ hm (by have := T.kid_bulk hm; omega) hr) fun w4 hE4 => ⟨_, rfl, ⟨by omega, by omega⟩, ⟨by omega, by omega⟩, ⟨k + 1, by omega, by omega, by omega, hE.trans hE4⟩, by dsimp only; omega⟩⟩
  · have hkl : k = t.kids.length := by omega
    subst hkl
    rw [List.take_of_length_le (Nat.le_refl _), T.size_eq t]

/-- Chapter 7's own kids. -/
theorem refKids {w : World} {a : Sl} {t : T} (h : RItems w a t) (hb : t.size ≤ 1000000000) {j : Nat} (hj : j < t.size) :
    Calls Try.prog 17 #[a.v, .int .i64 (j : Int)] w (Ret fun v w' => Ext w w' ∧ ∃ s : Sl, v = s.v ∧ Own (List.range w.heap.size) w' s 1 3 ((t.kidsAt j).map nc)) := by
  obtain ⟨rows, ho, hr⟩ := h
  have hn := ho.len
  have hrl := hr.1
  rw [T.flat_len] at hrl
  rw [hrl] at hn
  have hend := t.zAt_end hj
  refine ref07_Kids.ok _ _ ?_
  unfold ref07_Kids.vc
  obtain ⟨p, hp⟩ : ∃ p, a.a = some p := by
    obtain ⟨p, hp, _⟩ := ho.row.at_ j (by omega)
    exact ⟨p, hp⟩
  have hpb : p.block ∈ a.blk := by simp [Sl.blk, hp]
  have size : ∀ w', Ext w w' → ∀ k, k < t.size → w'.cell? ((p.add (k * 15)).add 1) = some (.int .i64 (t.zAt k : Int)) := fun w' hE k hk => by
    have := (ho.ext hE).row.cells1 (i := k) (by omega) hp
    obtain ⟨u, hu⟩ : ∃ u, rows[k]? = some u := ⟨_, List.getElem?_eq_getElem (by omega)⟩
    obtain ⟨a', sa', sk', rfl, _⟩ := hr.2 k _ u (t.flat_get hk) hu
    rw [List.getD_eq_getElem?_getD, hu] at this
    exact this 1 _ rfl
  refine ⟨⟨by omega, by omega⟩, fun s k w' => ∃ (k' f : Nat) (us : List Nat), k = (k' : Int) ∧ j < k' ∧ t.size ≤ f + k' ∧ Own (List.range w.heap.size) w' s 1 3 (us.map nc) ∧ us ++ kidLoop t.zAt (j + t.zAt j) f k' = t.kidsAt j ∧ us.length ≤ k' ∧ k' ≤ t.size ∧ Ext w w', fun _ k _ => t.size - k.toNat,
    ⟨j + 1, t.size, [], by omega, by omega, by omega, Own.nil _ _ _ _, rfl, by simp, by omega, Chg.refl _ _⟩, ?_⟩
  rintro s _ w2 ⟨k, f, us, rfl, hjk, hf, hO, hus, hul, hks, hE⟩
  refine ⟨⟨by omega, by omega⟩, p, hp, (t.zAt j : Int), size w2 hE j hj, ⟨by omega, by omega⟩, fun hlt w3 B hN hE3 hB => ?_, fun hge => ?_⟩
  · have hk : k < t.size := by omega
    have hzk := t.zAt_end hk
    have hun := hO.len
    rw [List.length_map] at hun
    obtain ⟨f', rfl⟩ : ∃ f', f = f' + 1 := by
      cases f with
      | zero => exact absurd hf (by omega)
      | succ f => exact ⟨f, rfl⟩
    rw [kidLoop, if_pos (by omega)] at hus
    have hbox : Box w3 B 3 (nc k) := hB
    refine App.runK Try.underlying22 ti_3 rfl (by decide) (.inl (hO.ext hE3)) (fun b hb => Nat.lt_of_lt_of_le (List.mem_range.1 hb) (hE.trans hE3).size) (Own.one (A := []) hbox (by simp)).row (ones_nc _) (by simp) (by simp only [maxLen, List.length_singleton]; omega) (by simp only [List.length_singleton]; omega) (by simp) fun s' w4 ho4 hC4 hb4 => ?_
    have hE4 : Ext w w4 := Chg.fresh (hE.trans hE3) hC4 (fun b hb => by have := (hO.blk b (Sl.own_blk hb)).1; simp at this; exact this)
    refine ⟨s', rfl, ⟨by omega, by omega⟩, p, hp, (t.zAt k : Int), size w4 hE4 k hk, ⟨by omega, by omega⟩, ⟨k + t.zAt k, f', us ++ [k], by omega, by omega, by omega, by rw [List.map_append]; exact ho4, by rw [List.append_assoc]; exact hus, by simp; omega, by omega, hE4⟩, ?_⟩
    dsimp only; omega
  · refine ⟨hE, s, rfl, ?_⟩
    have : us = t.kidsAt j := by
      rw [← hus]
      cases f with
      | zero => simp [kidLoop]
      | succ f => rw [kidLoop, if_neg (by omega)]; simp
    rw [← this]; exact hO

def bareT : T := .node 1 [] [] [] []
theorem bareT_facts : bareT.bulk ≤ 400000000 ∧ bareT.size = 1 ∧ bareT.check = true ∧ bareT.flat = [⟨-1, 0, 0, bareT⟩] := by
  have hs : bareT.size = 1 := by simp [bareT, T.size_eq, T.kids]
  have hd : bareT.depth = 1 := by simp [bareT, T.depth_eq, T.kids]
  refine ⟨by simp [bareT, T.bulk_eq, T.kids, T.name, T.text, T.attrs], hs, ?_, ?_⟩
  · unfold T.check; rw [hs, hd]
    simp only [bareT, T.kind, T.name, T.text, T.attrs, kidsOk, T.kids, List.all_nil]
    rfl
  · unfold T.flat
    simp [T.ents_eq, bareT, T.kids, kidsE_nil]
theorem bareT_nd : bareT.nd 0 = ⟨-1, 0, 0, bareT⟩ ∧ bareT.kidsAt 0 = [] := by
  have h1 : bareT.nd 0 = ⟨-1, 0, 0, bareT⟩ := by unfold T.nd; rw [bareT_facts.2.2.2]; rfl
  have h2 : bareT.zAt 0 = 1 := by unfold T.zAt; rw [bareT_facts.2.2.2]; exact bareT_facts.2.1
  refine ⟨h1, ?_⟩
  unfold T.kidsAt
  rw [bareT_facts.2.1, h2]
  simp [kidLoop]
theorem T.nd_zero (t : T) : t.nd 0 = ⟨-1, 0, 0, t⟩ := by
  unfold T.nd
  rw [List.getD_eq_getElem?_getD, t.flat_zero]; rfl
theorem T.zAt_zero (t : T) : t.zAt 0 = t.size := by
  have := congrArg (fun e : En => e.t.size) t.nd_zero
  exact this
theorem T.kidsAt_ne {t : T} (h : 2 ≤ t.size) : t.kidsAt 0 ≠ [] := by
  unfold T.kidsAt
  rw [t.zAt_zero]
  obtain ⟨n, hn⟩ : ∃ n, t.size = n + 1 := ⟨t.size - 1, by omega⟩
  rw [hn, kidLoop, if_pos (by omega)]
  simp
def onePs : List (Int × Int) := [(0, 0)]
theorem onePs_toF (i : Int) : toF onePs i = if i = 0 then some 0 else none := by
  by_cases h : i = 0
  · subst h; rfl
  · rw [if_neg h]
    show (match (none : Option Int) with | some j => some j | none => if (0 : Int) = i then some 0 else none) = none
    rw [if_neg (fun e => h e.symm)]
theorem onePs_num {k : Int} (h : k ≠ 0) : num onePs k = -2 - k := by
  unfold num
  have e : onePs.map swapP = onePs := rfl
  rw [e, onePs_toF, if_neg h]
theorem chk_one {x y : T} (hx : x.check = true) (hy : y.check = true) (hk : x.kind = y.kind) (hn : x.name = y.name) : chkP x y onePs = true := by
  have h1 := T.size_pos x
  have h2 := T.size_pos y
  unfold chkP
  rw [hx, hy]
  simp only [onePs, chkL, Int.toNat_zero, T.nd_zero]
  simp [hk, hn]; omega
theorem slots_tb {us : List T} : (slotsOf (grownT us) bareT onePs).length = (grownT us).size ∧ (∀ i, i < (grownT us).size → (slotsOf (grownT us) bareT onePs).getD i sv0 = if i = 0 then ⟨false, false, [], [], -1, []⟩ else ⟨true, false, [], [], 0, []⟩) := by
  refine ⟨by simp [slotsOf], fun i hi => ?_⟩
  unfold slotsOf
  rw [List.getD_eq_getElem?_getD]
  simp only [List.getElem?_map, List.getElem?_range hi, Option.map_some, Option.getD_some]
  unfold slotOf
  rw [onePs_toF]
  by_cases h : i = 0
  · subst h
    simp only [Int.toNat_zero, Int.natCast_zero, if_true, T.nd_zero, bareT_nd.2]
    simp [grownT, bareT, T.text, T.attrs, setOf, unsetOf]
  · rw [if_neg (by omega), if_neg h]
theorem slots_bt {us : List T} : slotsOf bareT (grownT us) onePs = [⟨false, false, [], [], -1, (kidsZ (grownT us) 0).map fun k => -2 - k⟩] := by
  unfold slotsOf
  rw [bareT_facts.2.1]
  show [slotOf _ _ _ 0] = _
  unfold slotOf
  rw [show ((0 : Nat) : Int) = 0 from rfl, onePs_toF, if_pos rfl]
  simp only [Int.toNat_zero, T.nd_zero]
  have hk : ((grownT us).kidsAt 0).map (fun k : Nat => num onePs (k : Int)) = (kidsZ (grownT us) 0).map fun k => -2 - k := by
    unfold kidsZ
    rw [List.map_map]
    exact List.map_congr_left fun k hk => by
      have := ((grownT us).kidsAt_lt (T.size_pos _) k hk).1
      exact onePs_num (by omega)
  rw [hk]
  simp [grownT, bareT, T.text, T.attrs, setOf, unsetOf]

theorem slotsGoneLaw {w : World} {l : Sl} {zs : List Int} (hl : Row [] w l 1 (zs.map ic)) :
    Calls Try.prog 4 #[l.v] w (Ret fun v w' => Ext w w' ∧ v = .bool true) := by
  refine law25_SlotsGone.ok _ ?_
  unfold law25_SlotsGone.vc
  refine CallK.ext (lawGrownT hl) ?_
  rintro v w1 hE1 ⟨us, sk, rfl, hN, hG⟩
  have hbulk := hG.bulk
  have hchk := hG.check
  have hrd : RdT [] w1 (grownT us) Sl.nil sk := (hN.less (by simp)).rd (k := 1) (n := []) (x := []) (ats := []) (Row.nil _ _ _)
  have hs2 : 2 ≤ (grownT us).size := by
    rw [T.size_eq]
    have h1 := len_sizes us
    have h2 : us.length ≠ 0 := fun h => hG.ne (List.length_eq_zero_iff.1 h)
    simp only [grownT, T.kids]; omega
  have hkne := T.kidsAt_ne hs2
  obtain ⟨b1, b2, b3, _⟩ := bareT_facts
  obtain ⟨s1, s2⟩ := slots_tb (us := us)
  have s3 := slots_bt (us := us)
  have c1 := chk_one hchk b3 rfl rfl
  have c2 := chk_one b3 hchk rfl rfl
  clear hN
  refine ⟨1, [], [], Sl.nil, sk, rfl, fun w2 B1 B2 B3 hB1 hB2 hB3 _ _ _ hE2 hbox => ?_⟩
  have hsz := T.size_bulk (grownT us)
  have hrd2 : RdT [] w2 (grownT us) Sl.nil sk := hrd.ext hE2
  have hbr : ∀ w', RdT [] w' bareT Sl.nil Sl.nil := fun w' => RdT.nil _ _ _ _ _
  have hps : Row [] w2 (Sl.mk (some ⟨B3, 0, none⟩) 1 1) 2 (onePs.map pc) := (Own.one (A := []) (cs := pc (0, 0)) hbox (by simp)).row
  refine CallK.ext (slotsOfC (A := []) (o := grownT us) (x := bareT) (ps := onePs) hrd2 (hbr _) hps (by omega) (by omega) (by simp [onePs])) ?_
  rintro v w3 hE3 hv
  rcases hv with ⟨h, _⟩ | ⟨_, s, rfl, hS⟩
  · rw [c1] at h; cases h
  refine ⟨s, 0, rfl, fun w4 B4 hB4 hE4 hbox4 => ?_⟩
  have hps4 : Row [] w4 (Sl.mk (some ⟨B4, 0, none⟩) 1 1) 2 (onePs.map pc) := (Own.one (A := []) (cs := pc (0, 0)) hbox4 (by simp)).row
  refine CallK.ext (slotsOfC (A := []) (o := bareT) (x := grownT us) (ps := onePs) (hbr _) (hrd2.ext (hE3.trans hE4)) hps4 (by omega) (by omega) (by simp [onePs])) ?_
  rintro v w5 hE5 hv
  rcases hv with ⟨h, _⟩ | ⟨_, u, rfl, hU⟩
  · rw [c2] at h; cases h
  rw [s3] at hU
  have hS5 := hS.ext (hE4.trans hE5)
  have hrd5 := (hrd2.ext (hE3.trans hE4)).ext hE5
  have hE05 := (((hE1.trans hE2).trans hE3).trans hE4).trans hE5
  have hsl := hS5.len
  have hul := hU.len
  rw [s1] at hsl
  simp only [List.length_singleton] at hul
  refine ⟨u, 0, rfl, ((grownT us).size : Int), fun _ => refSizeG (grownT us) (by omega) hrd5, fun w6 hE6 => ?_⟩
  obtain ⟨p, se, un, ki, hp, hc, _, _, o3⟩ := (hS5.ext hE6).at (i := 0) (by omega)
  rw [s2 0 (by omega), if_pos rfl] at hc o3
  have hkn := o3.len
  simp only [List.map_nil, List.length_nil] at hkn
  have t0 : touched (grownT us) (slotsOf (grownT us) bareT onePs) 0 = true := by
    unfold touched
    rw [if_neg (by omega), Int.toNat_zero, s2 0 (by omega), if_pos rfl]
    have : kidsZ (grownT us) 0 ≠ [] := by unfold kidsZ; simpa using hkne
    simp [Ne.symm this]
  refine ⟨p, fun _ => ⟨⟨by omega, by omega⟩, hp⟩, false, fun _ => hc 0 _ rfl, p, fun _ => ⟨⟨by omega, by omega⟩, hp⟩, ki, fun _ => hc 5 _ rfl, true, fun _ => ?_, fun w7 hE7 => ⟨fun hbad => ?_, fun _ => ?_⟩⟩
  · have := slotsTouched (hrd5.ext hE6) (hS5.ext hE6) (by omega) 0
    rw [t0] at this
    exact this
  · rcases hbad with (((((h | h) | h) | h) | h) | h) | h
    · exact absurd rfl h
    · exact absurd rfl h
    · omega
    · omega
    · cases h
    · omega
    · cases h
  have hE57 := hE6.trans hE7
  refine ⟨fun i w' => ∃ k : Nat, i = (k : Int) ∧ 1 ≤ k ∧ k ≤ (grownT us).size ∧ Ext w5 w', fun i _ => (grownT us).size - i.toNat, ⟨1, rfl, by omega, by omega, hE57⟩, ?_⟩
  rintro _ w8 ⟨k, rfl, hk1, hk2, hE8⟩
  refine ⟨fun hi => ?_, fun hi => ?_⟩
  · have hk' : k < (grownT us).size := by omega
    obtain ⟨p, se, un, ki, hp, hc, _, _, o3⟩ := (hS5.ext hE8).at (i := k) (by omega)
    rw [s2 k hk', if_neg (by omega)] at hc o3
    have hkn := o3.len
    simp only [List.map_nil, List.length_nil] at hkn
    have tk : touched (grownT us) (slotsOf (grownT us) bareT onePs) (k : Int) = false := by
      unfold touched
      rw [if_neg (by omega), Int.toNat_natCast, s2 k hk', if_neg (by omega)]
      rfl
    refine ⟨⟨by omega, hi⟩, p, hp, true, hc 0 _ rfl, false, fun _ => ?_, fun w9 hE9 => ⟨p, fun _ => ⟨⟨by omega, hi⟩, hp⟩, 0, fun _ => (hc.ext hE9) 4 _ rfl, p, fun _ => ⟨⟨by omega, hi⟩, hp⟩, ki, fun _ => (hc.ext hE9) 5 _ rfl, fun hbad => ?_, fun _ => ⟨⟨by omega, by omega⟩, ⟨k + 1, by omega, by omega, by omega, hE8.trans hE9⟩, by dsimp only; omega⟩⟩⟩
    · have := slotsTouched (hrd5.ext hE8) (hS5.ext hE8) (by omega) (k : Int)
      rw [tk] at this
      exact this
    · rcases hbad with ((h | h) | h) | h
      · cases h
      · cases h
      · exact absurd rfl h
      · omega
  refine CallK.ext (refFlat0 (X := []) (t := grownT us) (by omega) (hrd5.ext hE8)) ?_
  rintro v w9 hE9 ⟨rf, rfl, hRI, _⟩
  refine ⟨rf, rfl, ?_⟩
  have hkc := refKids (t := grownT us) hRI (by omega) (j := 0) (by omega)
  refine CallK.ext hkc ?_
  rintro v w10 hE10 ⟨ks, rfl, hK⟩
  rw [kidsZ_nc] at hK
  have hE510 := (hE8.trans hE9).trans hE10
  obtain ⟨p, se, un, ki, hp, hc, _, _, o3⟩ := (hU.ext hE510).at (i := 0) (by simp)
  simp only [List.getD_cons_zero] at hc o3
  have hkn := o3.len
  have hksn := hK.len
  simp only [List.length_map] at hkn hksn
  refine ⟨ks, rfl, ⟨by omega, by omega⟩, p, hp, ki, hc 5 _ rfl, p, fun _ => ⟨⟨by omega, by omega⟩, hp⟩, -1, fun _ => hc 4 _ rfl, p, fun _ => ⟨⟨by omega, by omega⟩, hp⟩, false, fun _ => hc 0 _ rfl, fun hbad => ?_, fun _ => ?_⟩
  · rcases hbad with (h | h) | h
    · omega
    · exact absurd rfl h
    · cases h
  have hkb := T.kidsAt_len (grownT us) (j := 0) (by omega)
  have hkl : (kidsZ (grownT us) 0).length = ((grownT us).kidsAt 0).length := by simp [kidsZ]
  refine ⟨fun i w' => ∃ k : Nat, i = (k : Int) ∧ k ≤ (kidsZ (grownT us) 0).length ∧ Ext w10 w', fun i _ => (kidsZ (grownT us) 0).length - i.toNat, ⟨0, rfl, by omega, Chg.refl _ _⟩, ?_⟩
  rintro _ w11 ⟨k, rfl, hk, hE11⟩
  refine ⟨fun hi w12 hE12 => ?_, fun hi => ?_⟩
  · have hk' : k < (kidsZ (grownT us) 0).length := by omega
    have hE1012 := hE11.trans hE12
    obtain ⟨pk, hpk, _⟩ := (o3.ext hE1012).row.at_ k (by simp; omega)
    obtain ⟨pr, hpr, _⟩ := (hK.ext hE1012).row.at_ k (by simp; omega)
    have r1' := (o3.ext hE1012).row.cells1 (i := k) (by simp; omega) hpk
    have r2' := (hK.ext hE1012).row.cells1 (i := k) (by simp; omega) hpr
    obtain ⟨z, hz⟩ : ∃ z, (kidsZ (grownT us) 0)[k]? = some z := ⟨_, List.getElem?_eq_getElem hk'⟩
    have e1 : ((List.map (fun k => -2 - k) (kidsZ (grownT us) 0)).map zc).getD k [] = zc (-2 - z) := by simp [List.getD_eq_getElem?_getD, hz]
    have e2 : ((kidsZ (grownT us) 0).map zc).getD k [] = zc z := by simp [List.getD_eq_getElem?_getD, hz]
    rw [e1] at r1'
    rw [e2] at r2'
    have hzb : 0 ≤ z ∧ z < (grownT us).size := by
      have hm := List.mem_of_getElem? hz
      unfold kidsZ at hm
      obtain ⟨y, hy, rfl⟩ := List.mem_map.1 hm
      have := (grownT us).kidsAt_lt (T.size_pos _) y hy
      omega
    refine ⟨p, ⟨⟨by omega, by omega⟩, hp⟩, ki, (hc.ext hE1012) 5 _ rfl, pk, ⟨⟨by omega, by omega⟩, hpk⟩, -2 - z, r1' 0 _ rfl, pr, ⟨⟨by omega, by omega⟩, hpr⟩, z, r2' 0 _ rfl, ⟨by omega, by omega⟩, fun hne => absurd rfl hne, fun _ => ⟨⟨by omega, by omega⟩, fun w13 hE13 => ⟨⟨k + 1, by omega, by omega, hE1012.trans hE13⟩, by dsimp only; omega⟩⟩⟩
  have t1 : touched bareT [⟨false, false, [], [], -1, (kidsZ (grownT us) 0).map fun k => -2 - k⟩] 0 = true := by
    unfold touched
    rw [if_neg (by rw [b2]; simp), Int.toNat_zero]
    simp [kidsZ, bareT_nd.2, hkne]
  have htc := slotsTouched (t := bareT) (hbr w11) (hU.ext (hE510.trans hE11)) (by omega) 0
  rw [t1] at htc
  refine CallK.exact htc fun w12 hE12 => ⟨true, rfl, true, fun _ => slotsAwake w12, fun w13 hE13 => ⟨(((hE05.trans hE510).trans hE11).trans hE12).trans hE13, rfl⟩⟩

end Go.Proofs.Yteohbfaechfliaa
