/-
  The laws of chapter 25: SlotsAttrs.
-/
import Derived.Test.YteohbfaechfliaaQSlotsAttrs3
import Derived.Test.YteohbfaechfliaaQSlotsAttrsGlaw25SlotsAttrs
namespace Go.Proofs.Yteohbfaechfliaa
open Go.RowKit Go.MapKept
theorem names_nodup : ∀ {l : List (Str × Str)} {last : Str}, attrsOk last l = true → (l.map (·.1)).Nodup
 |[], _, _ => by simp
 |p :: r, last, h => by
  obtain ⟨h1, h2⟩ := attrsOk_step h
  rw [List.map_cons, List.nodup_cons]
  refine ⟨fun hm => ?_, names_nodup h2⟩
  obtain ⟨q, hq, e⟩ := List.mem_map.1 hm
  have := attrsOk_all h2 q hq
  rw [(cmpS_zero _ _).2 e.symm] at this
  omega
theorem had_iff (l : List (Str × Str)) (nm : Str) : (attrGet l nm).2 = true ↔ nm ∈ l.map (·.1) := by
 rw [attrGet_any, List.any_eq_true]
 simp only [decide_eq_true_eq, List.mem_map]
theorem filter_both {α : Type} (f : α → Bool) : ∀ l : List α, (l.filter f).length + (l.filter fun x => !f x).length = l.length
 |[] => rfl
 |x :: r => by
  have ih := filter_both f r
  cases h : f x <;> simp [List.filter_cons, h] <;> omega
theorem names_count {a b : List (Str × Str)} (ha : (a.map (·.1)).Nodup) (hb : (b.map (·.1)).Nodup) : a.length + (b.filter fun p => !(attrGet a p.1).2).length = b.length + (unsetOf a b).length := by
 have h1 := filter_both (fun p : Str × Str => (attrGet b p.1).2) a
 have h2 := filter_both (fun p : Str × Str => (attrGet a p.1).2) b
 have f : ∀ (l : List (Str × Str)) (p : Str × Str), decide (p.1 ∈ l.map (·.1)) = (attrGet l p.1).2 := fun l p => by
  rw [Bool.eq_iff_iff, decide_eq_true_iff, had_iff]
 have hp : ((a.map (·.1)).filter fun n => decide (n ∈ b.map (·.1))).Perm ((b.map (·.1)).filter fun n => decide (n ∈ a.map (·.1))) :=
  (List.perm_ext_iff_of_nodup (ha.filter _) (hb.filter _)).2 fun n => by
   rw [List.mem_filter, List.mem_filter, decide_eq_true_iff, decide_eq_true_iff]; exact and_comm
 have h3 := hp.length_eq
 rw [List.filter_map, List.filter_map, List.length_map, List.length_map] at h3
 have e1 : (a.filter ((fun n => decide (n ∈ b.map (·.1))) ∘ (·.1))) = a.filter fun p => (attrGet b p.1).2 := List.filter_congr fun p _ => f b p
 have e2 : (b.filter ((fun n => decide (n ∈ a.map (·.1))) ∘ (·.1))) = b.filter fun p => (attrGet a p.1).2 := List.filter_congr fun p _ => f a p
 rw [e1, e2] at h3
 unfold unsetOf
 rw [List.length_map]
 omega
theorem set_new (a b : List (Str × Str)) : ((setOf a b).filter fun p => !(attrGet a p.1).2) = b.filter fun p => !(attrGet a p.1).2 := by
 unfold setOf
 rw [List.filter_filter]
 refine List.filter_congr fun p _ => ?_
 unfold setKeep
 cases (attrGet a p.1).2 <;> simp
theorem toF_of_mem {x y : T} : ∀ {ps : List (Int × Int)} {last : Int} {seen : List Int}, chkL x y last ps seen = true → ∀ p ∈ ps, toF ps p.1 = some p.2
 |q :: r, last, seen, h, p, hp => by
  have hr : chkL x y q.1 r (q.2 :: seen) = true := by
   rw [chkL] at h
   simp only [Bool.and_eq_true] at h
   exact h.2
  rw [toF]
  rcases List.mem_cons.1 hp with rfl | hp
  ·have : toF r p.1 = none := by
    cases e : toF r p.1 with
    |none => rfl
    |some j =>
     have := chkL_gt r p.1 _ hr _ (toF_mem e)
     simp only at this
     omega
   rw [this]
   exact if_pos rfl
  ·rw [toF_of_mem hr p hp]
theorem slotsAttrsLaw {w : World} {l m : Sl} {zs ms : List Int} (hl : Row [] w l 1 (zs.map ic)) (hm : Row [] w m 1 (ms.map ic)) :
  Calls Try.prog 3 #[l.v, m.v] w (Ret fun v w' => Ext w w' ∧ v = .bool true) := by
 refine law25_SlotsAttrs.ok _ _ ?_
 unfold law25_SlotsAttrs.vc
 refine CallK.ext (lawGrownT hl) ?_
 rintro v w1 hE1 ⟨us, sk, rfl, hN, hG⟩
 have ha1 : RdT [] w1 (grownT us) Sl.nil sk := (hN.less (A' := []) (by simp)).rd (Row.nil _ _ _)
 have hba := hG.bulk
 have hca := hG.check
 refine ⟨_, _, _, Sl.nil, sk, rfl, fun w2 B2 hN2 hE2 => ?_⟩
 have hE02 := hE1.trans hE2
 refine CallK.ext (lawTurned (ha1.ext hE2) (hm.ext hE02) (by omega) hca) ?_
 rintro v w3 hE3 ⟨b, sb, tb, rfl, hb3, hcb, hbb⟩
 refine ⟨_, _, _, sb, tb, rfl, fun w4 B4 hN4 hE4 => ?_⟩
 have hb3' : RdT [] w3 b sb tb := hb3.less (by simp)
 have hE24 := hE3.trans hE4
 refine CallK.ext (refMatch ((ha1.ext hE2).ext hE24) (hb3'.ext hE4) (by omega) hbb hca hcb) ?_
 rintro v w5 hE5 ⟨p, ps, rfl, hp, hck, hpl⟩
 refine ⟨p, rfl, fun w6 hE6 => ?_⟩
 have hp6 : Row [] w6 p 2 (ps.map pc) := ((hp.less (A' := []) (by simp)).row).ext hE6
 have ha6 := (((ha1.ext hE2).ext hE24).ext hE5).ext hE6
 have hb6 := ((hb3'.ext hE4).ext hE5).ext hE6
 have hE06 := ((hE02.trans hE24).trans hE5).trans hE6
 change RdT [] w6 (grownT us) Sl.nil sk at ha6
 generalize grownT us = a at hba hca hck ha6
 refine ⟨fun s w' => RItems w' s a, fun _ _ _ hE h => h.ext hE, fun w' hE => ?_, fun s w' => RItems w' s b, fun _ _ _ hE h => h.ext hE, fun w' hE => ?_, ?_⟩
 ·refine Ret.mono (refFlatB (t := a) (by omega) ha6 hE) ?_
  rintro v w'' ⟨h1, s, rfl, h2⟩
  exact ⟨h1, s, rfl, h2.to⟩
 ·refine Ret.mono (refFlatB (t := b) hbb hb6 hE) ?_
  rintro v w'' ⟨h1, s, rfl, h2⟩
  exact ⟨h1, s, rfl, h2.to⟩
 intro w7 x y hE7 hx hy
 refine CallK.ext (slotsOfC (ha6.ext hE7) (hb6.ext hE7) (hp6.ext hE7) (by omega) hbb (by omega)) ?_
 intro v w8 hE8 hv
 rcases hv with ⟨hf, _⟩ | ⟨_, s, rfl, hS⟩
 ·rw [hck] at hf; cases hf
 have hx8 := hx.ext hE8
 have hy8 := hy.ext hE8
 have hp8 := (hp6.ext hE7).ext hE8
 have hE08 := (hE06.trans hE7).trans hE8
 obtain ⟨hxn, px, hpx, hxc⟩ := hx8.at
 obtain ⟨hyn, py, hpy, hyc⟩ := hy8.at
 have hSn := hS.len
 have hsl : (slotsOf a b ps).length = a.size := by simp [slotsOf]
 have hpn := hp8.len
 rw [List.length_map] at hpn
 have sza := T.size_bulk a
 have szb := T.size_bulk b
 have hvals := chkP_vals hck
 have hckl : chkL a b (-1) ps [] = true := by
  unfold chkP at hck
  simp only [Bool.and_eq_true] at hck
  exact hck.2
 refine ⟨s, 0, rfl, fun hbad => ?_, fun _ => ?_⟩
 ·rcases hbad with h | h
  ·exact absurd rfl h
  ·omega
 refine ⟨fun i w' => ∃ k : Nat, i = (k : Int) ∧ k ≤ ps.length ∧ Ext w8 w', fun i _ => ps.length - i.toNat, ⟨0, rfl, by omega, Chg.refl _ _⟩, ?_⟩
 rintro _ w9 ⟨k, rfl, hk, hE9⟩
 refine ⟨fun hi w10 hE10 => ?_, fun _ => CallK.exact (slotsAwake w9) fun w10 hE10 => ⟨true, rfl, (hE08.trans hE9).trans hE10, rfl⟩⟩
 have hk' : k < ps.length := by omega
 have hE810 := hE9.trans hE10
 obtain ⟨pp, hpp, hpc⟩ := (hp8.ext hE810).pairAt hk'
 have hmem := getD_mem (d := ((0, 0) : Int × Int)) hk'
 have htF := toF_of_mem hckl _ hmem
 have hvk := hvals _ hmem
 generalize ps.getD k (0, 0) = pr at hpc hmem htF hvk
 obtain ⟨i, j⟩ := pr
 simp only at htF hvk
 obtain ⟨i, rfl⟩ : ∃ i' : Nat, i = (i' : Int) := ⟨i.toNat, by omega⟩
 obtain ⟨j, rfl⟩ : ∃ j' : Nat, j = (j' : Int) := ⟨j.toNat, by omega⟩
 have hia : i < a.size := by omega
 have hjb : j < b.size := by omega
 have hla := check_attrs hca hia
 have hlb := check_attrs hcb hjb
 obtain ⟨up, kids, hvv⟩ : ∃ up kids, (slotsOf a b ps).getD i sv0 = ⟨false, decide ((a.nd i).t.text ≠ (b.nd j).t.text), setOf (a.nd i).t.attrs (b.nd j).t.attrs, unsetOf (a.nd i).t.attrs (b.nd j).t.attrs, up, kids⟩ := by
  refine ⟨(slotOf a b ps i).up, (slotOf a b ps i).kids, ?_⟩
  ·have e : (slotsOf a b ps).getD i sv0 = slotOf a b ps i := by simp [slotsOf, List.getD_eq_getElem?_getD, hia]
   rw [e]
   unfold slotOf
   rw [htF]
   rfl
 have hxcAll := fun w' hE => hxc w' hE i hia
 have hycAll := fun w' hE => hyc w' hE j hjb
 obtain ⟨aa, _, _, hxcell, hOa⟩ := hxcAll w10 hE810
 obtain ⟨ab, _, _, hycell, hOb⟩ := hycAll w10 hE810
 have lla := attrs_le a (by omega) hia
 have llb := attrs_le b hbb hjb
 generalize (a.nd i).t.attrs = la at hla hvv hOa lla
 generalize (b.nd j).t.attrs = lb at hlb hvv hOb llb
 have hpc' : ∀ w', Ext w10 w' → Cells w' (pp.add (k * 2)) (pc ((i : Int), (j : Int))) := fun w' hE => hpc.chg hE (by simp)
 have hrange : (0 : Int) ≤ (k : Int) ∧ (k : Int) < (p.n : Int) := ⟨by omega, by omega⟩
 refine ⟨pp, ⟨hrange, hpp⟩, (i : Int), hpc 0 _ rfl, px, ⟨⟨by omega, by omega⟩, hpx⟩, aa, by rw [Addr.add_add _ 5 3]; exact hxcell 8 _ rfl, pp, ⟨hrange, hpp⟩, (j : Int), hpc 1 _ rfl, py, ⟨⟨by omega, by omega⟩, hpy⟩, ab, by rw [Addr.add_add _ 5 3]; exact hycell 8 _ rfl, hrange, pp, hpp, fun w11 hE11 => ?_⟩
 obtain ⟨ps1, se, un, ki, hps1, hsc, hse, hun, _⟩ := (hS.ext (hE810.trans hE11)).at (i := i) (by omega)
 rw [hvv] at hsc hse hun
 simp only at hse hun
 refine ⟨(i : Int), hpc' w11 hE11 0 _ rfl, ⟨by omega, by omega⟩, ps1, hps1, _, _, se, un, _, ki, hsc, fun w12 B12 hN12 hE12 => ?_⟩
 have hRa : ∀ w', Ext w12 w' → Row [] w' aa 2 (la.map ac) := fun w' hE => hOa.row.ext ((hE11.trans hE12).trans hE)
 have hRb : ∀ w', Ext w12 w' → Row [] w' ab 2 (lb.map ac) := fun w' hE => hOb.row.ext ((hE11.trans hE12).trans hE)
 have hRs : ∀ w', Ext w12 w' → Row [] w' se 2 ((setOf la lb).map ac) := fun w' hE => hse.row.ext (hE12.trans hE)
 have hRu : ∀ w', Ext w12 w' → Row [] w' un 1 ((unsetOf la lb).map wc) := fun w' hE => hun.row.ext (hE12.trans hE)
 have llu : (unsetOf la lb).length ≤ 1000000000 := by unfold unsetOf; rw [List.length_map]; exact Nat.le_trans (List.length_filter_le _ _) lla
 have na := hOa.row.len
 have nb := hOb.row.len
 have ns := hse.row.len
 have nu := hun.row.len
 rw [List.length_map] at na nb ns nu
 have ma := hOa.row.most
 have mca := hOa.row.cap
 have ms' := hse.row.most
 have mcs := hse.row.cap
 have mu := hun.row.most
 have mcu := hun.row.cap
 simp only [maxLen] at ma ms' mu
 have lls : (setOf la lb).length ≤ 1000000000 := Nat.le_trans (List.length_filter_le _ _) llb
 have hcount := names_count (names_nodup hla) (names_nodup hlb)
 rw [← set_new] at hcount
 have hflen : ∀ n, (((setOf la lb).take n).filter fun q => !(attrGet la q.1).2).length ≤ (setOf la lb).length := fun n => Nat.le_trans (List.length_filter_le _ _) (by simp; omega)
 refine ⟨fun n kk w' => ∃ k2 : Nat, kk = (k2 : Int) ∧ k2 ≤ (setOf la lb).length ∧ n = ((la.length + (((setOf la lb).take k2).filter fun q => !(attrGet la q.1).2).length : Nat) : Int) ∧ Ext w12 w', fun _ kk _ => (setOf la lb).length - kk.toNat, ⟨0, rfl, by omega, by simp [na], Chg.refl _ _⟩, ?_⟩
 rintro n _ w13 ⟨k2, rfl, hk2, hn, hE13⟩
 refine ⟨fun hi2 => ?_, fun hi2 => ?_⟩
 ·have hk2' : k2 < (setOf la lb).length := by omega
  have hts := filter_take_succ (fun q => !(attrGet la q.1).2) (([], []) : Str × Str) hk2'
  have hqm := getD_mem (d := (([], []) : Str × Str)) hk2'
  have hcl : ∀ w', Ext w12 w' → ∃ q, se.a = some q ∧ Cells w' (q.add (k2 * 2)) (ac ((setOf la lb).getD k2 ([], []))) := fun w' hE => (hRs w' hE).attrAt hk2'
  have hfl1 := hflen (k2 + 1)
  have hfl0 := hflen k2
  generalize (setOf la lb).getD k2 ([], []) = q at hts hqm hcl
  obtain ⟨qn, qv⟩ := q
  unfold setOf at hqm
  rw [List.mem_filter] at hqm
  have hg := attrGet_mem hlb _ hqm.1
  have hkeep := hqm.2
  simp only [setKeep] at hkeep
  simp only at hg hts
  obtain ⟨sq, hsq, hc13⟩ := hcl w13 hE13
  refine ⟨⟨by omega, by omega⟩, sq, hsq, qn, hc13 0 _ rfl, CallK.exact (refAttr (hRb w13 hE13) qn) fun w14 hE14 => ⟨_, _, rfl, ⟨by omega, by omega⟩, sq, hsq, qn, hE14.cell (hc13 0 _ rfl), CallK.exact (refAttr (hRa w14 (hE13.trans hE14)) qn) fun w15 hE15 => ?_⟩⟩
  rw [hg]
  refine ⟨_, _, rfl, sq, fun _ => ⟨⟨by omega, by omega⟩, hsq⟩, qv, fun _ => hE15.cell (hE14.cell (hc13 1 _ rfl)), fun hbad => ?_, fun _ => ⟨fun hno => ⟨⟨by omega, by omega⟩, ⟨by omega, by omega⟩, ⟨k2 + 1, by omega, by omega, ?_, (hE13.trans hE14).trans hE15⟩, by dsimp only; omega⟩, fun hyes => ⟨⟨by omega, by omega⟩, ⟨k2 + 1, by omega, by omega, ?_, (hE13.trans hE14).trans hE15⟩, by dsimp only; omega⟩⟩⟩
  ·exfalso
   rcases hbad with (h | h) | ⟨h1, h2⟩
   ·cases h
   ·exact h rfl
   ·rw [h1, h2] at hkeep; simp at hkeep
  ·rw [hts, hno, hn]; simp; omega
  ·rw [hts, hyes, hn]; simp
 ·have hkl : k2 = (setOf la lb).length := by omega
  subst hkl
  rw [List.take_length] at hn
  refine ⟨fun n kk w' => ∃ k3 : Nat, kk = (k3 : Int) ∧ k3 ≤ (unsetOf la lb).length ∧ n = ((la.length + ((setOf la lb).filter fun q => !(attrGet la q.1).2).length : Nat) : Int) - k3 ∧ Ext w12 w', fun _ kk _ => (unsetOf la lb).length - kk.toNat, ⟨0, rfl, by omega, by rw [hn]; simp, hE13⟩, ?_⟩
  rintro n3 _ w14 ⟨k3, rfl, hk3, hn3, hE14⟩
  refine ⟨fun hi3 => ?_, fun hi3 w15 hE15 => ?_⟩
  ·have hk3' : k3 < (unsetOf la lb).length := by omega
   have hum := getD_mem (d := ([] : Str)) hk3'
   obtain ⟨uq, huq, hc14⟩ := (hRu w14 hE14).wAt hk3'
   generalize (unsetOf la lb).getD k3 [] = u at hum hc14
   unfold unsetOf at hum
   obtain ⟨q, hq, rfl⟩ := List.mem_map.1 hum
   rw [List.mem_filter] at hq
   have hA : (attrGet la q.1).2 = true := (had_iff _ _).2 (List.mem_map.2 ⟨q, hq.1, rfl⟩)
   have hB : (attrGet lb q.1).2 = false := by simpa using hq.2
   refine ⟨⟨by omega, by omega⟩, uq, huq, q.1, hc14, CallK.exact (refAttr (hRb w14 hE14) q.1) fun w15 hE15 => ⟨_, _, rfl, ⟨by omega, by omega⟩, uq, huq, q.1, hE15.cell hc14, CallK.exact (refAttr (hRa w15 (hE14.trans hE15)) q.1) fun w16 hE16 => ⟨_, _, rfl, fun hbad => ?_, fun _ => ⟨⟨by omega, by omega⟩, ⟨by omega, by omega⟩, ⟨k3 + 1, by omega, by omega, by omega, (hE14.trans hE15).trans hE16⟩, by dsimp only; omega⟩⟩⟩⟩
   exfalso
   rcases hbad with h | h
   ·rw [hB] at h; cases h
   ·rw [hA] at h; cases h
  ·have hkl : k3 = (unsetOf la lb).length := by omega
   have hend : n3 = (ab.n : Int) := by omega
   have hE1015 := ((hE11.trans hE12).trans hE14).trans hE15
   have hx15 := hxcell.chg hE1015 (by simp)
   have hy15 := hycell.chg hE1015 (by simp)
   have hp15 := hpc' w15 hE1015
   refine ⟨pp, fun _ => ⟨hrange, hpp⟩, (i : Int), fun _ => hp15 0 _ rfl, px, fun _ => ⟨⟨by omega, by omega⟩, hpx⟩, (a.nd i).t.text, fun _ => by rw [Addr.add_add _ 5 2]; exact hx15 7 _ rfl, pp, fun _ => ⟨hrange, hpp⟩, (j : Int), fun _ => hp15 1 _ rfl, py, fun _ => ⟨⟨by omega, by omega⟩, hpy⟩, (b.nd j).t.text, fun _ => by rw [Addr.add_add _ 5 2]; exact hy15 7 _ rfl, fun hbad => ?_, fun _ => ⟨⟨by omega, by omega⟩, fun w16 hE16 => ⟨⟨k + 1, by omega, by omega, (hE810.trans hE1015).trans hE16⟩, by dsimp only; omega⟩⟩⟩
   exfalso
   rcases hbad with (h | h) | h
   ·exact h hend
   ·cases h
   ·simp at h
end Go.Proofs.Yteohbfaechfliaa
