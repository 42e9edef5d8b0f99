/-
  What the proof of the statement leans on: texts one behind the other.
-/
import Derived.Test.YtghmgfkdnolcdaaGreatQApplyAll3
import Derived.Test.YtghmgfkdnolcdaaGreatQApplyAll2
import Derived.Test.YtghmgfkdnolcdaaGreatQApplyAll0
import Derived.Test.YtghmgfkdnolcdaaGreatQApplyAllGapply
import Derived.Test.YtghmgfkdnolcdaaGreatQApplyAllGlaw23awake
import Derived.Test.YtghmgfkdnolcdaaGreatQApplyAllGlaw23few
import Derived.Test.YtghmgfkdnolcdaaGreatQApplyAllGref22
import Derived.Test.YtghmgfkdnolcdaaGreatQApplyAllGref23
import Derived.Test.YtghmgfkdnolcdaaGreatQApplyAllGlib
import Derived.Test.YtghmgfkdnolcdaaGreatQApplyAllGlaw23ApplyAll
import Derived.DataReads
import Derived.ChangeArms
import Derived.Laws.MakeOwn
namespace Go.Proofs.YtghmgfkdnolcdaaGreat
section
open Go.RowKit
theorem refDepthP {A : List Nat} : ∀ t : T, t.size ≤ 1099511627776 → ∀ {w : World} {sa sk : Sl}, RdT A w t sa sk →
  Calls Tryz.prog 75 #[tv t sa sk] w (Ret fun v w' => Ext w w' ∧ v = .int .i64 (t.depth : Int)) := T.ind' fun t ih hb w sa sk h => by
 refine ref05_Depth.ok _ _ _ _ _ ?_
 unfold ref05_Depth.vc
 have hn := h.nkids
 have hcp := h.caps
 have ht := T.size_eq t
 have hl : t.kids.length ≤ t.size := by
  have := len_sizes t.kids; omega
 intro w1 B1 _ hE1
 refine ⟨fun n i w2 => ∃ k : Nat, i = (k : Int) ∧ k ≤ t.kids.length ∧ n = ((((t.kids.take k).map T.depth).foldr max 0 : Nat) : Int) ∧ Ext w w2, fun _ i _ => t.kids.length - i.toNat, ⟨0, rfl, Nat.zero_le _, by simp, hE1⟩, ?_⟩
 rintro _ _ w2 ⟨k, rfl, hk, rfl, hE⟩
 refine ⟨fun hi => ?_, fun hi => ?_⟩
 ·have hk' : k < t.kids.length := by omega
  obtain ⟨p, sa', sk', hp, _, hc, hr⟩ := (h.ext hE).kid hk'
  rw [Int.toNat_natCast]
  have hm := getD_mem (d := T.nul) hk'
  have hs := max_take T.depth hk'
  have hms := T.mem_sum T.size hm
  refine ⟨⟨by omega, hi⟩, p, hp, _, _, _, sa', sk', hc, CallK.exact (ih _ hm (by omega) hr) fun w4 hE4 => ⟨_, rfl, ⟨by omega, by omega⟩, ⟨k + 1, by omega, by omega, by omega, hE.trans hE4⟩, by dsimp only; omega⟩⟩
 ·have hkl : k = t.kids.length := by omega
  subst hkl
  have h1 := T.depth_eq t
  have h2 := T.depth_size t
  rw [List.take_of_length_le (Nat.le_refl _)]
  refine ⟨⟨by omega, by omega⟩, hE, ?_⟩
  rw [h1]; congr 1; omega
section
variable {A : List Nat} {w : World} {D : Nat} {R : I}
theorem CutOf.kids {e f f0 : I × Int × Nat} {s0 : I} {i : Nat} (h : CutOf R e s0 i) (hf0 : f0 ∈ s0.all (-1) 1) (hff : f = I.insE e.2.1 i e.1 f0) : (f.1.kids.map I.id).filter (fun k => decide (k ≠ e.1.id)) = f0.1.kids.map I.id := by
 have hidn : e.1.id ∉ s0.ids := fun hm => (List.nodup_append.1 h.nodup).2.2 _ hm _ (I.id_mem e.1) rfl
 have hne : ∀ c ∈ f0.1.kids.map I.id, decide (c ≠ e.1.id) = true := fun c hc => by
  obtain ⟨u, hu, rfl⟩ := List.mem_map.1 hc
  have : u.id ≠ e.1.id := fun e3 => hidn (by rw [← e3]; exact I.mem_all (I.all_kid hf0 hu))
  simpa using this
 rw [hff]
 show ((f0.1.ins e.2.1 i e.1).kids.map I.id).filter _ = _
 by_cases hpp : f0.1.id = e.2.1
 ·rw [I.ins_here i e.1 hpp, I.mk_kids, insAt_map, insAt_filter hne (by simp)]
 ·rw [I.ins_deep i e.1 hpp, I.mk_kids, List.map_map]
  rw [show (I.id ∘ fun v => v.ins e.2.1 i e.1) = I.id from funext fun v => I.ins_id v _ _ _]
  exact filter_all hne
theorem nodMove (h : Nod A w D R) (hA : ∀ b ∈ A, b < w.heap.size) (id p at_ : Int) :
  Calls Tryz.prog 53 #[.pointer (some ⟨D, 0, none⟩), .int .i64 id, .int .i64 p, .int .i64 at_] w (Ret fun v w' => v = .int .i64 (movE R id p at_) ∧ if movE R id p at_ = 0 then Mod A w w' ∧ Nod A w' D (movR R id p at_) else Ext w w') := by
 have hR := h.okay
 obtain ⟨E, hE⟩ : ∃ E, E = movE R id p at_ := ⟨_, rfl⟩
 rw [← hE]
 have hokay : E = 0 → _ := fun e => mov_okay hR (hE.symm.trans e)
 unfold movE at hE
 have fin : ∀ {k : Int} {w' : World}, E = k → k ≠ 0 → Ext w w' → (Value.int .i64 k = .int .i64 E ∧ if E = 0 then Mod A w w' ∧ Nod A w' D (movR R id p at_) else Ext w w') := fun {k w'} e hk hx => ⟨by rw [e], by rw [if_neg (by rw [e]; exact hk)]; exact hx⟩
 refine ref06_D_Move.ok _ _ _ _ ?_
 unfold ref06_D_Move.vc
 have hd := h
 obtain ⟨l, X, h0, hp, _⟩ := h
 refine CallK.ext (nodN h0 id) fun v w1 hE1 ⟨r1, hv1, hr1⟩ => ⟨r1, hv1, CallK.ext (nodN (h0.ext hE1) p) fun v w2 hE2 ⟨r2, hv2, hr2⟩ => ⟨r2, hv2, ?_⟩⟩
 have hE02 := hE1.trans hE2
 rcases hr1.find hp hR with ⟨hf1, rfl⟩ | ⟨i, x, g, e, hi, hx, hg, rfl, he, hxr⟩
 ·refine ⟨fun _ => fin (k := 3) (by rw [hE, hf1]) (by decide) hE02, fun hb => by cases hb.1⟩
 rcases hr2.find hp hR with ⟨hf2, rfl⟩ | ⟨k, z, g2, f, hk, hz, hg2, rfl, hf, hzr⟩
 ·refine ⟨fun _ => fin (k := 3) (by rw [hE, he, hf2]) (by decide) hE02, fun hb => by cases hb.2⟩
 rw [hg] at hg2; cases hg2
 rw [he, hf] at hE
 simp only at hE
 obtain ⟨e1, e2⟩ := I.find_some he
 obtain ⟨f1, f2⟩ := I.find_some hf
 have hxm := List.mem_of_getElem? hi
 have hzm := List.mem_of_getElem? hk
 have atx : ∀ w', Ext w w' → Cells w' ⟨g, i * 8, none⟩ (ndc x) := fun w' hE' => by
  obtain ⟨g', hg', _, hc⟩ := (h0.ext hE').at hi
  rw [hg] at hg'; cases hg'; exact hc
 have atz : ∀ w', Ext w w' → Cells w' ⟨g, k * 8, none⟩ (ndc z) := fun w' hE' => by
  obtain ⟨g', hg', _, hc⟩ := (h0.ext hE').at hk
  rw [hg] at hg'; cases hg'; exact hc
 have kx : x.r.kind = e.1.kind := by rw [hxr]; rfl
 have kz : z.r.kind = f.1.kind := by rw [hzr]; rfl
 have hpar : x.r.par = e.2.1 := by rw [hxr]; rfl
 have hzk : z.r.kids = f.1.kids.map I.id := by rw [hzr]; rfl
 have ckx : ∀ w', Ext w w' → w'.cell? (((⟨g, i * 8, none⟩ : Addr).add 2).add 0) = some (.int .i64 e.1.kind) := fun w' hE' => by rw [← kx]; exact atx w' hE' 2 _ rfl
 have ckz : ∀ w', Ext w w' → w'.cell? (((⟨g, k * 8, none⟩ : Addr).add 2).add 0) = some (.int .i64 f.1.kind) := fun w' hE' => by rw [← kz]; exact atz w' hE' 2 _ rfl
 refine ⟨fun hb => (by rcases hb with hb | hb <;> cases hb), fun _ => ⟨_, rfl, e.1.kind, ckx w2 hE02, _, fun _ => nodHolds (ckz w2 hE02), fun w3 hE3 => ⟨_, fun _ => rfl, e.1.kind, fun _ => ckx w3 (hE02.trans hE3), _, fun _ => rfl, f.1.kind, fun _ => ckz w3 (hE02.trans hE3), fun hb => ?_, fun hgood => ?_⟩⟩⟩
 ·have h4 : e.1.kind = 1 ∨ I.holds f.1.kind e.1.kind = false := by
   rcases hb with (hb | hb) | hb
   ·exact .inl hb
   ·right
    unfold I.holds
    simp only [Bool.or_eq_false_iff, decide_eq_false_iff_not] at hb
    simp [hb]
   ·right; unfold I.holds; simp [hb]
  exact fin (by rw [hE, if_pos h4]) (by decide) (hE02.trans hE3)
 have hE03 := hE02.trans hE3
 have hk1 : e.1.kind ≠ 1 := hgood.1.1
 have hh : ¬ (e.1.kind = 1 ∨ I.holds f.1.kind e.1.kind = false) := by
  rintro (hb | hb)
  ·exact hk1 hb
  ·obtain ⟨⟨_, h5⟩, h6⟩ := hgood
   unfold I.holds at hb
   simp only [Bool.or_eq_true, decide_eq_true_eq] at h5
   rcases h5 with h5 | h5
   ·simp [h5] at hb
   ·rcases h6 with h6 | h6
    ·simp [h5, h6] at hb
    ·have : f.1.kind = 1 := by omega
     omega
 rw [if_neg hh] at hE
 refine CallK.exact (nodWithin (hd.ext hE03) id p) fun w4 hE4 => ⟨_, rfl, fun hb => fin (by rw [hE, if_pos hb]) (by decide) (hE03.trans hE4), fun hnw => ?_⟩
 rw [if_neg (by rw [hnw]; decide)] at hE
 have hE04 := hE03.trans hE4
 obtain ⟨s0', i0', hc'⟩ := cutOf hR e1 hk1
 have hpe : p ∉ e.1.ids := fun hm => by
  unfold within at hnw; rw [he] at hnw
  simp only [decide_eq_false_iff_not] at hnw
  exact hnw hm
 have hps' : p ∈ s0'.ids := by
  rcases (hc'.ids p).1 (f2 ▸ I.mem_all f1) with hm | hm
  ·exact hm
  ·exact absurd hm hpe
 obtain ⟨f0', hf0', hff', hf0p'⟩ := hc'.entry hR f1 (by rw [f2]; exact hps')
 have hfk := hc'.kids hf0' hff'
 rw [e2] at hfk
 have hcount : (if e.2.1 = p then (f.1.kids.length : Int) - 1 else (f.1.kids.length : Int)) = (f0'.1.kids.length : Int) := by
  have hkl : f.1.kids.length = if f0'.1.id = e.2.1 then f0'.1.kids.length + 1 else f0'.1.kids.length := by rw [hff']; exact ins_kidlen _ _ _ _
  rw [hf0p', f2] at hkl
  by_cases hq : e.2.1 = p
  ·rw [if_pos hq.symm] at hkl; rw [if_pos hq]; omega
  ·rw [if_neg (fun e => hq e.symm)] at hkl; rw [if_neg hq]; omega
 rw [hcount] at hE
 have hkf := kids_few hR f1
 have hfit := h0.fit z hzm
 refine ⟨_, fun _ => rfl, z.sk, fun _ => atz w4 hE04 7 _ rfl, fun r w' => (r.n : Int) = f0'.1.kids.length, fun _ => Ret.mono (nodWithout (w := w4) ((h0.ext hE04).sk z hzm).row hfit.2 id) fun v w' ⟨q1, r, q2, q3⟩ => ⟨q1, r, q2, ?_⟩, fun r29 w5 hE5 hV5 => ⟨fun hb => ?_, fun hgood2 => ?_⟩⟩
 ·have := q3.len
  rw [hzk, hfk, List.length_map, List.length_map] at this
  omega
 ·refine fin (k := 5) ?_ (by decide) (hE04.trans hE5)
  rw [hE, if_pos]
  by_cases hat : at_ < 0
  ·exact .inl hat
  ·rcases hb with hb | hb
   ·exact .inl hb
   ·rw [hV5 hat] at hb; exact .inr hb
 rw [hV5 hgood2.1] at hgood2
 rw [if_neg (by rintro (hb | hb); exact hgood2.1 hb; exact hgood2.2 hb)] at hE
 have hE05 := hE04.trans hE5
 have hlev : lev R p = f.2.2 := by unfold lev; rw [hf]
 have hlevb := lev_le hR p
 have hdb : e.1.toT.depth ≤ 60 := by
  have := I.depth_sub R (-1) 1 e e1
  have := (I.check_iff.1 hR.check).2.2.1
  have := I.all_ge R (-1) 1 e e1
  omega
 refine CallK.exact (nodDeep (hd.ext hE05) p) fun w6 hE6 => ⟨_, rfl, ?_⟩
 have hE06 := hE05.trans hE6
 have htr := nodSub (w := w6) e.1 (hd.ext hE06) e.2.1 e.2.2 e1
 rw [e2] at htr
 refine CallK.ext htr fun v w7 hE7 ⟨sa7, sk7, hv7, hrd7⟩ => ⟨_, _, _, sa7, sk7, hv7, ?_⟩
 have hE07 := hE06.trans hE7
 have hsz : e.1.toT.size ≤ 300 := by
  rw [I.size_ids]
  have h1 := (I.check_iff.1 hR.check).2.1
  have h3 : e.1.ids.length ≤ R.ids.length := nodup_len (I.sub_nodup R hR.nodup (-1) 1 e e1) (I.sub_ids e1)
  omega
 refine CallK.exact (refDepthP e.1.toT (by omega) hrd7) fun w8 hE8 => ⟨_, rfl, ⟨by omega, by omega⟩, fun hb => fin (by rw [hE, if_pos (by omega)]) (by decide) (hE07.trans hE8), fun hgood3 => ?_⟩
 rw [if_neg (by omega)] at hE
 have hE08 := hE07.trans hE8
 obtain ⟨e', f', s0, i0, f0, q1, q2, _, hc, hmov, hok, hps, hf0, hff, hf0p, hat0, hat1⟩ := hokay hE
 rw [he] at q1; cases q1
 rw [hf] at q2; cases q2
 have h8 := h0.ext hE08
 obtain ⟨pe, hpe2, hpid, _, _⟩ : ∃ f, R.find e.2.1 = some f ∧ f.1.id = e.2.1 ∧ f.2.2 + 1 = e.2.2 ∧ e.1 ∈ f.1.kids := by
  rcases up hR e1 with h | h
  ·rw [h] at hk1; exact absurd (I.check_iff.1 hR.check).1 hk1
  ·exact h
 obtain ⟨j, y, hj, hyr⟩ := rowOf hp (I.find_some hpe2).1
 have hyid : y.r.id = x.r.par := by rw [hyr, hxr]; exact hpid
 refine ⟨_, rfl, x.r.par, atx w8 hE08 1 _ rfl, CallK.ext (nodN h8 x.r.par) fun v w9 hE9 ⟨r9, hv9, hr9⟩ => ⟨r9, hv9, ?_⟩⟩
 have hE09 := hE08.trans hE9
 have h9 := h0.ext hE09
 obtain rfl : r9 = some ⟨g, j * 8, none⟩ := by
  rcases hr9 with ⟨hn, _⟩ | ⟨j', u, g2, hj', hu, hg2, e3⟩
  ·exact absurd hyid (hn y (List.mem_of_getElem? hj))
  ·obtain ⟨rfl, _⟩ := getNd h0.nodup hj' hj hu hyid
   rw [hg] at hg2; cases hg2; exact e3
 obtain ⟨g', hg', _, hcy⟩ := h9.at hj
 rw [hg] at hg'; cases hg'
 have hym := List.mem_of_getElem? hj
 have hfy := (h0.fit y hym).2
 have hA9 : ∀ b ∈ A, b < w9.heap.size := fun b hb => by have := hA b hb; have := hE09.size; omega
 refine ⟨_, rfl, y.sk, hcy 7 _ rfl, CallK.ext (nodWithout (w := w9) (h9.sk y hym).row hfy id) fun v w10 hE10 ⟨s', hv10, hs'⟩ => ⟨s', hv10, _, rfl, ?_⟩⟩
 have hnew := new_own hA9 hs'
 let y' : Nd := ⟨{ y.r with kids := y.r.kids.filter fun k => decide (k ≠ id) }, y.sa, s'⟩
 have hy' : y'.r = { y.r with kids := y.r.kids.filter fun k => decide (k ≠ id) } := rfl
 obtain ⟨cur, hcur, hlen, hgA, hrow⟩ := h9.rowK hj hE10 y' rfl ((h9.sa y hym).ext hE10) hnew.1 (fun b hb => .inl hb) (fun b hb => .inr (hnew.2 b hb)) ⟨(h9.fit y hym).1, Nat.le_trans (List.length_filter_le _ _) hfy⟩ hg (o := 7) (u := s'.v) (by decide) rfl
 refine ⟨g, j * 8 + 7, 80, cur, by rw [Addr.add_lit], hcur, by omega, by simp, fun w11 hC11 hB11 => ?_⟩
 obtain ⟨h11, hM11⟩ := hrow w11 hC11 hB11
 have hidn : id ∉ s0.ids := fun hm => (List.nodup_append.1 hc.nodup).2.2 _ hm _ (by rw [← e2]; exact I.id_mem e.1) rfl
 have hij : i ≠ j := fun h => by
  subst h
  have hxy : x = y := by rw [hi] at hj; exact Option.some.inj hj
  exact hidn (by rw [← hx, hxy, hyid, hpar]; exact hc.par)
 have hik : i ≠ k := fun h => by
  subst h
  have hxz : x = z := by rw [hi] at hk; exact Option.some.inj hk
  exact hidn (by rw [← hx, hxz, hz]; exact hps)
 have hi11 : (X.set j y')[i]? = some x := by rw [List.getElem?_set, if_neg (fun e => hij e.symm)]; exact hi
 have hkids := hc.kids hf0 hff
 rw [e2] at hkids
 obtain ⟨q, hq, hqid, hqk⟩ : ∃ q, (X.set j y')[k]? = some q ∧ q.r.id = p ∧ q.r.kids.length = f0.1.kids.length := by
  rw [List.getElem?_set]
  by_cases hjk : j = k
  ·subst hjk
   rw [if_pos rfl, if_pos (List.getElem?_eq_some_iff.1 hj).1]
   have hyz : y = z := by rw [hj] at hk; exact Option.some.inj hk
   refine ⟨y', rfl, by rw [hy']; show y.r.id = p; rw [hyz]; exact hz, ?_⟩
   rw [hy']
   show (y.r.kids.filter _).length = _
   rw [hyz, hzk, hkids, List.length_map]
  ·rw [if_neg hjk, hk]
   refine ⟨z, rfl, hz, ?_⟩
   have hpp : ¬ f0.1.id = e.2.1 := fun e3 => hjk (getNd h0.nodup hj hk (hyid.trans hpar) (hz.trans (hf0p.symm.trans e3))).1
   have hfk : f.1.kids.length = if f0.1.id = e.2.1 then f0.1.kids.length + 1 else f0.1.kids.length := by rw [hff]; exact ins_kidlen _ _ _ _
   rw [if_neg hpp] at hfk
   rw [hzk, List.length_map, hfk]
 obtain ⟨g', hg', hgb, hcq⟩ := h11.at hq
 rw [hg] at hg'; cases hg'
 have hqm := List.mem_of_getElem? hq
 have hA11 : ∀ b ∈ A, b < w11.heap.size := fun b hb => by have := hA9 b hb; have := hM11.size; omega
 obtain ⟨a, ha⟩ : ∃ a : Nat, at_ = (a : Int) := ⟨at_.toNat, by omega⟩
 have hat : at_.toNat = a := by omega
 rw [hat] at hmov hok
 have hkf0 := kids_few hc.okay hf0
 have hput := nodPut (w := w11) (h11.sk q hqm).row (by omega) (k := a) (by omega) id
 rw [← ha] at hput
 refine ⟨_, rfl, q.sk, hcq 7 _ rfl, CallK.ext hput fun v w12 hE12 ⟨t', hv12, ht'⟩ => ⟨t', hv12, _, rfl, ?_⟩⟩
 have hnew2 := new_own hA11 ht'
 let q' : Nd := ⟨{ q.r with kids := insAt a id q.r.kids }, q.sa, t'⟩
 obtain ⟨cur2, hcur2, hlen2, hgA2, hrow2⟩ := h11.rowK hq hE12 q' rfl ((h11.sa q hqm).ext hE12) hnew2.1 (fun b hb => .inl hb) (fun b hb => .inr (hnew2.2 b hb)) ⟨(h11.fit q hqm).1, by show (insAt _ _ _).length ≤ _; rw [insAt_len, hqk]; omega⟩ hg (o := 7) (u := t'.v) (by decide) rfl
 refine ⟨g, k * 8 + 7, 80, cur2, by rw [Addr.add_lit], hcur2, by omega, by simp, fun w13 hC13 hB13 => ?_⟩
 obtain ⟨h13, hM13⟩ := hrow2 w13 hC13 hB13
 have hi13 : ((X.set j y').set k q')[i]? = some x := by rw [List.getElem?_set, if_neg (fun e => hik e.symm)]; exact hi11
 let x' : Nd := ⟨{ x.r with par := p }, x.sa, x.sk⟩
 have hxm13 := List.mem_of_getElem? hi13
 obtain ⟨cur3, hcur3, hlen3, hgA3, hrow3⟩ := h13.rowK hi13 (Chg.refl [] w13) x' rfl (h13.sa x hxm13) (h13.sk x hxm13) (fun b hb => .inl hb) (fun b hb => .inl hb) (h13.fit x hxm13) hg (o := 1) (u := .int .i64 p) (by decide) rfl
 refine ⟨_, rfl, g, i * 8 + 1, 80, cur3, by rw [Addr.add_lit], hcur3, by omega, by simp, fun w14 hC14 hB14 => ?_⟩
 obtain ⟨h14, hM14⟩ := hrow3 w14 hC14 hB14
 refine ⟨by rw [hE], ?_⟩
 rw [if_pos hE]
 refine ⟨(((Mod.ext hE09).trans hM11).trans hM13).trans hM14, l, _, h14, ?_, by rw [hmov]; exact hok⟩
 rw [List.set_comm _ _ (fun e => hik e.symm)]
 have hx1 : ((X.set j y').map Nd.r).Perm (s0.recs (-1) ++ e.1.recs e.2.1) := by
  rw [set_recs (G := outK e.2.1 e.1.id) h0.nodup hj (by
   unfold outK
   rw [if_pos (hyid.trans hpar), hy', e2]) (fun q hq => by
   unfold outK
   rw [if_neg (by rw [← hpar, ← hyid]; exact hq)])]
  exact (hp.map _).trans hc.out
 have hx2 : (((X.set j y').set i x').map Nd.r).Perm (s0.recs (-1) ++ e.1.recs p) := by
  rw [set_recs (G := parK id p) h11.nodup hi11 (by unfold parK; rw [if_pos hx]) (fun q hq => by unfold parK; rw [if_neg (by rw [← hx]; exact hq)])]
  refine (hx1.map _).trans ?_
  rw [List.map_append]
  have t1 : (s0.recs (-1)).map (parK id p) = s0.recs (-1) := map_none (x := id) (fun r hr => by unfold parK; rw [if_neg hr]) (by rw [I.recs_id]; exact hidn)
  have t2 : (e.1.recs e.2.1).map (parK id p) = e.1.recs p := by
   have hnu := I.nodup_kids (List.nodup_append.1 hc.nodup).2.1
   rw [I.recs_eq, I.recs_eq e.1 p, List.map_cons]
   have t3 : (e.1.kids.flatMap fun u => u.recs e.1.id).map (parK id p) = e.1.kids.flatMap fun u => u.recs e.1.id := map_none (x := id) (fun r hr => by unfold parK; rw [if_neg hr]) (by
    rw [I.map_flatMap_congr (fun v _ => I.recs_id v _), ← e2]; exact hnu.1)
   rw [t3]
   unfold parK
   rw [if_pos (show (e.1.rec0 e.2.1).id = id from e2)]; rfl
  rw [t1, t2]
 have hnd2 : (((X.set j y').set i x').map fun x => x.r.id).Nodup := by rw [set_ids hi11 (x' := x') rfl]; exact h11.nodup
 have hq2 : ((X.set j y').set i x')[k]? = some q := by rw [List.getElem?_set, if_neg hik]; exact hq
 rw [set_recs (G := I.insK p a id) hnd2 hq2 (by unfold I.insK; rw [if_pos hqid]) (fun r hr => by unfold I.insK; rw [if_neg (by rw [← hqid]; exact hr)])]
 refine (hx2.map _).trans ?_
 rw [hmov, List.map_append]
 have t4 : (e.1.recs p).map (I.insK p a id) = e.1.recs p := I.insK_none (by rw [I.recs_id]; exact fun hm => (List.nodup_append.1 hc.nodup).2.2 _ hps _ hm rfl)
 rw [t4, ← e2]
 exact (I.ins_recs s0 a e.1 (-1) hc.okay.nodup hps).symm
end
end
section
open Go.RowKit Go.MapKept
def bare0 : T := .node 1 [] [] [] []
theorem bare0_check : bare0.check = true := by
 unfold T.check
 rw [T.size_eq, T.depth_eq]
 simp [bare0, T.kind, T.name, T.text, T.attrs, T.kids, kidsOk]
theorem num_bare : I.num bare0 0 = .node 0 1 [] [] [] [] := by rw [I.num_eq]; rfl
theorem bare0_rd (w : World) : RdT [] w bare0 Sl.nil Sl.nil := RdT.nil _ _ _ _ _
theorem find_top {R : I} {id k : Int} {n x : Str} {a : List (Str × Str)} {ks : List I} (h : R = .node id k n x a ks) : R.find id = some (R, -1, 1) := by
 have := I.find_root R
 rw [h] at this ⊢; exact this
theorem check_span {R : I} (hR : R.Okay) : R.toT.span ≤ 900000 := by
 obtain ⟨h1, h2, _, _, _, h6, h7⟩ := I.check_iff.1 hR.check
 have key : ∀ s : I, nodeOk s.toT = true → s.toT.slots ≤ 12 * s.toT.size := I.ind' fun s ih hs => by
  rw [T.slots_eq, T.size_eq]
  have ha : s.toT.attrs.length ≤ 12 := by
   by_cases hk : s.kind = 2
   ·have := ((I.node_el hk).1 hs).1
    simp only [Bool.and_eq_true, decide_eq_true_eq] at this
    rw [I.toT_attrs]; exact this.2.1
   ·rw [nodeOk_ne (by rw [I.toT_kind]; exact hk)] at hs
    simp only [Bool.and_eq_true, List.isEmpty_iff] at hs
    rw [hs.1.1]; simp
  have hk : (s.toT.kids.map T.slots).sum ≤ (s.toT.kids.map fun u => 12 * u.size).sum := T.sum_le _ _ _ fun u hu => by
   rw [I.toT_kids] at hu
   obtain ⟨v, hv, rfl⟩ := List.mem_map.1 hu
   refine ih v hv ?_
   by_cases hk : s.kind = 2
   ·exact (((I.node_el hk).1 hs).2 v hv).1
   ·rw [I.node_ne hk hs] at hv; cases hv
  have e : ∀ l : List T, (l.map fun u => 12 * u.size).sum = 12 * (l.map T.size).sum := fun l => by
   induction l with
   |nil => rfl
   |cons a r ih => simp only [List.map_cons, List.sum_cons, ih]; omega
  rw [e] at hk; omega
 have h8 : R.toT.slots ≤ 12 * R.toT.size := by
  rw [T.slots_eq, T.size_eq, I.toT_attrs, h6]
  have hk : (R.toT.kids.map T.slots).sum ≤ (R.toT.kids.map fun u => 12 * u.size).sum := T.sum_le _ _ _ fun u hu => by
   rw [I.toT_kids] at hu
   obtain ⟨v, hv, rfl⟩ := List.mem_map.1 hu
   exact key v (h7 v hv)
  have e : ∀ l : List T, (l.map fun u => 12 * u.size).sum = 12 * (l.map T.size).sum := fun l => by
   induction l with
   |nil => rfl
   |cons a r ih => simp only [List.map_cons, List.sum_cons, ih]; omega
  rw [e] at hk
  simp only [List.length_nil]; omega
 have h9 := I.size_ids R
 unfold T.span; omega
end
section
open Go.RowKit Go.ChangeShapes Go.WideShapes Go.ChangeAt
theorem choose_list {α : Type} {P : Nat → α → Prop} : ∀ n : Nat, (∀ i, i < n → ∃ g, P i g) → ∃ gs : List α, gs.length = n ∧ ∀ (i : Nat) (g : α), gs[i]? = some g → P i g
 |0, _ => ⟨[], rfl, by simp⟩
 |n + 1, h => by
  obtain ⟨gs, hl, hg⟩ := choose_list n (fun i hi => h i (by omega))
  obtain ⟨g, hgn⟩ := h n (by omega)
  refine ⟨gs ++ [g], by simp [hl], fun i x hx => ?_⟩
  rcases Nat.lt_or_ge i n with hi | hi
  ·rw [List.getElem?_append_left (by omega)] at hx; exact hg i x hx
  ·have hin : i = n := by
    have := (List.getElem?_eq_some_iff.1 hx).1
    simp at this; omega
   subst hin
   rw [List.getElem?_append_right (by omega), hl, Nat.sub_self] at hx
   simp at hx; subst hx; exact hgn
theorem bulk_sum {H α : Type} (b : α → Nat) : ∀ (gs : List α) (ds : List (DataW H)), gs.length = ds.length → (∀ (i : Nat) (g : α) (d : DataW H), gs[i]? = some g → ds[i]? = some d → b g ≤ Rows.uptoBulk d) → (gs.map b).sum ≤ Rows.uptoBulkAll ds
 |[], [], _, _ => Nat.zero_le _
 |g :: gs, d :: ds, hl, h => by
  have h1 := h 0 g d rfl rfl
  have h2 := bulk_sum b gs ds (by simpa using hl) (fun i g d hg hd => h (i + 1) g d (by simpa using hg) (by simpa using hd))
  simp only [List.map_cons, List.sum_cons, Rows.uptoBulkAll]; omega
theorem open_row {H α : Type} {enc : TypeId × Value → H} {P : Program} {W : World} {t e : TypeId} {size fuel : Nat} {cs : List Value} {x : DataW H × List MemPlace} (ht : P.underlying t = some (.slice e)) (hc : P.cellsOf e = size) (cf : α → List Value) (good : α → Prop) (b : α → Nat)
  (hel : ∀ m, m < fuel → ∀ cs y, cs.length = size → DataW.trod enc P W 0 (fun _ => true) true m e cs = some y → ∃ g, cs = cf g ∧ good g ∧ b g ≤ Rows.uptoBulk y.1)
  (h : DataW.trod enc P W 0 (fun _ => true) true fuel t cs = some x) :
  ∃ (s : Sl) (gs : List α), cs = [s.v] ∧ Row [] W s size (gs.map cf) ∧ (∀ g ∈ gs, good g) ∧ (gs.map b).sum + 1 ≤ Rows.uptoBulk x.1 := by
 rcases DataW.trod_slice ht h with ⟨rfl, rfl⟩ | ⟨a, len, cap, elems, rest, n, rfl, rfl, rfl, hb, hl, hm, hlen, he, _, _⟩
 ·exact ⟨Sl.nil, [], rfl, Row.nil _ _ _, by simp, by simp [Rows.uptoBulk]⟩
 ·have each : ∀ i, i < len → ∃ g : α, Cells W (a.add (i * size)) (cf g) ∧ (cf g).length = size ∧ good g ∧ ∀ d, elems[i]? = some d → b g ≤ Rows.uptoBulk d.1 := by
   intro i hi
   have h1 := he i hi
   have hlt : i < elems.length := by omega
   rw [List.getElem?_eq_getElem hlt, Option.bind_eq_some_iff, hc] at h1
   obtain ⟨cs', hcs, hy⟩ := h1
   obtain ⟨q1, q2, q3⟩ := World.cells?_some hcs
   obtain ⟨g, rfl, hg, hbg⟩ := hel n (by omega) cs' _ q2 hy
   refine ⟨g, fun j v hv => ?_, q2, hg, fun d hd => ?_⟩
   ·have hj := (List.getElem?_eq_some_iff.1 hv).1
    have := q3 j (by omega)
    rw [this]; exact hv
   ·rw [List.getElem?_eq_getElem hlt] at hd
    cases hd; exact hbg
  obtain ⟨gs, hgl, hgs⟩ := choose_list len each
  refine ⟨⟨some a, len, cap⟩, gs, rfl, ⟨by simp [hgl], hl, hm, fun i hi => ?_⟩, fun g hg => ?_, ?_⟩
  ·simp only [List.length_map] at hi
   have hgi := hgs i _ (List.getElem?_eq_getElem hi)
   have e : (gs.map cf).getD i [] = cf gs[i] := by simp [List.getD_eq_getElem?_getD, hi]
   rw [e]
   exact ⟨a, rfl, by simp, hgi.1, hgi.2.1⟩
  ·obtain ⟨i, hi⟩ := List.getElem?_of_mem hg
   exact (hgs i g hi).2.2.1
  ·have := bulk_sum b gs (elems.map (·.1)) (by simp [hgl, hlen]) (fun i g d hg hd => by
    rw [List.getElem?_map] at hd
    cases hx : elems[i]? with
    |none => rw [hx] at hd; cases hd
    |some y => rw [hx] at hd; cases hd; exact (hgs i g hg).2.2.2 y hx)
   simp only [Rows.uptoBulk]; omega
theorem isStr {H : Type} {enc : TypeId × Value → H} {W : World} {m : Nat} {cs : List Value} {y : DataW H × List MemPlace} (h : DataW.trod enc Tryz.prog W 0 (fun _ => true) true m 9 cs = some y) :
  ∃ s : Str, cs = [.string (Bs s)] ∧ Rows.uptoBulk y.1 = s.length + 1 := by
 obtain ⟨s, rfl, rfl, _⟩ := DataW.trod_string Tryz.underlying9 h
 exact ⟨s.data.toList, by rw [Bs_toList], by simp [Rows.uptoBulk]⟩
theorem isInt {H : Type} {enc : TypeId × Value → H} {W : World} {m : Nat} {cs : List Value} {y : DataW H × List MemPlace} (h : DataW.trod enc Tryz.prog W 0 (fun _ => true) true m 3 cs = some y) :
  ∃ n : Int, cs = [.int .i64 n] ∧ 1 ≤ Rows.uptoBulk y.1 ∧ (Lit.int .i64 n).wf = true := by
 obtain ⟨n, rfl, rfl, hw⟩ := DataW.trod_int Tryz.underlying3 h
 exact ⟨n, rfl, by simp [Rows.uptoBulk], hw⟩
end
section
open Go.RowKit Go.ChangeShapes Go.WideShapes Go.ChangeAt
structure OpT where
 kind : Int
 id : Int
 par : Int
 at_ : Int
 what : Int
 name : Str
 text : Str
def oc (o : OpT) : List Value := [.int .i64 o.kind, .int .i64 o.id, .int .i64 o.par, .int .i64 o.at_, .int .i64 o.what, .string (Bs o.name), .string (Bs o.text)]
def OpT.ok (o : OpT) : Prop := (Lit.int .i64 o.kind).wf = true ∧ (Lit.int .i64 o.id).wf = true ∧ (Lit.int .i64 o.par).wf = true ∧ (Lit.int .i64 o.at_).wf = true ∧ (Lit.int .i64 o.what).wf = true
set_option maxRecDepth 20000 in
theorem open_op {H : Type} {enc : TypeId × Value → H} {W : World} {m : Nat} {cs : List Value} {y : DataW H × List MemPlace} (h : DataW.trod enc Tryz.prog W 0 (fun _ => true) true m 38 cs = some y) :
  ∃ o : OpT, cs = oc o ∧ o.ok ∧ 1 ≤ Rows.uptoBulk y.1 := by
 obtain ⟨xs, n, rfl, rfl, hl, hx, hf⟩ := DataW.trod_struct Tryz.underlying38 h
 have hl : cs.length = 7 := hl.trans (by kernel_rfl)
 match cs, hl with
 |[c0, c1, c2, c3, c4, c5, c6], _ =>
  match xs, hx with
  |[x0, x1, x2, x3, x4, x5, x6], _ =>
   have h0 := hf 0 _ rfl
   have h1 := hf 1 _ rfl
   have h2 := hf 2 _ rfl
   have h3 := hf 3 _ rfl
   have h4 := hf 4 _ rfl
   have h5 := hf 5 _ rfl
   have h6 := hf 6 _ rfl
   have k3 : Tryz.prog.cellsOf 3 = 1 := by kernel_rfl
   have k9 : Tryz.prog.cellsOf 9 = 1 := by kernel_rfl
   simp only [k3, k9, List.drop_zero, List.take_succ_cons, List.take_zero, List.drop_succ_cons, List.getElem?_cons_zero, List.getElem?_cons_succ] at h0 h1 h2 h3 h4 h5 h6
   obtain ⟨n0, e0, b0, w0⟩ := isInt h0
   obtain ⟨n1, e1, b1, w1⟩ := isInt h1
   obtain ⟨n2, e2, b2, w2⟩ := isInt h2
   obtain ⟨n3, e3, b3, w3⟩ := isInt h3
   obtain ⟨n4, e4, b4, w4⟩ := isInt h4
   obtain ⟨s5, e5, b5⟩ := isStr h5
   obtain ⟨s6, e6, b6⟩ := isStr h6
   cases e0; cases e1; cases e2; cases e3; cases e4; cases e5; cases e6
   refine ⟨⟨n0, n1, n2, n3, n4, s5, s6⟩, rfl, ⟨w0, w1, w2, w3, w4⟩, ?_⟩
   simp only [List.map_cons, List.map_nil, Rows.uptoBulk, Rows.uptoBulkAll]
   omega
set_option maxRecDepth 20000 in
theorem open_ops {H : Type} {enc : TypeId × Value → H} {W : World} {v : Value} {d : DataW H} {ps : List MemPlace} {base : Nat} (hval : Value.okWide Tryz.prog W .any base 26 v) (h : DataW.Trod enc Tryz.prog W 0 (fun _ => true) true 26 v d ps) :
  ∃ (s : Sl) (l : List OpT), v = s.v ∧ Row [] W s 7 (l.map oc) ∧ (∀ o ∈ l, o.ok) := by
 obtain ⟨a, len, cap, rfl⟩ := okWide_slice Tryz.underlying26 hval
 obtain ⟨fuel, hf⟩ := h
 obtain ⟨s, gs, hc, hr, hg, hb⟩ := open_row Tryz.underlying26 (by kernel_rfl : Tryz.prog.cellsOf 38 = 7) oc OpT.ok (fun _ => 1) (fun m _ cs y _ h => open_op h) hf
 refine ⟨s, gs, ?_, hr, hg⟩
 simp [Value.cells] at hc
 obtain ⟨rfl, rfl, rfl⟩ := hc
 rfl
end
section
open Go.RowKit
def needO (o : OpT) : OpT := ⟨0, 0, if o.kind = 3 then o.par else 0, if o.kind = 3 then o.at_ else 0, 0, if o.kind = 4 ∨ o.kind = 5 then o.name else [], if o.kind = 4 ∨ o.kind = 6 then o.text else []⟩
def rightO (o : OpT) : Bool :=
 if ((o.kind < 1 ∨ 6 < o.kind) ∨ o.id < 0) ∨ 1048576 < o.id then false
 else if o.kind = 1 then decide (1 ≤ o.what) && decide (o.what ≤ 5)
 else decide (o.par = (needO o).par) && decide (o.at_ = (needO o).at_) && decide (o.what = 0) && decide (o.name = (needO o).name) && decide (o.text = (needO o).text)
abbrev FL : List Value := [.nilFunc, .nilFunc, .func (.func 31) #[] #[], .func (.func 33) #[] #[], .func (.func 34) #[] #[], .func (.func 36) #[] #[], .func (.func 37) #[] #[], .func (.func 39) #[] #[], .func (.func 40) #[] #[], .func (.func 42) #[] #[], .func (.func 43) #[] #[], .func (.func 45) #[] #[], .func (.func 46) #[] #[], .func (.func 48) #[] #[]]
def ov (o : OpT) : Value := .agg #[.int .i64 o.kind, .int .i64 o.id, .int .i64 o.par, .int .i64 o.at_, .int .i64 o.what, .string (Bs o.name), .string (Bs o.text)]
theorem callsC (w : World) : Calls Tryz.prog 22 #[] w (Ret fun v w' => Ext w w' ∧ v = .agg FL.toArray) := by
 refine apply_calls.ok ?_
 unfold apply_calls.vc
 exact fun w1 B1 _ hE1 => ⟨hE1, rfl⟩
theorem needCall (o : OpT) (h2 : 2 ≤ o.kind) (h6 : o.kind ≤ 6) : ∃ f, FL.getD (o.kind.toNat * 2 + 1) .nilFunc = .func (.func f) #[] #[] ∧ Body Tryz.prog f ∧
  ∀ w, Calls Tryz.prog f (#[] ++ #[ov o] ++ #[]) w (Ret fun v w' => Ext w w' ∧ v = ov (needO o)) := by
 obtain ⟨k, id, par, at_, what, name, text⟩ := o
 simp only at h2 h6
 have hk : k = 2 ∨ k = 3 ∨ k = 4 ∨ k = 5 ∨ k = 6 := by omega
 rcases hk with rfl | rfl | rfl | rfl | rfl
 ·refine ⟨36, rfl, ⟨_, Tryz.func36, by decide, rfl⟩, fun w => ?_⟩
  refine apply_calls_4.ok _ _ _ _ _ _ _ ?_
  unfold apply_calls_4.vc
  exact fun w1 _ _ _ _ _ hE => ⟨hE, rfl⟩
 ·refine ⟨39, rfl, ⟨_, Tryz.func39, by decide, rfl⟩, fun w => ?_⟩
  refine apply_calls_6.ok _ _ _ _ _ _ _ ?_
  unfold apply_calls_6.vc
  exact fun w1 _ _ _ _ _ hE => ⟨hE, rfl⟩
 ·refine ⟨42, rfl, ⟨_, Tryz.func42, by decide, rfl⟩, fun w => ?_⟩
  refine apply_calls_8.ok _ _ _ _ _ _ _ ?_
  unfold apply_calls_8.vc
  exact fun w1 _ _ _ _ _ hE => ⟨hE, rfl⟩
 ·refine ⟨45, rfl, ⟨_, Tryz.func45, by decide, rfl⟩, fun w => ?_⟩
  refine apply_calls_10.ok _ _ _ _ _ _ _ ?_
  unfold apply_calls_10.vc
  exact fun w1 _ _ _ _ _ hE => ⟨hE, rfl⟩
 ·refine ⟨48, rfl, ⟨_, Tryz.func48, by decide, rfl⟩, fun w => ?_⟩
  refine apply_calls_12.ok _ _ _ _ _ _ _ ?_
  unfold apply_calls_12.vc
  exact fun w1 _ _ _ _ _ hE => ⟨hE, rfl⟩
theorem callRight (o : OpT) {w : World} : Calls Tryz.prog 12 #[ov o] w (Ret fun v w' => Ext w w' ∧ v = .bool (rightO o)) := by
 refine apply_Right.ok _ _ _ _ _ _ _ ?_
 unfold apply_Right.vc
 refine fun w1 B1 hN1 hE1 => CallK.exact (callsC w1) fun w2 hE2 => ⟨rfl, fun hb w3 B3 hN3 hE3 => ⟨(hE1.trans hE2).trans hE3, by unfold rightO; rw [if_pos hb]⟩, fun hg => ?_⟩
 have hg' : ¬ (((o.kind < 1 ∨ 6 < o.kind) ∨ o.id < 0) ∨ 1048576 < o.id) := fun h => by
  rcases h with ((h | h) | h) | h
  ·exact hg.1.1.1 h
  ·exact hg.1.1.2 h
  ·exact hg.1.2 h
  ·exact hg.2 h
 refine ⟨fun h1 w3 B3 hN3 hE3 => ⟨(hE1.trans hE2).trans hE3, by unfold rightO; rw [if_neg hg', if_pos h1]⟩, fun h1 w3 B3 hN3 hE3 => ⟨⟨by omega, by omega⟩, ?_⟩⟩
 obtain ⟨f, hf, hbody, hcall⟩ := needCall o (by omega) (by omega)
 refine ⟨f, #[], #[], hf, hbody, fun k i p a t n x _ => k = 0 ∧ i = 0 ∧ p = (needO o).par ∧ a = (needO o).at_ ∧ t = 0 ∧ n = (needO o).name ∧ x = (needO o).text, fun _ _ _ _ _ _ _ _ _ _ h => h, fun w' _ => Ret.mono (hcall w') ?_, ?_⟩
 ·rintro v w'' ⟨h2, rfl⟩
  exact ⟨h2, _, _, _, _, _, _, _, rfl, rfl, rfl, rfl, rfl, rfl, rfl, rfl⟩
 ·rintro w4 _ _ _ _ _ _ _ B4 hE4 ⟨rfl, rfl, rfl, rfl, rfl, rfl, rfl⟩ hB4 hbox w5 hC5
  refine ⟨Chg.fresh (((hE1.trans hE2).trans hE3).trans hE4) hC5 (by simp only [List.mem_singleton]; rintro b rfl; exact Nat.le_trans ((hE1.trans hE2).trans hE3).size hB4), ?_⟩
  unfold rightO
  rw [if_neg hg', if_neg h1]
theorem right_kind {o : OpT} (h : rightO o = true) : 1 ≤ o.kind ∧ o.kind ≤ 6 := by
 unfold rightO at h
 by_cases hb : ((o.kind < 1 ∨ 6 < o.kind) ∨ o.id < 0) ∨ 1048576 < o.id
 ·rw [if_pos hb] at h; cases h
 ·omega
end
section
open Go.RowKit Go.MapKept
def opE (R : I) (o : OpT) : Int :=
 if o.kind = 1 then insE R o.id o.par o.at_ o.what o.name o.text else if o.kind = 2 then delE R o.id else if o.kind = 3 then movE R o.id o.par o.at_
 else if o.kind = 4 then setE R o.id o.name o.text else if o.kind = 5 then unsE R o.id o.name else txtE R o.id o.text
def opR (R : I) (o : OpT) : I :=
 if o.kind = 1 then R.ins o.par o.at_.toNat (leaf o.id o.what o.name o.text) else if o.kind = 2 then R.del o.id else if o.kind = 3 then movR R o.id o.par o.at_
 else if o.kind = 4 then R.upd o.id [] (withA (attrsOf R o.id) o.name o.text) else if o.kind = 5 then R.upd o.id [] (withoutA (attrsOf R o.id) o.name) else R.upd o.id o.text []
def runI : I → List OpT → Nat → Nat × Int × I
 |R, [], k => (k, 0, R)
 |R, o :: r, k => if rightO o = false then (k, 15, R) else if opE R o = 0 then runI (opR R o) r (k + 1) else (k, opE R o, R)
def runX (t : T) (ops : List OpT) : Nat × Int × I :=
 if t.check = false then (0, 1, I.num t 0) else if 1500 < ops.length then (0, 2, I.num t 0) else runI (I.num t 0) ops 0
theorem opStep {A : List Nat} {g : FuncId} {args : Array Value} {w w4 : World} {B D : Nat} {R R' : I} {E : Int} {K : Value → World → Prop} (hd : Dom A w D R) (hN : New w B w4) (hE : Ext w w4)
  (h : Dom (B :: A) w4 D R → Calls Tryz.prog g args w4 (Ret fun v w' => v = .int .i64 E ∧ if E = 0 then Mod (B :: A) w4 w' ∧ Dom (B :: A) w' D R' else Ext w4 w'))
  (k : ∀ w', (if E = 0 then Mod A w w' ∧ Dom A w' D R' else Ext w w') → K (.int .i64 E) w') : CallK Tryz.prog g args w4 [B] K := by
 have hge := hN.ge
 have hD4 : Dom (B :: A) w4 D R := (hd.wide (A' := B :: A) fun b hb => by
  rcases List.mem_cons.1 hb with rfl | hb
  ·exact .inr hge
  ·exact .inl hb).ext hE
 refine CallK.mod (A := B :: A) (R := fun v w' => v = .int .i64 E ∧ if E = 0 then Mod (B :: A) w4 w' ∧ Dom (B :: A) w' D R' else Ext w4 w') (Ret.mono (h hD4) ?_) (by simp) ?_
 ·rintro v w' ⟨rfl, h⟩
  by_cases h0 : E = 0
  ·rw [if_pos h0] at h ⊢; exact ⟨h.1, rfl, h⟩
  ·rw [if_neg h0] at h ⊢; exact ⟨Mod.ext h, rfl, h⟩
 ·rintro v w' hM ⟨rfl, h⟩
  refine k w' ?_
  by_cases h0 : E = 0
  ·rw [if_pos h0] at h ⊢
   exact ⟨(Mod.ext hE).trans (h.1.less fun b hb => List.mem_cons_of_mem _ hb), h.2.wide fun b hb => .inl (List.mem_cons_of_mem _ hb)⟩
  ·rw [if_neg h0] at h ⊢; exact hE.trans h
theorem doCall {A : List Nat} {w : World} {D : Nat} {R : I} (hd : Dom A w D R) (hA : ∀ b ∈ A, b < w.heap.size) (o : OpT) (h1 : 1 ≤ o.kind) (h6 : o.kind ≤ 6) : ∃ f, FL.getD (o.kind.toNat * 2 + 0) .nilFunc = .func (.func f) #[] #[] ∧ Body Tryz.prog f ∧
  Calls Tryz.prog f (#[] ++ #[.pointer (some ⟨D, 0, none⟩), ov o] ++ #[]) w (Ret fun v w' => v = .int .i64 (opE R o) ∧ if opE R o = 0 then Mod A w w' ∧ Dom A w' D (opR R o) else Ext w w') := by
 obtain ⟨k, id, par, at_, what, name, text⟩ := o
 simp only at h1 h6
 have hA' : ∀ {w4 : World} {B : Nat}, New w B w4 → Ext w w4 → ∀ b ∈ B :: A, b < w4.heap.size := fun hN hE b hb => by
  rcases List.mem_cons.1 hb with rfl | hb
  ·exact hN.lt
  ·exact Nat.lt_of_lt_of_le (hA b hb) hE.size
 have hk : k = 1 ∨ k = 2 ∨ k = 3 ∨ k = 4 ∨ k = 5 ∨ k = 6 := by omega
 rcases hk with rfl | rfl | rfl | rfl | rfl | rfl
 ·refine ⟨31, rfl, ⟨_, Tryz.func31, by decide, rfl⟩, apply_calls_1.ok _ _ _ _ _ _ _ _ ?_⟩
  unfold apply_calls_1.vc
  exact fun w4 B hN hE => opStep hd hN hE (fun hD => domInsert hD (hA' hN hE) _ _ _ _ _ _) fun w' h => ⟨_, rfl, rfl, h⟩
 ·refine ⟨34, rfl, ⟨_, Tryz.func34, by decide, rfl⟩, apply_calls_3.ok _ _ _ _ _ _ _ _ ?_⟩
  unfold apply_calls_3.vc
  exact fun w4 B hN hE => opStep hd hN hE (fun hD => domDelete hD (hA' hN hE) _) fun w' h => ⟨_, rfl, rfl, h⟩
 ·refine ⟨37, rfl, ⟨_, Tryz.func37, by decide, rfl⟩, apply_calls_5.ok _ _ _ _ _ _ _ _ ?_⟩
  unfold apply_calls_5.vc
  exact fun w4 B hN hE => opStep hd hN hE (fun hD => domMove hD (hA' hN hE) _ _ _) fun w' h => ⟨_, rfl, rfl, h⟩
 ·refine ⟨40, rfl, ⟨_, Tryz.func40, by decide, rfl⟩, apply_calls_7.ok _ _ _ _ _ _ _ _ ?_⟩
  unfold apply_calls_7.vc
  exact fun w4 B hN hE => opStep hd hN hE (fun hD => domSet hD (hA' hN hE) _ _ _) fun w' h => ⟨_, rfl, rfl, h⟩
 ·refine ⟨43, rfl, ⟨_, Tryz.func43, by decide, rfl⟩, apply_calls_9.ok _ _ _ _ _ _ _ _ ?_⟩
  unfold apply_calls_9.vc
  exact fun w4 B hN hE => opStep hd hN hE (fun hD => domUnset hD (hA' hN hE) _ _) fun w' h => ⟨_, rfl, rfl, h⟩
 ·refine ⟨46, rfl, ⟨_, Tryz.func46, by decide, rfl⟩, apply_calls_11.ok _ _ _ _ _ _ _ _ ?_⟩
  unfold apply_calls_11.vc
  exact fun w4 B hN hE => opStep hd hN hE (fun hD => domText hD _ _) fun w' h => ⟨_, rfl, rfl, h⟩
theorem applyRun {X L : List Nat} {w : World} {t : T} {sa sk l : Sl} {ops : List OpT} (hr : RdT X w t sa sk) (hb : t.span ≤ 900000) (hl : Row L w l 7 (ops.map oc)) {f0 : FuncId} (hf : Body Tryz.prog f0)
  (h0 : ∀ D w', Calls Tryz.prog f0 (#[] ++ #[.pointer (some D)] ++ #[]) w' (Ret fun v w'' => Ext w' w'' ∧ v = .tuple #[])) :
  Calls Tryz.prog 18 #[tv t sa sk, l.v, .func (.func f0) #[] #[]] w (Ret fun v w' => Ext w w' ∧ ∃ p : Option Addr, v = .tuple #[.pointer p, .int .i64 ((runX t ops).1 : Int), .int .i64 (runX t ops).2.1] ∧
   ((runX t ops).2.1 = 0 → ∃ D, p = some ⟨D, 0, none⟩ ∧ Dom (List.range w.heap.size) w' D (runX t ops).2.2)) := by
 refine apply_run.ok _ _ _ _ _ _ _ ?_
 unfold apply_run.vc
 intro w1 B1 hN1 hE1
 refine CallK.ext (domNew (hr.ext hE1) hb) ?_
 rintro v w2 hE2 (⟨h, rfl⟩ | ⟨hck, D, rfl, hD⟩)
 ·have hx : runX t ops = (0, 1, I.num t 0) := by unfold runX; rw [if_pos h]
  rw [hx]
  exact ⟨none, 1, rfl, fun _ => ⟨hE1.trans hE2, none, rfl, fun h => by cases h⟩, fun h => absurd (by decide) h⟩
 have hln := hl.len
 rw [List.length_map] at hln
 have hE02 := hE1.trans hE2
 refine ⟨_, 0, rfl, fun h => absurd rfl h, fun _ => ⟨fun hbig => ?_, fun hsm => ?_⟩⟩
 ·have hx : runX t ops = (0, 2, I.num t 0) := by unfold runX; rw [if_neg (by rw [hck]; decide), if_pos (by omega)]
  rw [hx]
  exact ⟨hE02, none, rfl, fun h => by cases h⟩
 have hx : runX t ops = runI (I.num t 0) ops 0 := by unfold runX; rw [if_neg (by rw [hck]; decide), if_neg (by omega)]
 rw [hx]
 refine CallK.exact (callsC w2) fun w3 hE3 => ⟨rfl, fun w4 B4 hN4 hE4 => ?_⟩
 have hE04 := (hE02.trans hE3).trans hE4
 have hb4 := hN4.ge
 obtain ⟨A, hA⟩ : ∃ A, A = B4 :: List.range w1.heap.size := ⟨_, rfl⟩
 have hD4 : Dom A w4 D (I.num t 0) := (hD.wide (A' := A) fun b hb => by
  rw [hA] at hb
  rcases List.mem_cons.1 hb with rfl | hb
  ·exact .inr (Nat.le_trans hE3.size hb4)
  ·exact .inl hb).ext (hE3.trans hE4)
 have hBA : B4 ∈ A := by rw [hA]; exact List.mem_cons_self ..
 have hoA : ∀ x, x < w.heap.size → x ∈ A := fun x hx => by rw [hA]; exact List.mem_cons_of_mem _ (List.mem_range.2 (Nat.lt_of_lt_of_le hx hE1.size))
 have hA4 : ∀ b ∈ A, b < w4.heap.size := fun b hb => by
  rw [hA] at hb
  rcases List.mem_cons.1 hb with rfl | hb
  ·exact hN4.lt
  ·exact Nat.lt_of_lt_of_le (List.mem_range.1 hb) (Nat.le_trans hE2.size (Nat.le_trans hE3.size hE4.size))
 clear hA
 refine ⟨fun x w' => ∃ (k : Nat) (R : I), x = (k : Int) ∧ k ≤ ops.length ∧ Dom A w' D R ∧ Ext w w' ∧ w4.heap.size ≤ w'.heap.size ∧ runI (I.num t 0) ops 0 = runI R (ops.drop k) k, fun x _ => ops.length - x.toNat, ⟨0, _, rfl, by omega, hD4, hE04, Nat.le_refl _, rfl⟩, ?_⟩
 rintro _ w5 ⟨k, R, rfl, hk, hD5, hE5, hs5, hrun⟩
 rw [hrun]
 refine ⟨fun hlt => ?_, fun hge => ?_⟩
 ·have hk' : k < ops.length := by omega
  obtain ⟨p, hp, _, hc, _⟩ := (hl.ext hE5).at_ k (by simpa using hk')
  have hgd : (ops.map oc).getD k [] = oc ops[k] := by simp [List.getD_eq_getElem?_getD, hk']
  rw [hgd] at hc
  have hdr : ops.drop k = ops[k] :: ops.drop (k + 1) := List.drop_eq_getElem_cons hk'
  rw [hdr]
  generalize ops[k] = o at hc
  refine ⟨⟨by omega, by omega⟩, p, hp, o.kind, o.id, o.par, o.at_, o.what, o.name, o.text, by rw [Int.toNat_natCast]; exact hc, fun w6 B6 hN6 hE6 => ?_⟩
  have hb6 := hN6.ge
  refine CallK.exact (callRight o) fun w7 hE7 => ⟨_, rfl, fun hno => ⟨hE5.trans (hE6.trans hE7), none, by rw [runI, if_pos hno], fun h => ?_⟩, fun hyes w8 hE8 => ?_⟩
  ·rw [runI, if_pos hno] at h; cases h
  have hkd := right_kind hyes
  have hrn : ¬ rightO o = false := by rw [hyes]; decide
  refine ⟨⟨by omega, by omega⟩, ?_⟩
  have hE58 := (hE6.trans hE7).trans hE8
  have hD8 : Dom (B6 :: A) w8 D R := (hD5.wide (A' := B6 :: A) fun b hb => by
   rcases List.mem_cons.1 hb with rfl | hb
   ·exact .inr hb6
   ·exact .inl hb).ext hE58
  have hA8 : ∀ {w' : World}, Ext w8 w' → ∀ b ∈ B6 :: A, b < w'.heap.size := fun hE b hb => by
   rcases List.mem_cons.1 hb with rfl | hb
   ·exact Nat.lt_of_lt_of_le hN6.lt (Nat.le_trans hE7.size (Nat.le_trans hE8.size hE.size))
   ·exact Nat.lt_of_lt_of_le (hA4 b hb) (Nat.le_trans hs5 (Nat.le_trans hE58.size hE.size))
  obtain ⟨f, hfl, hbody, _⟩ := doCall hD8 (hA8 (Chg.refl _ _)) o hkd.1 hkd.2
  refine ⟨f, #[], #[], hfl, fun w9 hE9 => ⟨hbody, ?_⟩⟩
  have hD9 := hD8.ext hE9
  obtain ⟨f', hfl', _, hcall⟩ := doCall hD9 (hA8 hE9) o hkd.1 hkd.2
  have hff : f' = f := by
   have := hfl'.symm.trans hfl
   injection this with h1
   injection h1
  subst hff
  refine CallK.mod (A := B6 :: A) (R := fun v w' => v = .int .i64 (opE R o) ∧ Dom (B6 :: A) w' D (if opE R o = 0 then opR R o else R)) (Ret.mono hcall ?_) ?_ ?_
  ·rintro v w' ⟨rfl, h⟩
   by_cases h0 : opE R o = 0
   ·rw [if_pos h0] at h ⊢; exact ⟨h.1, rfl, h.2⟩
   ·rw [if_neg h0] at h ⊢; exact ⟨Mod.ext h, rfl, hD9.ext h⟩
  ·intro b hb
   simp only [List.mem_cons, List.not_mem_nil, or_false] at hb
   rcases hb with rfl | rfl
   ·exact List.mem_cons_of_mem _ hBA
   ·exact List.mem_cons_self ..
  rintro v w10 hM10 ⟨rfl, hD10⟩
  have hE10 : Ext w w10 := Mod.fresh (hE5.trans (hE58.trans hE9)) hM10 fun x hx => List.mem_cons_of_mem _ (hoA x hx)
  refine ⟨_, rfl, fun hne => ⟨hE10, none, by rw [runI, if_neg hrn, if_neg hne], fun h => ?_⟩, fun hz => ?_⟩
  ·rw [runI, if_neg hrn, if_neg hne] at h; exact absurd h hne
  have hz : opE R o = 0 := Classical.not_not.1 hz
  rw [if_pos hz] at hD10
  refine ⟨f0, #[], #[], rfl, hf, CallK.exact (h0 _ _) fun w11 hE11 => ⟨rfl, ⟨by omega, by omega⟩, ⟨k + 1, opR R o, by omega, by omega, (hD10.ext hE11).wide fun b hb => .inl (List.mem_cons_of_mem _ hb), hE10.trans hE11, ?_, ?_⟩, by dsimp only; omega⟩⟩
  ·exact Nat.le_trans hs5 (Nat.le_trans (hE58.trans hE9).size (Nat.le_trans hM10.size hE11.size))
  ·rw [runI, if_neg hrn, if_pos hz]
 ·have hk' : k = ops.length := by omega
  have hd : runI R (ops.drop k) k = (k, 0, R) := by rw [List.drop_of_length_le (by omega)]; rfl
  rw [hd]
  exact ⟨hE5, _, by rw [hk', hln], fun _ => ⟨D, rfl, hD5.wide fun b hb => .inl (hoA b (List.mem_range.1 hb))⟩⟩
def resT (t : T) (ops : List OpT) : T := if (runX t ops).2.1 = 0 then (runX t ops).2.2.toT else T.nul
theorem applyCall {X L : List Nat} {w : World} {t : T} {sa sk l : Sl} {ops : List OpT} (hr : RdT X w t sa sk) (hb : t.span ≤ 900000) (hl : Row L w l 7 (ops.map oc)) :
  Calls Tryz.prog 8 #[tv t sa sk, l.v] w (Ret fun v w' => Ext w w' ∧ ∃ sa' sk' : Sl, v = .tuple #[tv (resT t ops) sa' sk', .int .i64 ((runX t ops).1 : Int), .int .i64 (runX t ops).2.1] ∧ RdT (List.range w.heap.size) w' (resT t ops) sa' sk') := by
 refine apply_Apply.ok _ _ _ _ _ _ ?_
 unfold apply_Apply.vc
 intro w1 B1 B2 hN1 hN2 _ hE1
 have h2 := hN2.ge
 refine CallK.ext (applyRun (hr.ext hE1) hb (hl.ext hE1) (f0 := 19) ⟨_, Tryz.func19, by decide, rfl⟩ fun D w' => ?_) ?_
 ·refine apply_Apply_1.ok _ ?_
  unfold apply_Apply_1.vc
  exact ⟨Chg.refl _ _, rfl⟩
 rintro v w2 hE2 ⟨p, rfl, hp⟩
 have hE02 := hE1.trans hE2
 have hfr : ∀ b ∈ [B2], w.heap.size ≤ b := by simpa using h2
 refine ⟨p, _, _, rfl, fun hne w3 hC3 => ⟨Chg.fresh hE02 hC3 hfr, Sl.nil, Sl.nil, ?_, ?_⟩, fun hz => ?_⟩
 ·unfold resT; rw [if_neg hne]; rfl
 ·unfold resT; rw [if_neg hne]; exact RdT.nil _ _ _ _ _
 have hz : (runX t ops).2.1 = 0 := Classical.not_not.1 hz
 obtain ⟨D, rfl, hD⟩ := hp hz
 have hrt : resT t ops = (runX t ops).2.2.toT := by unfold resT; rw [if_pos hz]
 refine CallK.ext (domTree hD) ?_
 rintro v w3 hE3 ⟨sa', sk', rfl, hrd⟩
 refine ⟨_, _, _, sa', sk', rfl, fun w4 hC4 => ⟨Chg.fresh (hE02.trans hE3) hC4 hfr, sa', sk', ?_, ?_⟩⟩
 ·rw [hrt, hz]; rfl
 ·rw [hrt]
  have h4 : RdT (List.range w2.heap.size) w4 (runX t ops).2.2.toT sa' sk' := hrd.chg hC4 (by simp only [List.mem_singleton]; rintro b rfl; exact List.mem_range.2 (Nat.lt_of_lt_of_le hN2.lt hE2.size))
  exact h4.less fun b hb => List.mem_range.2 (Nat.lt_of_lt_of_le (List.mem_range.1 hb) hE02.size)
end
section
open Go.RowKit Go.MapKept
theorem ones_oc (o : OpT) : ∀ u ∈ [oc o].flatten, u.oneCell' = true := by
 intro u hu; simp [oc] at hu; rcases hu with rfl | rfl | rfl | rfl | rfl | rfl | rfl <;> rfl
theorem box_op {w : World} {B : Nat} {S : TypeId} {o : OpT} (hB : Box w B S (oc o)) : Row [] w (Sl.mk (some ⟨B, 0, none⟩) 1 1) 7 ([o].map oc) :=
 ⟨rfl, Nat.le_refl _, by simp [maxLen], fun i hi => by
  have : i = 0 := by simpa using hi
  subst this
  exact ⟨_, rfl, by simp, by rw [Nat.zero_mul, Addr.add_zero']; exact hB.cells, rfl⟩⟩
theorem bare0_span : bare0.span ≤ 900000 := by
 have := check_span (I.num_okay bare0_check)
 rwa [I.num_toT] at this
theorem apAwake (w : World) : Calls Tryz.prog 6 #[] w (Ret fun v w' => Ext w w' ∧ v = .bool true) := by
 refine law23_awake.ok ?_
 unfold law23_awake.vc
 intro w1 B1 hN1 hE1 hB1
 have hx : Row [] w1 (Sl.mk (some ⟨B1, 0, none⟩) 1 1) 7 ([(⟨2, 0, 0, 0, 0, [], []⟩ : OpT)].map oc) := box_op hB1
 refine CallK.ext (applyCall (t := bare0) (sa := Sl.nil) (sk := Sl.nil) (bare0_rd w1) bare0_span hx) ?_
 have hE : opE (I.num bare0 0) (⟨2, 0, 0, 0, 0, [], []⟩ : OpT) = 4 := by
  unfold opE
  rw [if_neg (by decide), if_pos rfl]
  unfold delE
  rw [num_bare, find_top rfl]; rfl
 have hr : runX bare0 [(⟨2, 0, 0, 0, 0, [], []⟩ : OpT)] = (0, 4, I.num bare0 0) := by
  unfold runX
  rw [if_neg (by rw [bare0_check]; decide), if_neg (by decide), runI, if_neg (by decide), hE, if_neg (by decide)]
 rw [hr]
 rintro v w2 hE2 ⟨sa, sk, rfl, hrd⟩
 refine ⟨_, _, _, sa, sk, _, _, rfl, fun w3 B3 hN3 hE3 => ⟨true, fun _ => callRight ⟨2, 0, 0, 0, 0, [], []⟩, fun w4 hE4 => ⟨false, fun _ => callRight ⟨2, 0, 0, 0, 0, [], [97]⟩, fun w5 hE5 => ⟨(((hE1.trans hE2).trans hE3).trans hE4).trans hE5, rfl⟩⟩⟩⟩
theorem goL_ok : ∀ (l : List T) (deep : Nat), (∀ u ∈ l, ∀ c, (u.sm deep c).1 = true → (u.sm deep c).2 = c + u.size ∧ u.slots ≤ 20 * u.size) → ∀ c, (goL (l.map fun u => fun c => u.sm deep c) c).1 = true → (goL (l.map fun u => fun c => u.sm deep c) c).2 = c + (l.map T.size).sum ∧ (l.map T.slots).sum ≤ 20 * (l.map T.size).sum
 |[], _, _, c, _ => by simp [goL]
 |u :: r, deep, h, c, ht => by
  rw [List.map_cons, goL] at ht ⊢
  by_cases hu : (u.sm deep c).1 = true
  ·rw [if_pos hu] at ht ⊢
   obtain ⟨h1, h2⟩ := h u (by simp) c hu
   obtain ⟨h3, h4⟩ := goL_ok r deep (fun x hx => h x (by simp [hx])) _ ht
   rw [h3, h1, List.map_cons, List.map_cons, List.sum_cons, List.sum_cons]
   exact ⟨by omega, by omega⟩
  ·rw [if_neg hu] at ht; cases ht
theorem sm_ok : ∀ t : T, ∀ deep c : Nat, (t.sm deep c).1 = true → (t.sm deep c).2 = c + t.size ∧ t.slots ≤ 20 * t.size := T.ind' fun t ih deep c => by
 rw [T.sm_eq, T.size_eq, T.slots_eq]
 split
 ·intro h; cases h
 ·rename_i hn
  split
  ·intro h; cases h
  ·intro h
   obtain ⟨h1, h2⟩ := goL_ok t.kids (deep + 1) (fun u hu c => ih u hu (deep + 1) c) _ h
   exact ⟨by rw [h1]; omega, by omega⟩
theorem small_span {t : T} (h : t.small = true) : t.span ≤ 900000 := by
 have h1 := T.sm_le t 0 0 h
 obtain ⟨h2, h3⟩ := sm_ok t 0 0 h
 unfold T.span; omega
end
section
open Go.RowKit Go.MapKept
theorem ones_ocs (l : List OpT) : ∀ u ∈ (l.map oc).flatten, u.oneCell' = true := by
 intro u hu
 obtain ⟨x, hx, hu⟩ := List.mem_flatten.1 hu
 obtain ⟨o, _, rfl⟩ := List.mem_map.1 hx
 exact ones_oc o u (by simpa using hu)
theorem lawOps {A : List Nat} {w : World} {b : Sl} {l : List OpT} (h : Row A w b 7 (l.map oc)) (hb : l.length ≤ 1000000) :
  Calls Tryz.prog 9 #[b.v] w (Ret fun v w' => Ext w w' ∧ ∃ s : Sl, v = s.v ∧ Own (List.range w.heap.size) w' s 7 38 (l.map oc)) := by
 refine law00_Ops.ok _ ?_
 unfold law00_Ops.vc
 have hl := h.len
 simp only [List.length_map] at hl
 cases hx : l with
 |nil =>
  have e := append_none (P := Tryz.prog) (w := w) (s := Sl.nil) (x := b) (t := 26) (ty := 26) Tryz.underlying26 ti_38 (Nat.le_refl _) (by rw [hl, hx]; rfl)
  exact ⟨_, _, e, fun _ _ _ => rfl, Nat.le_refl _, Sl.nil, rfl, Chg.refl _ _, Sl.nil, rfl, Own.nil _ _ _ _⟩
 |cons x r =>
  rw [← hx]
  refine App.runK Tryz.underlying26 ti_38 rfl (by decide) (.inl (Own.nil (List.range w.heap.size) _ _ _)) (fun b hb => List.mem_range.1 hb) (h.less (by simp)) (ones_ocs l) (by rw [hx]; simp) (by simp [maxLen]; omega) (by simp; omega) (by simp) fun s' w' ho hc hb => ⟨s', rfl, ?_, s', rfl, ho⟩
  exact hc.mono (by simp [Sl.own])
theorem Box.inv {w : World} {B : Nat} {T : TypeId} {cs : List Value} (h : Box w B T cs) {q : Addr} {v : Value} (hq : q.block = B) (hc : w.cell? q = some v) : cs[q.off]? = some v := by
 unfold World.cell? at hc
 rw [hq, h] at hc
 simp only at hc
 split at hc
 ·cases hc
 ·simpa using hc
inductive Live : T → Prop where
 |node (k : Int) (n x : Str) (ats : List (Str × Str)) (ks : List T) : (∀ p ∈ ats, p.1 ≠ []) → (∀ u ∈ ks, u.kind ≠ 0) → (∀ u ∈ ks, Live u) → Live (.node k n x ats ks)
def zeroC : List Value := [.int .i64 0, .string (Bs ([] : Str)), .string (Bs ([] : Str)), Sl.v Sl.nil, Sl.v Sl.nil]
theorem zero_at {o : Nat} {v : Value} (h : zeroC[o]? = some v) : (o = 0 ∧ v = .int .i64 0) ∨ ((o = 1 ∨ o = 2) ∧ v = .string (Bs [])) ∨ ((o = 3 ∨ o = 4) ∧ v = Sl.v Sl.nil) := by
 match o, h with
 |0, h => exact .inl ⟨rfl, (Option.some.inj h).symm⟩
 |1, h => exact .inr (.inl ⟨.inl rfl, (Option.some.inj h).symm⟩)
 |2, h => exact .inr (.inl ⟨.inr rfl, (Option.some.inj h).symm⟩)
 |3, h => exact .inr (.inr ⟨.inl rfl, (Option.some.inj h).symm⟩)
 |4, h => exact .inr (.inr ⟨.inr rfl, (Option.some.inj h).symm⟩)
 |n + 5, h => simp [zeroC] at h
theorem RdT.apart {A : List Nat} {w : World} {B : Nat} {S : TypeId} (hB : Box w B S zeroC) : ∀ t : T, Live t → ∀ {sa sk : Sl}, RdT A w t sa sk → RdT (B :: A) w t sa sk := T.ind fun k n x ats ks ih hlv sa sk h => by
 cases hlv with
 |node _ _ _ _ _ l1 l2 l3 =>
  cases h with
  |mk ps ha hl hk h =>
   refine .mk ps ⟨ha.len, ha.cap, ha.most, fun i hi => ?_⟩ hl ⟨hk.len, hk.cap, hk.most, fun i hi => ?_⟩ fun i t p ht hp => ih t (List.mem_of_getElem? ht) (l3 t (List.mem_of_getElem? ht)) (h i t p ht hp)
   ·obtain ⟨q, h1, h2, h3, h4⟩ := ha.at_ i hi
    refine ⟨q, h1, fun hm => ?_, h3, h4⟩
    rcases List.mem_cons.1 hm with e | hm
    ·rw [List.length_map] at hi
     have hgd : (ats.map ac).getD i [] = ac ats[i] := by simp [List.getD_eq_getElem?_getD, hi]
     rw [hgd] at h3
     have c0 := hB.inv (q := (q.add (i * 2)).add 0) (by rw [Addr.add_block, Addr.add_block]; exact e) (h3 0 _ rfl)
     have c1 := hB.inv (q := (q.add (i * 2)).add 1) (by rw [Addr.add_block, Addr.add_block]; exact e) (h3 1 _ rfl)
     have hne := l1 ats[i] (List.getElem_mem hi)
     rcases zero_at c0 with ⟨_, hv⟩ | ⟨_, hv⟩ | ⟨_, hv⟩
     ·cases hv
     ·injection hv with hv; exact hne (Bs_inj hv)
     ·cases hv
    ·exact h2 hm
   ·obtain ⟨q, h1, h2, h3, h4⟩ := hk.at_ i hi
    refine ⟨q, h1, fun hm => ?_, h3, h4⟩
    rcases List.mem_cons.1 hm with e | hm
    ·have hi' : i < ks.length := by simp [List.length_zipWith] at hi; omega
     have hip : i < ps.length := by omega
     have hgd : (List.zipWith tc ks ps).getD i [] = tc ks[i] ps[i] := by rw [List.getD_eq_getElem?_getD, List.getElem?_eq_getElem hi]; simp
     rw [hgd] at h3
     have c0 := hB.inv (q := (q.add (i * 5)).add 0) (by rw [Addr.add_block, Addr.add_block]; exact e) (h3 0 _ rfl)
     have hne := l2 ks[i] (List.getElem_mem hi')
     rcases zero_at c0 with ⟨_, hv⟩ | ⟨_, hv⟩ | ⟨_, hv⟩
     ·injection hv with _ hv; exact hne hv
     ·cases hv
     ·cases hv
    ·exact h2 hm
theorem node_live : ∀ s : I, nodeOk s.toT = true → s.kind ≠ 0 ∧ Live s.toT ∧ s.toT.bulk ≤ 60000 * s.toT.size := I.ind' fun s ih hs => by
 have hk0 : s.kind ≠ 0 := fun h0 => by
  rw [nodeOk_ne (by rw [I.toT_kind, h0]; decide), I.toT_kind, h0] at hs
  simp at hs
 have hsum : ∀ l : List I, (∀ u ∈ l, u.toT.bulk ≤ 60000 * u.toT.size) → ((l.map I.toT).map T.bulk).sum ≤ 60000 * ((l.map I.toT).map T.size).sum := fun l => by
  induction l with
  |nil => intro _; simp
  |cons a r ihl =>
   intro h
   have h1 := h a (by simp)
   have h2 := ihl fun u hu => h u (by simp [hu])
   simp only [List.map_cons, List.sum_cons]; omega
 by_cases h2 : s.kind = 2
 ·obtain ⟨h3, h4⟩ := (I.node_el h2).1 hs
  simp only [Bool.and_eq_true, List.isEmpty_iff, decide_eq_true_eq] at h3
  obtain ⟨⟨h5, h6⟩, h7, h8⟩ := h3
  have hat := (attrsOk_iff.1 h8).1
  refine ⟨hk0, ?_, ?_⟩
  ·rw [I.toT_eq]
   refine .node _ _ _ _ _ (fun p hp e => ?_) (fun u hu => ?_) fun u hu => ?_
   ·have := nameOk_pos (hat p hp).1
    rw [e] at this
    rw [(cmpS_zero _ _).2 rfl] at this; omega
   ·obtain ⟨v, hv, rfl⟩ := List.mem_map.1 hu
    rw [I.toT_kind]; exact (ih v hv (h4 v hv).1).1
   ·obtain ⟨v, hv, rfl⟩ := List.mem_map.1 hu
    exact (ih v hv (h4 v hv).1).2.1
  ·have hb := hsum s.kids fun u hu => (ih u hu (h4 u hu).1).2.2
   have hn32 : s.name.length ≤ 32 := by
    unfold nameOk at h5
    simp only [Bool.and_eq_true, decide_eq_true_eq] at h5
    exact h5.1.2
   have hal : (s.attrs.map T.abulk).sum ≤ (s.attrs.map fun _ => 4129).sum := T.sum_le _ _ _ fun p hp => by
    have h1 := (hat p hp).2.1
    have h2 := (hat p hp).1
    unfold nameOk at h2
    simp only [Bool.and_eq_true, decide_eq_true_eq] at h2
    have h3 := h2.1.2
    unfold T.abulk; omega
   have hc : ∀ l : List (Str × Str), (l.map fun _ => 4129).sum = 4129 * l.length := fun l => by
    induction l with
    |nil => rfl
    |cons a r ihl => simp only [List.map_cons, List.sum_cons, ihl, List.length_cons]; omega
   rw [hc] at hal
   rw [T.bulk_eq, T.size_eq, I.toT_name, I.toT_text, I.toT_attrs, I.toT_kids, h6]
   simp only [List.length_nil]; omega
 ·have hk := I.node_ne h2 hs
  rw [nodeOk_ne (by rw [I.toT_kind]; exact h2)] at hs
  simp only [Bool.and_eq_true, List.isEmpty_iff] at hs
  obtain ⟨⟨ha, _⟩, hx⟩ := hs
  rw [I.toT_attrs] at ha
  have hl : s.toT.name.length ≤ 32 ∧ s.toT.text.length ≤ 4096 := by
   split at hx
   ·simp only [Bool.and_eq_true, List.isEmpty_iff, decide_eq_true_eq] at hx
    rw [hx.1.1]; simp; exact hx.2
   ·split at hx
    ·simp only [Bool.and_eq_true, List.isEmpty_iff, decide_eq_true_eq] at hx
     rw [hx.1]; simp; exact hx.2
    ·split at hx
     ·simp only [Bool.and_eq_true, List.isEmpty_iff, decide_eq_true_eq] at hx
      rw [hx.1]; simp; exact hx.2
     ·cases hx
  refine ⟨hk0, ?_, ?_⟩
  ·rw [I.toT_eq, ha, hk]; exact .node _ _ _ _ _ (by simp) (by simp) (by simp)
  ·rw [T.bulk_eq, T.size_eq, I.toT_attrs, I.toT_kids, ha, hk]
   simp; omega
theorem okay_live {R : I} (hR : R.Okay) : Live R.toT ∧ R.toT.bulk ≤ 1099511627776 := by
 obtain ⟨_, h2, _, h4, h5, h6, h7⟩ := I.check_iff.1 hR.check
 constructor
 ·rw [I.toT_eq, h6]
  refine .node _ _ _ _ _ (by simp) (fun u hu => ?_) fun u hu => ?_
  ·obtain ⟨v, hv, rfl⟩ := List.mem_map.1 hu
   rw [I.toT_kind]; exact (node_live v (h7 v hv)).1
  ·obtain ⟨v, hv, rfl⟩ := List.mem_map.1 hu
   exact (node_live v (h7 v hv)).2.1
 ·have hs : R.toT.size ≤ 300 := by rw [I.size_ids]; exact h2
  have hb : (R.toT.kids.map T.bulk).sum ≤ (R.toT.kids.map fun u => 60000 * u.size).sum := T.sum_le _ _ _ fun u hu => by
   rw [I.toT_kids] at hu
   obtain ⟨v, hv, rfl⟩ := List.mem_map.1 hu
   exact (node_live v (h7 v hv)).2.2
  have e : ∀ l : List T, (l.map fun u => 60000 * u.size).sum = 60000 * (l.map T.size).sum := fun l => by
   induction l with
   |nil => rfl
   |cons a r ih => simp only [List.map_cons, List.sum_cons, ih]; omega
  rw [e] at hb
  rw [T.size_eq] at hs
  rw [T.bulk_eq, I.toT_name, I.toT_text, I.toT_attrs, h4, h5, h6]
  simp; omega
theorem runI_end : ∀ (l : List OpT) (R : I) (k : Nat), ((runI R l k).2.1 ≠ 0 → (runI R l k).1 < k + l.length) ∧ ((runI R l k).2.1 = 0 → (runI R l k).1 = k + l.length)
 |[], R, k => ⟨fun h => absurd rfl h, fun _ => rfl⟩
 |o :: r, R, k => by
  rw [runI]
  by_cases h1 : rightO o = false
  ·rw [if_pos h1]
   exact ⟨fun _ => by rw [List.length_cons]; show k < _; omega, fun h => by cases h⟩
  ·rw [if_neg h1]
   by_cases h2 : opE R o = 0
   ·rw [if_pos h2]
    have := runI_end r (opR R o) (k + 1)
    rw [List.length_cons]
    exact ⟨fun h => by have := this.1 h; omega, fun h => by have := this.2 h; omega⟩
   ·rw [if_neg h2]
    exact ⟨fun _ => by rw [List.length_cons]; show k < _; omega, fun h => absurd h h2⟩
theorem opR_okay {R : I} (hR : R.Okay) {o : OpT} (h : opE R o = 0) : (opR R o).Okay := by
 unfold opE at h
 unfold opR
 by_cases k1 : o.kind = 1
 ·rw [if_pos k1] at h ⊢; exact (ins_okay hR h).1
 rw [if_neg k1] at h ⊢
 by_cases k2 : o.kind = 2
 ·rw [if_pos k2] at h ⊢
  unfold delE at h
  cases he : R.find o.id with
  |none => rw [he] at h; cases h
  |some e =>
   rw [he] at h
   simp only at h
   by_cases hk : e.1.kind = 1
   ·rw [if_pos hk] at h; cases h
   ·obtain ⟨e1, e2⟩ := I.find_some he
    obtain ⟨s0, i, hc⟩ := cutOf hR e1 hk
    rw [← e2, hc.del]; exact hc.okay
 rw [if_neg k2] at h ⊢
 by_cases k3 : o.kind = 3
 ·rw [if_pos k3] at h ⊢
  obtain ⟨_, _, _, _, _, _, _, _, _, h5, h6, _⟩ := mov_okay hR h
  rw [h5]; exact h6
 rw [if_neg k3] at h ⊢
 by_cases k4 : o.kind = 4
 ·rw [if_pos k4] at h ⊢
  unfold setE at h
  unfold attrsOf
  cases he : R.find o.id with
  |none => rw [he] at h; cases h
  |some e =>
   rw [he] at h
   simp only at h ⊢
   obtain ⟨e1, e2⟩ := I.find_some he
   by_cases hk : e.1.kind ≠ 2
   ·rw [if_pos hk] at h; cases h
   rw [if_neg hk] at h
   by_cases hn : nameOk o.name = false
   ·rw [if_pos hn] at h; cases h
   rw [if_neg hn] at h
   by_cases hl : 4096 < o.text.length ∨ (hasA e.1.attrs o.name = false ∧ 12 ≤ e.1.attrs.length)
   ·rw [if_pos hl] at h; cases h
   have hk2 : e.1.kind = 2 := Classical.not_not.1 hk
   obtain ⟨_, _, hal, hao, _⟩ := elAttrs hR e1 hk2
   rw [← e2]
   refine set_okay hR e1 hk2 (withA_ok hao (by simpa using hn) (Nat.le_of_not_lt fun h => hl (.inl h))) ?_
   rw [withA_len hao]
   split
   ·omega
   ·rename_i hh
    have h0 : hasA e.1.attrs o.name = false := by simpa using hh
    have h1 : ¬ 12 ≤ e.1.attrs.length := fun h => hl (.inr ⟨h0, h⟩)
    omega
 rw [if_neg k4] at h ⊢
 by_cases k5 : o.kind = 5
 ·rw [if_pos k5] at h ⊢
  unfold unsE at h
  unfold attrsOf
  cases he : R.find o.id with
  |none => rw [he] at h; cases h
  |some e =>
   rw [he] at h
   simp only at h ⊢
   obtain ⟨e1, e2⟩ := I.find_some he
   by_cases hk : e.1.kind ≠ 2
   ·rw [if_pos hk] at h; cases h
   have hk2 : e.1.kind = 2 := Classical.not_not.1 hk
   obtain ⟨_, _, hal, hao, _⟩ := elAttrs hR e1 hk2
   rw [← e2]
   exact set_okay hR e1 hk2 (withoutA_ok hao _) (Nat.le_trans (List.length_filter_le _ _) hal)
 rw [if_neg k5] at h ⊢
 unfold txtE at h
 cases he : R.find o.id with
 |none => rw [he] at h; cases h
 |some e =>
  rw [he] at h
  simp only at h
  obtain ⟨e1, e2⟩ := I.find_some he
  by_cases hk : e.1.kind ≠ 3 ∧ e.1.kind ≠ 4
  ·rw [if_pos hk] at h; cases h
  rw [if_neg hk] at h
  by_cases ht : e.1.kind = 3 ∧ o.text = []
  ·rw [if_pos ht] at h; cases h
  rw [if_neg ht] at h
  by_cases hl : 4096 < o.text.length
  ·rw [if_pos hl] at h; cases h
  have hk1 : e.1.kind ≠ 1 := fun h1 => hk ⟨by rw [h1]; decide, by rw [h1]; decide⟩
  have hno := hR.node e1 hk1
  have hk2 : e.1.kind ≠ 2 := fun h1 => hk ⟨by rw [h1]; decide, by rw [h1]; decide⟩
  refine hR.upd e1 e2 hk1 ?_
  have hkid := I.node_ne hk2 hno
  rw [nodeOk_ne (by rw [I.toT_kind]; exact hk2), I.toT_name, I.toT_text, I.toT_attrs, I.toT_kids, I.toT_kind] at hno
  rw [nodeOk_ne (by rw [I.toT_kind]; exact hk2), I.toT_name, I.toT_text, I.toT_attrs, I.toT_kids, I.toT_kind, I.mk_name, I.mk_text, I.mk_attrs, I.mk_kids, I.mk_kind, hkid]
  simp only [Bool.and_eq_true] at hno
  have h34 : e.1.kind = 3 ∨ e.1.kind = 4 := by omega
  rcases h34 with h3 | h4
  ·have h9 := hno.2
   rw [if_pos h3] at h9 ⊢
   simp only [Bool.and_eq_true] at h9
   have hx : o.text ≠ [] := fun e => ht ⟨h3, e⟩
   rw [h9.1.1]
   have : o.text.isEmpty = false := by simpa using hx
   rw [this]; simp; omega
  ·have h9 := hno.2
   rw [if_neg (by omega), if_pos h4] at h9 ⊢
   simp only [Bool.and_eq_true] at h9
   rw [h9.1]; simp; omega
theorem runI_okay : ∀ (l : List OpT) (R : I) (k : Nat), R.Okay → (runI R l k).2.2.Okay
 |[], R, k, h => h
 |o :: r, R, k, h => by
  rw [runI]
  by_cases h1 : rightO o = false
  ·rw [if_pos h1]; exact h
  ·rw [if_neg h1]
   by_cases h2 : opE R o = 0
   ·rw [if_pos h2]; exact runI_okay r _ _ (opR_okay h h2)
   ·rw [if_neg h2]; exact h
end
section
open Go.RowKit Go.MapKept
theorem Nur.wide {A A' : List Nat} {w : World} {s : Sl} {ts : List T} (h : Nur A w s ts) (hA : ∀ b ∈ A', b ∈ A ∨ w.heap.size ≤ b) : Nur A' w s ts := by
 obtain ⟨ps, hl, ho, hr⟩ := h
 refine ⟨ps, hl, ho.avoid fun b hb hm => ?_, fun i t p ht hp => RdT.wide (hr i t p ht hp) fun b hb => ?_⟩
 ·have h2 := ho.blk b hb
  rcases hA b hm with h3 | h3
  ·exact h2.1 h3
  ·omega
 ·rcases List.mem_append.1 hb with hb | hb
  ·exact .inl (List.mem_append_left _ hb)
  ·exact (hA b hb).imp_left fun h => List.mem_append_right _ h
theorem Nur.setLast {A : List Nat} {w w' : World} {s : Sl} {us : List T} {u t : T} {sa sk : Sl} {g : Nat} {cur : List Value} (h : Nur A w s (us ++ [u])) (hg : s.a = some ⟨g, 0, none⟩) (hb : Box w g 25 cur) (hC : Chg [g] w w')
  (hb' : Box w' g 25 (putAt cur (us.length * 5) (tc t (sa, sk)))) (ht : RdT (s.blk ++ A) w t sa sk) : Nur A w' s (us ++ [t]) := by
 obtain ⟨ps, hl, ho, hr⟩ := h
 have hgs : s.blk = [g] := by simp [Sl.blk, hg]
 have hgm : ∀ b ∈ [g], b ∈ s.blk ++ A := by rw [hgs]; simp
 rw [List.length_append, List.length_singleton] at hl
 obtain ⟨ps0, q, rfl⟩ : ∃ ps0 q, ps = ps0 ++ [q] := by
  have hne : ps ≠ [] := fun e => by rw [e] at hl; simp at hl
  exact ⟨ps.dropLast, ps.getLast hne, (List.dropLast_concat_getLast hne).symm⟩
 have hl0 : ps0.length = us.length := by simpa using hl
 have hz : (List.zipWith tc us ps0).length = us.length := by simp [hl0]
 rw [List.zipWith_append hl0.symm] at ho
 have hput := ho.put (o := 0) (us := tc t (sa, sk)) (j := us.length) hg hb (by rw [List.length_append, hz]; simp) (by simp [tc]) hb'
 have hgd : (List.zipWith tc us ps0 ++ List.zipWith tc [u] [q]).getD us.length [] = tc u q := by
  rw [List.getD_eq_getElem?_getD, List.getElem?_append_right (by omega), hz, Nat.sub_self]; rfl
 have hset : (List.zipWith tc us ps0 ++ List.zipWith tc [u] [q]).set us.length (tc t (sa, sk)) = List.zipWith tc (us ++ [t]) (ps0 ++ [(sa, sk)]) := by
  rw [List.zipWith_append hl0.symm, List.set_append_right _ _ (by omega), hz, Nat.sub_self]; rfl
 rw [hgd, show putAt (tc u q) 0 (tc t (sa, sk)) = tc t (sa, sk) from rfl, hset] at hput
 refine ⟨ps0 ++ [(sa, sk)], by simp [hl0], hput, fun i x p hx hp => ?_⟩
 rcases Nat.lt_trichotomy i us.length with hi | hi | hi
 ·rw [List.getElem?_append_left hi] at hx
  rw [List.getElem?_append_left (by omega)] at hp
  exact RdT.chg hC hgm (hr i x p (by rw [List.getElem?_append_left hi]; exact hx) (by rw [List.getElem?_append_left (by omega)]; exact hp))
 ·rw [List.getElem?_append_right (by omega), hi, Nat.sub_self] at hx
  rw [List.getElem?_append_right (by omega), hi, hl0, Nat.sub_self] at hp
  simp at hx hp
  subst hx; subst hp
  exact RdT.chg hC hgm ht
 ·have := (List.getElem?_eq_some_iff.1 hx).1
  simp at this; omega
theorem each1 {A Z : List Nat} {w : World} {D c : Nat} {R : I} {s : Sl} {us : List T} (hD : Dom A w D R) (hA : ∀ b ∈ A, b < w.heap.size) (hc : Box w c 23 [s.v]) (hcZ : c ∈ Z) (hZA : ∀ b ∈ Z, b ∈ A) (hN : Nur (Z ++ Free A w) w s us) (hs : ∀ b ∈ s.blk, b ∈ A) (hlen : us.length ≤ 2000) :
  Calls Tryz.prog 23 #[.pointer (some ⟨D, 0, none⟩), .pointer (some ⟨c, 0, none⟩)] w (Ret fun v w' => v = .tuple #[] ∧ ∃ (s' : Sl) (A' : List Nat), (∀ b ∈ A, b ∈ A') ∧ (∀ b ∈ A', b < w'.heap.size) ∧ Dom A' w' D R ∧ Box w' c 23 [s'.v] ∧ Nur (Z ++ Free A' w') w' s' (us ++ [R.toT]) ∧ (∀ b ∈ s'.blk, b ∈ A') ∧
   ∃ F, Chg F w w' ∧ ∀ b ∈ F, b = c ∨ b ∈ s.own ∨ w.heap.size ≤ b) := by
 refine apply_Each_1.ok _ _ ?_
 unfold apply_Each_1.vc
 intro w1 hE1
 have hclt := hc.lt
 refine ⟨s, (hc.ext hE1).cell 0 _ rfl, fun k n x a b w' => k = R.toT.kind ∧ n = R.toT.name ∧ x = R.toT.text ∧ RdT (List.range w1.heap.size) w' R.toT a b, fun _ _ _ _ _ _ _ hE h => ⟨h.1, h.2.1, h.2.2.1, h.2.2.2.ext hE⟩, fun w' hE' => ?_, ?_⟩
 ·refine Ret.mono (domTree ((hD.ext hE1).ext hE')) ?_
  rintro v w'' ⟨h1, sa, sk, h2, h3⟩
  exact ⟨h1, _, _, _, sa, sk, h2, rfl, rfl, rfl, h3.less fun b hb => List.mem_range.2 (Nat.lt_of_lt_of_le (List.mem_range.1 hb) hE'.size)⟩
 rintro w2 _ _ _ sa sk B2 hE2 ⟨rfl, rfl, rfl, hrd⟩ hB2 hbox2 _
 have hE02 := hE1.trans hE2
 obtain ⟨X, hX⟩ : ∃ X, X = Z ++ Free A w := ⟨_, rfl⟩
 rw [← hX] at hN
 have hXlt : ∀ b ∈ X, b < w.heap.size := fun b hb => by
  rw [hX] at hb
  rcases List.mem_append.1 hb with hb | hb
  ·exact hA b (hZA b hb)
  ·exact (mem_free.1 hb).1
 have hcX : c ∈ X := by rw [hX]; exact List.mem_append_left _ hcZ
 have hown := hN.own
 have hsn := hown.1
 have hco : c ∉ s.own := fun hm => (hown.2.2.2 c (Sl.own_blk hm)).1 hcX
 have hN2 := hN.ext hE02
 refine hN2.push (u := T.nul) (su := Sl.nil) (sk := Sl.nil) (fun b hb => Nat.lt_of_lt_of_le (hXlt b hb) hE02.size) hbox2 (RdT.nil _ _ _ _ _) (by omega) (by simp) fun s' w3 hN3 hC3 hbl => ?_
 have hc3 : Box w3 c 23 [s.v] := (hc.ext hE02).keep hC3 hco
 refine ⟨s', rfl, hc3.cell 0 _ rfl, ?_⟩
 have hs'n := hN3.own.1
 rw [List.length_append, List.length_singleton] at hs'n
 have hN3' := hN3
 obtain ⟨ps, hpl, ho, _⟩ := hN3'
 obtain ⟨g, cur, hg, hgX, hgB, hgl⟩ : ∃ g cur, s'.a = some ⟨g, 0, none⟩ ∧ g ∉ X ∧ Box w3 g 25 cur ∧ cur.length = s'.c * 5 := by
  rcases ho.at_ with e | ⟨g, cur, h1, h2, h3, h4, _⟩
  ·rw [e] at hs'n; simp [Sl.nil] at hs'n
  ·exact ⟨g, cur, h1, h2, h3, h4⟩
 have hcap := ho.cap
 have hgs : s'.blk = [g] := by simp [Sl.blk, hg]
 have hgc : g ≠ c := fun e => hgX (e ▸ hcX)
 have hgo : g ∈ s.own ∨ w.heap.size ≤ g := (hbl g (by rw [hgs]; simp)).imp_right fun h => Nat.le_trans hE02.size h
 have hso : ∀ b ∈ s.own, b ∈ A ∧ b < w.heap.size := fun b hb => ⟨hs b (Sl.own_blk hb), (hown.2.2.2 b (Sl.own_blk hb)).2⟩
 have hrd3 : RdT (s'.blk ++ X) w3 R.toT sa sk := by
  have h1 : RdT (s.own ++ (s'.blk ++ X)) w2 R.toT sa sk := RdT.wide hrd fun b hb => by
   rcases List.mem_append.1 hb with hb | hb
   ·exact .inl (List.mem_range.2 (Nat.lt_of_lt_of_le (hso b hb).2 hE1.size))
   ·rcases List.mem_append.1 hb with hb | hb
    ·exact (hbl b hb).imp_left fun h => List.mem_range.2 (Nat.lt_of_lt_of_le (hso b h).2 hE1.size)
    ·exact .inl (List.mem_range.2 (Nat.lt_of_lt_of_le (hXlt b hb) hE1.size))
  exact (RdT.chg hC3 (fun b hb => List.mem_append_left _ hb) h1).less fun b hb => List.mem_append_right _ hb
 have hput : (us.length * 5 : Nat) + 5 ≤ cur.length := by rw [hgl]; omega
 have fin : ∀ {wf : World}, Chg [c, g] w3 wf → Box wf c 23 [s'.v] → Nur X wf s' (us ++ [R.toT]) → ∃ (s' : Sl) (A' : List Nat), (∀ b ∈ A, b ∈ A') ∧ (∀ b ∈ A', b < wf.heap.size) ∧ Dom A' wf D R ∧ Box wf c 23 [s'.v] ∧ Nur (Z ++ Free A' wf) wf s' (us ++ [R.toT]) ∧ (∀ b ∈ s'.blk, b ∈ A') ∧
   ∃ F, Chg F w wf ∧ ∀ b ∈ F, b = c ∨ b ∈ s.own ∨ w.heap.size ≤ b := fun {wf} hC hcf hNf => by
  have hsz : w.heap.size ≤ wf.heap.size := Nat.le_trans hE02.size (Nat.le_trans hC3.size hC.size)
  have hglt : g < wf.heap.size := Nat.lt_of_lt_of_le hgB.lt hC.size
  have hin : ∀ b, b < wf.heap.size → w.heap.size ≤ b → b ∈ List.range' w.heap.size (wf.heap.size - w.heap.size) := fun b h1 h2 => List.mem_range'_1.2 ⟨h2, by omega⟩
  have hgA : g ∈ A ++ List.range' w.heap.size (wf.heap.size - w.heap.size) := by
   rcases hgo with h | h
   ·exact List.mem_append_left _ (hso g h).1
   ·exact List.mem_append_right _ (hin g hglt h)
  have hCf : Chg (c :: g :: s.own) w wf := ((hE02.mono (by simp)).trans (hC3.mono fun b hb => by simp [hb])).trans (hC.mono fun b hb => by simp at hb; rcases hb with rfl | rfl <;> simp)
  refine ⟨s', A ++ List.range' w.heap.size (wf.heap.size - w.heap.size), fun b hb => List.mem_append_left _ hb, fun b hb => ?_, ?_, hcf, hNf.less fun b hb => ?_, fun b hb => ?_, _, hCf, fun b hb => ?_⟩
  ·rcases List.mem_append.1 hb with hb | hb
   ·exact Nat.lt_of_lt_of_le (hA b hb) hsz
   ·have := List.mem_range'_1.1 hb; omega
  ·refine (hD.wide fun b hb => ?_).chg hCf fun b hb => ?_
   ·rcases List.mem_append.1 hb with hb | hb
    ·exact .inl hb
    ·exact .inr (List.mem_range'_1.1 hb).1
   ·rcases List.mem_cons.1 hb with rfl | hb
    ·exact List.mem_append_left _ (hZA _ hcZ)
    ·rcases List.mem_cons.1 hb with rfl | hb
     ·exact hgA
     ·exact List.mem_append_left _ (hso b hb).1
  ·rw [hX]
   rcases List.mem_append.1 hb with hb | hb
   ·exact List.mem_append_left _ hb
   ·obtain ⟨h1, h2⟩ := mem_free.1 hb
    refine List.mem_append_right _ (mem_free.2 ⟨Nat.lt_of_not_le fun h => h2 (List.mem_append_right _ (hin b h1 h)), fun hm => h2 (List.mem_append_left _ hm)⟩)
  ·rw [hgs] at hb
   rw [List.mem_singleton.1 hb]; exact hgA
  ·rcases List.mem_cons.1 hb with rfl | hb
   ·exact .inl rfl
   ·rcases List.mem_cons.1 hb with rfl | hb
    ·exact .inr hgo
    ·exact .inr (.inl hb)
 have hcg : ∀ b ∈ [c], b ∈ X := by simpa using hcX
 refine ⟨⟨g, 0, none⟩, ⟨⟨by omega, by omega⟩, hg⟩, ⟨g, us.length * 5, _, cur, by rw [Addr.add_lit, Nat.zero_add, Int.toNat_natCast, hsn], hgB, hput, by simp, fun w4 hC4 hB4 => ⟨c, 0, _, [s.v], rfl, hc3.keep hC4 (by simpa using fun e => hgc e.symm), by simp, by simp, fun w5 hC5 hB5 w6 hE6 => ⟨rfl, fin ?_ (hB5.ext hE6) ?_⟩⟩⟩, ⟨c, 0, _, [s.v], rfl, hc3, by simp, by simp, fun w4 hC4 hB4 => ⟨g, us.length * 5, _, cur, by rw [Addr.add_lit, Nat.zero_add, Int.toNat_natCast, hsn], hgB.keep hC4 (by simpa using hgc), hput, by simp, fun w5 hC5 hB5 w6 hE6 => ⟨rfl, fin ?_ ?_ ?_⟩⟩⟩⟩
 ·exact ((hC4.mono fun b hb => by simp at hb; simp [hb]).trans (hC5.mono fun b hb => by simp at hb; simp [hb])).trans (hE6.mono (by simp))
 ·exact ((hN3.setLast hg hgB hC4 hB4 hrd3).chg hC5 hcg).ext hE6
 ·exact ((hC4.mono fun b hb => by simp at hb; simp [hb]).trans (hC5.mono fun b hb => by simp at hb; simp [hb])).trans (hE6.mono (by simp))
 ·exact (Box.keep hB4 hC5 (by simpa using fun e => hgc e.symm)).ext hE6
 ·exact ((hN3.chg hC4 hcg).setLast hg (hgB.keep hC4 (by simpa using hgc)) hC5 hB5 (RdT.chg hC4 (fun b hb => List.mem_append_right _ (hcg b hb)) hrd3)).ext hE6
def runE : I → List OpT → List T
 |_, [] => []
 |R, o :: r => if rightO o = false then [] else if opE R o = 0 then (opR R o).toT :: runE (opR R o) r else []
def eachT (t : T) (ops : List OpT) : List T := if t.check = false then [] else if 1500 < ops.length then [] else runE (I.num t 0) ops
theorem noTouch {F bx : List Nat} {w w' : World} (h : Chg F w w') (hb : ∀ b ∈ bx, b ∉ F) : NoTouch bx w w' := h.noTouch bx hb
theorem CallK.some {P : Program} {f : FuncId} {args : Array Value} {w : World} {bx : List Nat} {R K : Value → World → Prop} {G : Nat → Prop}
  (h : Calls P f args w (Ret fun v w' => (∃ F, Chg F w w' ∧ ∀ b ∈ F, G b) ∧ R v w')) (hd : ∀ b ∈ bx, ¬ G b) (k : ∀ v w', (∃ F, Chg F w w' ∧ ∀ b ∈ F, G b) → R v w' → K v w') : CallK P f args w bx K :=
 Ret.mono h fun v w' ⟨⟨F, hF, hG⟩, hr⟩ => ⟨noTouch hF fun b hb hm => hd b hb (hG b hm), hF.size, k v w' ⟨F, hF, hG⟩ hr⟩
theorem eachRun {X : List Nat} {w : World} {t : T} {sa sk l : Sl} {ops : List OpT} {c : Nat} (hr : RdT X w t sa sk) (hb : t.span ≤ 900000) (hl : Row [c] w l 7 (ops.map oc)) (hc : Box w c 23 [Sl.v Sl.nil]) :
  Calls Tryz.prog 18 #[tv t sa sk, l.v, .func (.func 23) #[] #[.pointer (some ⟨c, 0, none⟩)]] w (Ret fun v w' => Chg [c] w w' ∧ ∃ (p : Option Addr) (n e : Int) (s : Sl), v = .tuple #[.pointer p, .int .i64 n, .int .i64 e] ∧ Box w' c 23 [s.v] ∧ Nur [] w' s (eachT t ops)) := by
 refine apply_run.ok _ _ _ _ _ _ _ ?_
 unfold apply_run.vc
 intro w1 B1 hN1 hE1
 refine CallK.ext (domNew (hr.ext hE1) hb) ?_
 rintro v w2 hE2 (⟨h, rfl⟩ | ⟨hck, D, rfl, hD⟩)
 ·have hx : eachT t ops = [] := by unfold eachT; rw [if_pos h]
  rw [hx]
  exact ⟨none, 1, rfl, fun _ => ⟨(hE1.trans hE2).mono (by simp), none, _, _, Sl.nil, rfl, hc.ext (hE1.trans hE2), Nur.nil _ _⟩, fun h => absurd (by decide) h⟩
 have hln := hl.len
 rw [List.length_map] at hln
 have hE02 := hE1.trans hE2
 refine ⟨_, 0, rfl, fun h => absurd rfl h, fun _ => ⟨fun hbig => ?_, fun hsm => ?_⟩⟩
 ·have hx : eachT t ops = [] := by unfold eachT; rw [if_neg (by rw [hck]; decide), if_pos (by omega)]
  rw [hx]
  exact ⟨hE02.mono (by simp), none, _, _, Sl.nil, rfl, hc.ext hE02, Nur.nil _ _⟩
 have hx : eachT t ops = runE (I.num t 0) ops := by unfold eachT; rw [if_neg (by rw [hck]; decide), if_neg (by omega)]
 rw [hx]
 refine CallK.exact (callsC w2) fun w3 hE3 => ⟨rfl, fun w4 B4 hN4 hE4 => ?_⟩
 have hE04 := (hE02.trans hE3).trans hE4
 have hb4 := hN4.ge
 have hclt := hc.lt
 obtain ⟨Z, hZ⟩ : ∃ Z, Z = B4 :: List.range w1.heap.size := ⟨_, rfl⟩
 have hD4 : Dom Z w4 D (I.num t 0) := (hD.wide (A' := Z) fun b hb => by
  rw [hZ] at hb
  rcases List.mem_cons.1 hb with rfl | hb
  ·exact .inr (Nat.le_trans hE3.size hb4)
  ·exact .inl hb).ext (hE3.trans hE4)
 have hBZ : B4 ∈ Z := by rw [hZ]; exact List.mem_cons_self ..
 have hoZ : ∀ x, x < w.heap.size → x ∈ Z := fun x hx => by rw [hZ]; exact List.mem_cons_of_mem _ (List.mem_range.2 (Nat.lt_of_lt_of_le hx hE1.size))
 have hZ4 : ∀ b ∈ Z, b < w4.heap.size := fun b hb => by
  rw [hZ] at hb
  rcases List.mem_cons.1 hb with rfl | hb
  ·exact hN4.lt
  ·exact Nat.lt_of_lt_of_le (List.mem_range.1 hb) (Nat.le_trans hE2.size (Nat.le_trans hE3.size hE4.size))
 have hcB : c ≠ B4 := by have := hE02.size; have := hE3.size; omega
 have hcZ := hoZ c hclt
 clear hZ
 refine ⟨fun x w' => ∃ (k : Nat) (R : I) (A : List Nat) (us : List T) (s : Sl), x = (k : Int) ∧ k ≤ ops.length ∧ Dom A w' D R ∧ (∀ b ∈ A, b < w'.heap.size) ∧ (∀ b ∈ Z, b ∈ A) ∧ Box w' c 23 [s.v] ∧ Nur (Z ++ Free A w') w' s us ∧ (∀ b ∈ s.blk, b ∈ A) ∧ us.length = k ∧ Chg [c] w w' ∧ runE (I.num t 0) ops = us ++ runE R (ops.drop k), fun x _ => ops.length - x.toNat,
  ⟨0, _, Z, [], Sl.nil, rfl, by omega, hD4, hZ4, fun b hb => hb, hc.ext hE04, Nur.nil _ _, by simp [Sl.blk, Sl.nil], rfl, hE04.mono (by simp), rfl⟩, ?_⟩
 rintro _ w5 ⟨k, R, A, us, s, rfl, hk, hD5, hA5, hZA, hc5, hNu5, hsA, hul, hC5, hrun⟩
 have done : ∀ {w' : World} {e : Int}, Chg [c] w w' → Box w' c 23 [s.v] → Nur [] w' s us → runE R (ops.drop k) = [] → ∀ (p : Option Addr) (n : Int), Chg [c] w w' ∧ ∃ (p' : Option Addr) (n' e' : Int) (s : Sl), Value.tuple #[.pointer p, .int .i64 n, .int .i64 e] = .tuple #[.pointer p', .int .i64 n', .int .i64 e'] ∧ Box w' c 23 [s.v] ∧ Nur [] w' s (runE (I.num t 0) ops) := fun {w' e} h1 h2 h3 h4 p n => by
  rw [hrun, h4, List.append_nil]
  exact ⟨h1, _, _, _, s, rfl, h2, h3⟩
 refine ⟨fun hlt => ?_, fun hge => ?_⟩
 ·have hk' : k < ops.length := by omega
  obtain ⟨p, hp, _, hcell, _⟩ := (hl.chg hC5 (by simp)).at_ k (by simpa using hk')
  have hgd : (ops.map oc).getD k [] = oc ops[k] := by simp [List.getD_eq_getElem?_getD, hk']
  rw [hgd] at hcell
  have hdr : ops.drop k = ops[k] :: ops.drop (k + 1) := List.drop_eq_getElem_cons hk'
  generalize ops[k] = o at hcell hdr
  refine ⟨⟨by omega, by omega⟩, p, hp, o.kind, o.id, o.par, o.at_, o.what, o.name, o.text, by rw [Int.toNat_natCast]; exact hcell, fun w6 B6 hN6 hE6 => ?_⟩
  have hb6 := hN6.ge
  refine CallK.exact (callRight o) fun w7 hE7 => ⟨_, rfl, fun hno => ?_, fun hyes w8 hE8 => ?_⟩
  ·have hE57 := hE6.trans hE7
   exact done (hC5.more' hE57 (by simp)) (hc5.ext hE57) ((hNu5.ext hE57).less (by simp)) (by rw [hdr, runE, if_pos hno]) none _
  have hkd := right_kind hyes
  have hrn : ¬ rightO o = false := by rw [hyes]; decide
  refine ⟨⟨by omega, by omega⟩, ?_⟩
  have hE58 := (hE6.trans hE7).trans hE8
  have hD8 : Dom (B6 :: A) w8 D R := (hD5.wide (A' := B6 :: A) fun b hb => by
   rcases List.mem_cons.1 hb with rfl | hb
   ·exact .inr hb6
   ·exact .inl hb).ext hE58
  have hA8 : ∀ {w' : World}, Ext w8 w' → ∀ b ∈ B6 :: A, b < w'.heap.size := fun hE b hb => by
   rcases List.mem_cons.1 hb with rfl | hb
   ·exact Nat.lt_of_lt_of_le hN6.lt (Nat.le_trans hE7.size (Nat.le_trans hE8.size hE.size))
   ·exact Nat.lt_of_lt_of_le (hA5 b hb) (Nat.le_trans hE58.size hE.size)
  obtain ⟨f, hfl, hbody, _⟩ := doCall hD8 (hA8 (Chg.refl _ _)) o hkd.1 hkd.2
  refine ⟨f, #[], #[], hfl, fun w9 hE9 => ⟨hbody, ?_⟩⟩
  have hD9 := hD8.ext hE9
  obtain ⟨f', hfl', _, hcall⟩ := doCall hD9 (hA8 hE9) o hkd.1 hkd.2
  have hff : f' = f := by
   have := hfl'.symm.trans hfl
   injection this with h1
   injection h1
  subst hff
  refine CallK.mod (A := B6 :: A) (R := fun v w' => v = .int .i64 (opE R o) ∧ Dom (B6 :: A) w' D (if opE R o = 0 then opR R o else R)) (Ret.mono hcall ?_) ?_ ?_
  ·rintro v w' ⟨rfl, h⟩
   by_cases h0 : opE R o = 0
   ·rw [if_pos h0] at h ⊢; exact ⟨h.1, rfl, h.2⟩
   ·rw [if_neg h0] at h ⊢; exact ⟨Mod.ext h, rfl, hD9.ext h⟩
  ·intro b hb
   simp only [List.mem_cons, List.not_mem_nil, or_false] at hb
   rcases hb with rfl | rfl
   ·exact List.mem_cons_of_mem _ (hZA _ hBZ)
   ·exact List.mem_cons_self ..
  rintro v w10 hM10 ⟨rfl, hD10⟩
  have hE59 := hE58.trans hE9
  have hC9 : Chg [c] w w9 := hC5.more' hE59 (by simp)
  have hC10 : Chg [c] w w10 := ⟨hM10.os.trans hC9.os, hM10.tape.trans hC9.tape, hM10.output.trans hC9.output, Nat.le_trans hC9.size hM10.size, fun i hi hn => (hM10.block i (Nat.lt_of_lt_of_le hi hC9.size) (List.mem_cons_of_mem _ (hZA _ (hoZ i hi)))).trans (hC9.block i hi hn)⟩
  have hc10 : Box w10 c 23 [s.v] := (hc5.ext hE59).mod hM10 (List.mem_cons_of_mem _ (hZA _ hcZ))
  have hNu10 : Nur (Z ++ Free A w10) w10 s us := by
   have h1 : Nur (Z ++ Free A w10) w5 s us := hNu5.wide fun b hb => by
    rcases List.mem_append.1 hb with hb | hb
    ·exact .inl (List.mem_append_left _ hb)
    ·obtain ⟨_, h2⟩ := mem_free.1 hb
     by_cases hlt : b < w5.heap.size
     ·exact .inl (List.mem_append_right _ (mem_free.2 ⟨hlt, h2⟩))
     ·exact .inr (by omega)
   refine (h1.ext hE59).chg hM10.chg fun b hb => ?_
   obtain ⟨h2, h3⟩ := mem_free.1 hb
   exact List.mem_append_right _ (mem_free.2 ⟨Nat.lt_of_lt_of_le h2 hM10.size, fun hm => h3 (List.mem_cons_of_mem _ hm)⟩)
  refine ⟨_, rfl, fun hne => ?_, fun hz => ?_⟩
  ·exact done hC10 hc10 (hNu10.less (by simp)) (by rw [hdr, runE, if_neg hrn, if_neg hne]) none _
  have hz : opE R o = 0 := Classical.not_not.1 hz
  rw [if_pos hz] at hD10
  have hA10 : ∀ b ∈ A, b < w10.heap.size := fun b hb => Nat.lt_of_lt_of_le (hA5 b hb) (Nat.le_trans hE59.size hM10.size)
  have hsz : w.heap.size ≤ w10.heap.size := hC10.size
  refine ⟨23, #[], #[.pointer (some ⟨c, 0, none⟩)], rfl, ⟨_, Tryz.func23, by decide, rfl⟩, ?_⟩
  refine CallK.some (G := fun b => b = c ∨ b ∈ s.own ∨ w10.heap.size ≤ b) (R := fun v w' => v = .tuple #[] ∧ ∃ (s' : Sl) (A' : List Nat), (∀ b ∈ A, b ∈ A') ∧ (∀ b ∈ A', b < w'.heap.size) ∧ Dom A' w' D (opR R o) ∧ Box w' c 23 [s'.v] ∧ Nur (Z ++ Free A' w') w' s' (us ++ [(opR R o).toT]) ∧ (∀ b ∈ s'.blk, b ∈ A')) (Ret.mono (each1 (hD10.wide fun b hb => .inl (List.mem_cons_of_mem _ hb)) hA10 hc10 hcZ hZA hNu10 hsA (by omega)) ?_) ?_ ?_
  ·rintro v w' ⟨rfl, s', A', h1, h2, h3, h4, h5, h6, h7⟩
   exact ⟨h7, rfl, s', A', h1, h2, h3, h4, h5, h6⟩
  ·intro b hb hG
   rw [List.mem_singleton.1 hb] at hG
   rcases hG with h | h | h
   ·exact hcB h.symm
   ·exact (hNu10.own.2.2.2 B4 (Sl.own_blk h)).1 (List.mem_append_left _ hBZ)
   ·have := hA10 B4 (hZA _ hBZ); omega
  rintro v w11 ⟨F, hF, hG⟩ ⟨rfl, s', A', h1, h2, h3, h4, h5, h6⟩
  refine ⟨rfl, ⟨by omega, by omega⟩, ⟨k + 1, opR R o, A', us ++ [(opR R o).toT], s', by omega, by omega, h3, h2, fun b hb => h1 b (hZA b hb), h4, h5, h6, by rw [List.length_append, hul]; rfl, hC10.more' hF fun b hb => ?_, ?_⟩, by dsimp only; omega⟩
  ·rcases hG b hb with h | h | h
   ·exact .inl (by simp [h])
   ·refine .inr (Nat.le_of_not_lt fun hlt => (hNu10.own.2.2.2 b (Sl.own_blk h)).1 (List.mem_append_left _ (hoZ b hlt)))
   ·exact .inr (by omega)
  ·rw [hrun, hdr, runE, if_neg hrn, if_pos hz, List.append_assoc]; rfl
 ·exact done hC5 hc5 (hNu5.less (by simp)) (by rw [List.drop_of_length_le (by omega)]; rfl) _ _
theorem eachCall {X L : List Nat} {w : World} {t : T} {sa sk l : Sl} {ops : List OpT} (hr : RdT X w t sa sk) (hb : t.span ≤ 900000) (hl : Row L w l 7 (ops.map oc)) :
  Calls Tryz.prog 14 #[tv t sa sk, l.v] w (Ret fun v w' => Ext w w' ∧ ∃ s : Sl, v = s.v ∧ Nur [] w' s (eachT t ops)) := by
 refine apply_Each.ok _ _ _ _ _ _ ?_
 unfold apply_Each.vc
 intro w1 B1 c hN1 hN2 hne hE1 hc
 have hge := hN2.ge
 have hl1 : Row [c] w1 l 7 (ops.map oc) := ((hl.less (A' := []) (by simp)).fresh (by decide) hge).ext hE1
 refine CallK.chg (eachRun (hr.ext hE1) hb hl1 hc) (by simpa using hne) ?_
 rintro v w2 hC2 ⟨p, n, e, s, rfl, hbox, hN⟩
 exact ⟨p, n, e, rfl, s, hbox.cell 0 _ rfl, Chg.fresh hE1 hC2 (by simpa using hge), s, rfl, hN⟩
theorem runE_len : ∀ (l : List OpT) (R : I) (k : Nat), (runI R l k).1 = k + (runE R l).length
 |[], R, k => rfl
 |o :: r, R, k => by
  rw [runI, runE]
  by_cases h1 : rightO o = false
  ·rw [if_pos h1, if_pos h1]; rfl
  ·rw [if_neg h1, if_neg h1]
   by_cases h2 : opE R o = 0
   ·rw [if_pos h2, if_pos h2, runE_len r, List.length_cons]; omega
   ·rw [if_neg h2, if_neg h2]; rfl
end
section
open Go.RowKit
theorem nodStep {A : List Nat} {g : FuncId} {args : Array Value} {w w4 : World} {B D : Nat} {R R' : I} {E : Int} {K : Value → World → Prop} (hd : Nod A w D R) (hA : ∀ b ∈ A, b < w.heap.size) (hN : New w B w4) (hE : Ext w w4)
  (h : Nod (B :: A) w4 D R → (∀ b ∈ B :: A, b < w4.heap.size) → Calls Tryz.prog g args w4 (Ret fun v w' => v = .int .i64 E ∧ if E = 0 then Mod (B :: A) w4 w' ∧ Nod (B :: A) w' D R' else Ext w4 w'))
  (k : ∀ w', (if E = 0 then Mod A w w' ∧ Nod A w' D R' else Ext w w') → K (.int .i64 E) w') : CallK Tryz.prog g args w4 [B] K := by
 have hge := hN.ge
 have hD4 : Nod (B :: A) w4 D R := (hd.wide (A' := B :: A) fun b hb => by
  rcases List.mem_cons.1 hb with rfl | hb
  ·exact .inr hge
  ·exact .inl hb).ext hE
 have hA4 : ∀ b ∈ B :: A, b < w4.heap.size := fun b hb => by
  rcases List.mem_cons.1 hb with rfl | hb
  ·exact hN.lt
  ·exact Nat.lt_of_lt_of_le (hA b hb) hE.size
 refine CallK.mod (A := B :: A) (R := fun v w' => v = .int .i64 E ∧ if E = 0 then Mod (B :: A) w4 w' ∧ Nod (B :: A) w' D R' else Ext w4 w') (Ret.mono (h hD4 hA4) ?_) (by simp) ?_
 ·rintro v w' ⟨rfl, h⟩
  by_cases h0 : E = 0
  ·rw [if_pos h0] at h ⊢; exact ⟨h.1, rfl, h⟩
  ·rw [if_neg h0] at h ⊢; exact ⟨Mod.ext h, rfl, h⟩
 ·rintro v w' hM ⟨rfl, h⟩
  refine k w' ?_
  by_cases h0 : E = 0
  ·rw [if_pos h0] at h ⊢
   exact ⟨(Mod.ext hE).trans (h.1.less fun b hb => List.mem_cons_of_mem _ hb), h.2.wide fun b hb => .inl (List.mem_cons_of_mem _ hb)⟩
  ·rw [if_neg h0] at h ⊢; exact hE.trans h
theorem refDo {A : List Nat} {w : World} {D : Nat} {R : I} (hd : Nod A w D R) (hA : ∀ b ∈ A, b < w.heap.size) (o : OpT) (h1 : 1 ≤ o.kind) (h6 : o.kind ≤ 6) :
  Calls Tryz.prog 25 #[.pointer (some ⟨D, 0, none⟩), ov o] w (Ret fun v w' => v = .int .i64 (opE R o) ∧ if opE R o = 0 then Mod A w w' ∧ Nod A w' D (opR R o) else Ext w w') := by
 refine ref22_Do.ok _ _ _ _ _ _ _ _ ?_
 unfold ref22_Do.vc
 obtain ⟨k, id, par, at_, what, name, text⟩ := o
 simp only at h1 h6
 have hk : k = 1 ∨ k = 2 ∨ k = 3 ∨ k = 4 ∨ k = 5 ∨ k = 6 := by omega
 rcases hk with rfl | rfl | rfl | rfl | rfl | rfl
 ·refine ⟨fun _ w4 B hN hE => nodStep hd hA hN hE (fun hD hA4 => nodInsert hD hA4 _ _ _ _ _ _) fun w' h => ⟨_, rfl, rfl, h⟩, fun h => absurd rfl h⟩
 ·refine ⟨fun h => absurd h (by simp), fun _ => ⟨fun _ w4 B hN hE => nodStep hd hA hN hE (fun hD hA4 => nodDelete hD hA4 _) fun w' h => ⟨_, rfl, rfl, h⟩, fun h => absurd rfl h⟩⟩
 ·refine ⟨fun h => absurd h (by simp), fun _ => ⟨fun h => absurd h (by simp), fun _ => ⟨fun _ w4 B hN hE => nodStep hd hA hN hE (fun hD hA4 => nodMove hD hA4 _ _ _) fun w' h => ⟨_, rfl, rfl, h⟩, fun h => absurd rfl h⟩⟩⟩
 ·refine ⟨fun h => absurd h (by simp), fun _ => ⟨fun h => absurd h (by simp), fun _ => ⟨fun h => absurd h (by simp), fun _ => ⟨fun _ w4 B hN hE => nodStep hd hA hN hE (fun hD hA4 => nodSet hD hA4 _ _ _) fun w' h => ⟨_, rfl, rfl, h⟩, fun h => absurd rfl h⟩⟩⟩⟩
 ·refine ⟨fun h => absurd h (by simp), fun _ => ⟨fun h => absurd h (by simp), fun _ => ⟨fun h => absurd h (by simp), fun _ => ⟨fun h => absurd h (by simp), fun _ => ⟨fun _ w4 B hN hE => nodStep hd hA hN hE (fun hD hA4 => nodUnset hD hA4 _ _) fun w' h => ⟨_, rfl, rfl, h⟩, fun h => absurd rfl h⟩⟩⟩⟩⟩
 ·refine ⟨fun h => absurd h (by simp), fun _ => ⟨fun h => absurd h (by simp), fun _ => ⟨fun h => absurd h (by simp), fun _ => ⟨fun h => absurd h (by simp), fun _ => ⟨fun h => absurd h (by simp), fun _ => ⟨fun _ w4 B hN hE => nodStep hd hA hN hE (fun hD hA4 => nodText hD hA4 _ _) fun w' h => ⟨_, rfl, rfl, h⟩, fun h => absurd rfl h⟩⟩⟩⟩⟩⟩
theorem refRight (o : OpT) {w : World} : Calls Tryz.prog 13 #[ov o] w (Ret fun v w' => Ext w w' ∧ v = .bool (rightO o)) := by
 refine ref23_Right.ok _ _ _ _ _ _ _ ?_
 unfold ref23_Right.vc
 have ex : ∀ {w9 w3 : World} {B : Nat}, New w B w9 → Ext w w9 → Chg [B] w9 w3 → Ext w w3 := fun hN hE hC => Chg.fresh hE hC (by have := hN.ge; simpa using this)
 refine ⟨fun hb w3 B hN hE => ⟨hE, ?_⟩, fun hb => ?_⟩
 ·unfold rightO
  rw [if_pos (by rcases hb with h | h; exact .inl (.inr h); exact .inr h)]
 have hid : ¬ (((o.kind < 1 ∨ 6 < o.kind) ∨ o.id < 0) ∨ 1048576 < o.id) ↔ ¬ (o.kind < 1 ∨ 6 < o.kind) := ⟨fun h h' => h (.inl (.inl h')), fun h h' => by
  rcases h' with (h' | h') | h'
  ·exact h h'
  ·exact hb.1 h'
  ·exact hb.2 h'⟩
 obtain ⟨k, id, par, at_, what, name, text⟩ := o
 dsimp only at hb hid ⊢
 refine ⟨fun h1 w9 B B7 hN hN7 _ hE => ⟨hE, ?_⟩, fun h1 => ⟨fun h2 w9 B B7 hN hN7 _ hE => ⟨hE, ?_⟩, fun h2 => ⟨fun h3 w9 B B7 hN hN7 _ hE w53 hC w74 hC2 => ⟨ex hN7 hE (hC.trans hC2), ?_⟩, fun h3 => ⟨fun h4 w9 B B7 hN hN7 _ hE w53 hC w74 hC2 => ⟨ex hN7 hE (hC.trans hC2), ?_⟩, fun h4 => ⟨fun h5 w9 B B7 hN hN7 _ hE => ⟨hE, ?_⟩, fun h5 => ⟨fun h6 w9 B B7 hN hN7 _ hE => ⟨hE, ?_⟩, fun h6 w9 B B7 hN hN7 _ hE => ⟨hE, ?_⟩⟩⟩⟩⟩⟩⟩
 ·subst h1
  unfold rightO
  rw [if_neg (hid.2 (by omega)), if_pos rfl]
 ·subst h2
  unfold rightO
  rw [if_neg (hid.2 (by omega)), if_neg (by simp)]
  congr 1
  rw [Bool.eq_iff_iff, decide_eq_true_iff, Bool.and_eq_true, Bool.and_eq_true, Bool.and_eq_true, Bool.and_eq_true, decide_eq_true_iff, decide_eq_true_iff, decide_eq_true_iff, decide_eq_true_iff, decide_eq_true_iff]
  constructor
  ·rintro ⟨_, _, h1, h2, h3, h4, h5⟩
   exact ⟨⟨⟨⟨h1.symm, h2.symm⟩, h3.symm⟩, h4.symm⟩, h5.symm⟩
  ·rintro ⟨⟨⟨⟨h1, h2⟩, h3⟩, h4⟩, h5⟩
   exact ⟨rfl, rfl, h1.symm, h2.symm, h3.symm, h4.symm, h5.symm⟩
 ·subst h3
  unfold rightO
  rw [if_neg (hid.2 (by omega)), if_neg (by simp)]
  congr 1
  rw [Bool.eq_iff_iff, decide_eq_true_iff, Bool.and_eq_true, Bool.and_eq_true, Bool.and_eq_true, Bool.and_eq_true, decide_eq_true_iff, decide_eq_true_iff, decide_eq_true_iff, decide_eq_true_iff, decide_eq_true_iff]
  constructor
  ·rintro ⟨_, _, h1, h2, h3, h4, h5⟩
   exact ⟨⟨⟨⟨h1.symm, h2.symm⟩, h3.symm⟩, h4.symm⟩, h5.symm⟩
  ·rintro ⟨⟨⟨⟨h1, h2⟩, h3⟩, h4⟩, h5⟩
   exact ⟨rfl, rfl, h1.symm, h2.symm, h3.symm, h4.symm, h5.symm⟩
 ·subst h4
  unfold rightO
  rw [if_neg (hid.2 (by omega)), if_neg (by simp)]
  congr 1
  rw [Bool.eq_iff_iff, decide_eq_true_iff, Bool.and_eq_true, Bool.and_eq_true, Bool.and_eq_true, Bool.and_eq_true, decide_eq_true_iff, decide_eq_true_iff, decide_eq_true_iff, decide_eq_true_iff, decide_eq_true_iff]
  constructor
  ·rintro ⟨_, _, h1, h2, h3, h4, h5⟩
   exact ⟨⟨⟨⟨h1.symm, h2.symm⟩, h3.symm⟩, h4.symm⟩, h5.symm⟩
  ·rintro ⟨⟨⟨⟨h1, h2⟩, h3⟩, h4⟩, h5⟩
   exact ⟨rfl, rfl, h1.symm, h2.symm, h3.symm, h4.symm, h5.symm⟩
 ·subst h5
  unfold rightO
  rw [if_neg (hid.2 (by omega)), if_neg (by simp)]
  congr 1
  rw [Bool.eq_iff_iff, decide_eq_true_iff, Bool.and_eq_true, Bool.and_eq_true, Bool.and_eq_true, Bool.and_eq_true, decide_eq_true_iff, decide_eq_true_iff, decide_eq_true_iff, decide_eq_true_iff, decide_eq_true_iff]
  constructor
  ·rintro ⟨_, _, h1, h2, h3, h4, h5⟩
   exact ⟨⟨⟨⟨h1.symm, h2.symm⟩, h3.symm⟩, h4.symm⟩, h5.symm⟩
  ·rintro ⟨⟨⟨⟨h1, h2⟩, h3⟩, h4⟩, h5⟩
   exact ⟨rfl, rfl, h1.symm, h2.symm, h3.symm, h4.symm, h5.symm⟩
 ·subst h6
  unfold rightO
  rw [if_neg (hid.2 (by omega)), if_neg (by simp)]
  congr 1
  rw [Bool.eq_iff_iff, decide_eq_true_iff, Bool.and_eq_true, Bool.and_eq_true, Bool.and_eq_true, Bool.and_eq_true, decide_eq_true_iff, decide_eq_true_iff, decide_eq_true_iff, decide_eq_true_iff, decide_eq_true_iff]
  constructor
  ·rintro ⟨_, _, h1, h2, h3, h4, h5⟩
   exact ⟨⟨⟨⟨h1.symm, h2.symm⟩, h3.symm⟩, h4.symm⟩, h5.symm⟩
  ·rintro ⟨⟨⟨⟨h1, h2⟩, h3⟩, h4⟩, h5⟩
   exact ⟨rfl, rfl, h1.symm, h2.symm, h3.symm, h4.symm, h5.symm⟩
 ·unfold rightO
  rw [if_pos]
  left; left; simp only; omega
def Rest (A : List Nat) (w w' : World) : List Nat := (List.range w'.heap.size).filter fun b => !(Free A w).contains b
theorem mem_rest {A : List Nat} {w w' : World} {b : Nat} : b ∈ Rest A w w' ↔ b < w'.heap.size ∧ b ∉ Free A w := by simp [Rest]
theorem refEach {X L : List Nat} {w : World} {t : T} {sa sk l : Sl} {ops : List OpT} (hr : RdT X w t sa sk) (hb : t.bulk ≤ 900000000) (hb2 : t.check = true → t.span ≤ 900000) (hl : Row L w l 7 (ops.map oc)) :
  Calls Tryz.prog 15 #[tv t sa sk, l.v] w (Ret fun v w' => Ext w w' ∧ ∃ s : Sl, v = .tuple #[s.v, .int .i64 ((runX t ops).1 : Int), .int .i64 (runX t ops).2.1] ∧ Nur (List.range w.heap.size) w' s (eachT t ops)) := by
 refine ref23_Each.ok _ _ _ _ _ _ ?_
 unfold ref23_Each.vc
 intro w1 B1 hN1 hE1
 have hln := hl.len
 rw [List.length_map] at hln
 refine CallK.ext (nodNew (hr.ext hE1) hb hb2) ?_
 rintro v w2 hE2 (⟨h, rfl⟩ | ⟨hck, D, rfl, hD⟩)
 ·have hx : runX t ops = (0, 1, I.num t 0) := by unfold runX; rw [if_pos h]
  have hy : eachT t ops = [] := by unfold eachT; rw [if_pos h]
  rw [hx, hy]
  exact ⟨none, rfl, fun _ => ⟨hE1.trans hE2, Sl.nil, rfl, Nur.nil _ _⟩, fun hb => by cases hb⟩
 have hE02 := hE1.trans hE2
 refine ⟨_, rfl, fun hb => (by cases hb), fun _ => ⟨fun hbig => ?_, fun hsm => ?_⟩⟩
 ·have hx : runX t ops = (0, 2, I.num t 0) := by unfold runX; rw [if_neg (by rw [hck]; decide), if_pos (by omega)]
  have hy : eachT t ops = [] := by unfold eachT; rw [if_neg (by rw [hck]; decide), if_pos (by omega)]
  rw [hx, hy]
  exact ⟨hE02, Sl.nil, rfl, Nur.nil _ _⟩
 have hx : runX t ops = runI (I.num t 0) ops 0 := by unfold runX; rw [if_neg (by rw [hck]; decide), if_neg (by omega)]
 have hy : eachT t ops = runE (I.num t 0) ops := by unfold eachT; rw [if_neg (by rw [hck]; decide), if_neg (by omega)]
 rw [hx, hy]
 refine ⟨fun m i w' => ∃ (k : Nat) (R : I) (A : List Nat) (us : List T), i = (k : Int) ∧ k ≤ ops.length ∧ (∀ b ∈ A, b < w'.heap.size) ∧ (∀ b, b < w.heap.size → b ∈ A) ∧ Nod A w' D R ∧ Ext w w' ∧ Nur (Free A w' ++ List.range w.heap.size) w' m us ∧ (∀ b ∈ m.blk, b ∈ A ∧ w.heap.size ≤ b) ∧ us.length ≤ k ∧ runI (I.num t 0) ops 0 = runI R (ops.drop k) k ∧ runE (I.num t 0) ops = us ++ runE R (ops.drop k), fun _ i _ => ops.length - i.toNat,
  ⟨0, _, List.range w1.heap.size, [], rfl, by omega, fun b hb => by have := List.mem_range.1 hb; have := hE2.size; omega, fun b hb => List.mem_range.2 (by have := hE1.size; omega), hD, hE02, Nur.nil _ _, by simp [Sl.blk, Sl.nil], by simp, rfl, rfl⟩, ?_⟩
 rintro m _ w5 ⟨k, R, A, us, rfl, hk, hA5, hoA, hD5, hE5, hNu, hmb, hus, hrun, hrunE⟩
 rw [hrun, hrunE]
 refine ⟨fun hlt => ?_, fun hge => ?_⟩
 ·have hk' : k < ops.length := by omega
  have cells : ∀ w', Ext w w' → ∃ p, l.a = some p ∧ Cells w' (p.add (k * 7)) (oc ops[k]) := fun w' hE' => by
   obtain ⟨p, hp, _, hc, _⟩ := (hl.ext hE').at_ k (by simpa using hk')
   have hgd : (ops.map oc).getD k [] = oc ops[k] := by simp [List.getD_eq_getElem?_getD, hk']
   rw [hgd] at hc
   exact ⟨p, hp, hc⟩
  have hdr : ops.drop k = ops[k] :: ops.drop (k + 1) := List.drop_eq_getElem_cons hk'
  rw [hdr]
  obtain ⟨p, hp, hc⟩ := cells w5 hE5
  rw [Int.toNat_natCast]
  generalize ops[k] = o at hc cells
  refine ⟨⟨by omega, by omega⟩, p, hp, o.kind, o.id, o.par, o.at_, o.what, o.name, o.text, hc, CallK.exact (refRight o) fun w7 hE7 => ⟨_, rfl, fun hno => ?_, fun hyes => ?_⟩⟩
  ·rw [runI, if_pos hno, runE, if_pos hno, List.append_nil]
   exact ⟨hE5.trans hE7, m, rfl, (hNu.ext hE7).less fun b hb => List.mem_append_right _ hb⟩
  have hkd := right_kind hyes
  have hrn : ¬ rightO o = false := by rw [hyes]; decide
  rw [runI, if_neg hrn, runE, if_neg hrn]
  have hE57 := hE5.trans hE7
  have hD7 := hD5.ext hE7
  have hA7 : ∀ b ∈ A, b < w7.heap.size := fun b hb => Nat.lt_of_lt_of_le (hA5 b hb) hE7.size
  have hNu7 : Nur (Free A w7 ++ List.range w.heap.size) w7 m us := (hNu.wide (A' := Free A w7 ++ List.range w.heap.size) fun b hb => by
   rcases List.mem_append.1 hb with hb | hb
   ·have hb' := mem_free.1 hb
    by_cases hlt : b < w5.heap.size
    ·exact .inl (List.mem_append_left _ (mem_free.2 ⟨hlt, hb'.2⟩))
    ·exact .inr (by omega)
   ·exact .inl (List.mem_append_right _ hb)).ext hE7
  obtain ⟨p2, hp2, hc2⟩ := cells w7 hE57
  refine ⟨⟨by omega, by omega⟩, p2, hp2, o.kind, o.id, o.par, o.at_, o.what, o.name, o.text, hc2, ?_⟩
  refine CallK.mod (A := A) (R := fun v w' => v = .int .i64 (opE R o) ∧ Nod A w' D (if opE R o = 0 then opR R o else R)) (Ret.mono (refDo hD7 hA7 o hkd.1 hkd.2) ?_) (by simp) ?_
  ·rintro v w' ⟨rfl, h⟩
   by_cases h0 : opE R o = 0
   ·rw [if_pos h0] at h ⊢; exact ⟨h.1, rfl, h.2⟩
   ·rw [if_neg h0] at h ⊢; exact ⟨Mod.ext h, rfl, hD7.ext h⟩
  rintro v w8 hM8 ⟨rfl, hD8⟩
  have hE8 : Ext w w8 := Mod.fresh hE57 hM8 hoA
  have hNu8 : Nur (Free A w8 ++ List.range w.heap.size) w8 m us := (hNu7.wide (A' := Free A w8 ++ List.range w.heap.size) fun b hb => by
   rcases List.mem_append.1 hb with hb | hb
   ·have hb' := mem_free.1 hb
    by_cases hlt : b < w7.heap.size
    ·exact .inl (List.mem_append_left _ (mem_free.2 ⟨hlt, hb'.2⟩))
    ·exact .inr (by omega)
   ·exact .inl (List.mem_append_right _ hb)).chg hM8.chg fun b hb => by
    have hb' := mem_free.1 hb
    exact List.mem_append_left _ (mem_free.2 ⟨Nat.lt_of_lt_of_le hb'.1 hM8.size, hb'.2⟩)
  refine ⟨_, rfl, fun hne => ?_, fun hz => ?_⟩
  ·rw [if_neg hne, if_neg hne, List.append_nil]
   exact ⟨hE8, m, rfl, hNu8.less fun b hb => List.mem_append_right _ hb⟩
  have hz : opE R o = 0 := Classical.not_not.1 hz
  rw [if_pos hz] at hD8
  rw [if_pos hz, if_pos hz]
  refine CallK.ext (nodTree hD8) ?_
  rintro v w9 hE9 ⟨sa9, sk9, rfl, hrd9⟩
  refine ⟨_, _, _, sa9, sk9, rfl, fun w10 B10 hN10 hE10 hbox10 => ?_⟩
  have hE810 := hE9.trans hE10
  have hs9 := hE9.size
  have hs10 := hE10.size
  have hb10 := hN10.ge
  have hs08 := hE8.size
  have hF8 : ∀ b ∈ Free A w8 ++ List.range w.heap.size, b < w8.heap.size := fun b hb => by
   rcases List.mem_append.1 hb with hb | hb
   ·exact (mem_free.1 hb).1
   ·have := List.mem_range.1 hb; omega
  have hF : ∀ b ∈ Free A w8 ++ List.range w.heap.size, b < w10.heap.size := fun b hb => by have := hF8 b hb; omega
  refine (hNu8.ext hE810).push hF hbox10 ((hrd9.ext hE10).less fun b hb => List.mem_range.2 ?_) (by have := hus; omega) (by simp) fun s' w11 hN11 hC11 hbl11 => ⟨s', rfl, ⟨by omega, by omega⟩, ⟨k + 1, opR R o, Rest A w8 w11, us ++ [(opR R o).toT], by omega, by omega, fun b hb => (mem_rest.1 hb).1, fun b hb => ?_, ?_, ?_, ?_, fun b hb => ?_, by rw [List.length_append, List.length_singleton]; omega, rfl, by rw [List.append_assoc]; rfl⟩, by dsimp only; omega⟩
  ·rcases List.mem_append.1 hb with hb | hb
   ·have := (hNu8.own.2.2.2 b hb).2; omega
   ·exact hF8 b hb
  ·have := hE8.size; have := hC11.size
   exact mem_rest.2 ⟨by omega, fun hm => (mem_free.1 hm).2 (hoA b hb)⟩
  ·have h8 : Nod (Rest A w8 w11) w8 D (opR R o) := hD8.wide fun b hb => by
    obtain ⟨_, h2⟩ := mem_rest.1 hb
    by_cases hlt : b < w8.heap.size
    ·left
     exact Classical.byContradiction fun hn => h2 (mem_free.2 ⟨hlt, hn⟩)
    ·exact .inr (by omega)
   refine (h8.ext hE810).chg hC11 fun b hb => ?_
   have hbm := Sl.own_blk hb
   have := (hNu8.own.2.2.2 b hbm).2
   have := hC11.size
   exact mem_rest.2 ⟨by omega, fun hm => (mem_free.1 hm).2 (hmb b hbm).1⟩
  ·refine Chg.fresh (hE8.trans hE810) hC11 fun b hb => (hmb b (Sl.own_blk hb)).2
  ·refine hN11.less fun b hb => ?_
   rcases List.mem_append.1 hb with hb | hb
   ·obtain ⟨h1, h2⟩ := mem_free.1 hb
    exact List.mem_append_left _ (Classical.byContradiction fun hn => h2 (mem_rest.2 ⟨h1, hn⟩))
   ·exact List.mem_append_right _ hb
  ·have hlt11 := (hN11.own.2.2.2 b hb).2
   have hs11 := hC11.size
   have hs8 := hE8.size
   rcases hbl11 b hb with h | h
   ·have hbm := Sl.own_blk h
    exact ⟨mem_rest.2 ⟨hlt11, fun hm => (mem_free.1 hm).2 (hmb b hbm).1⟩, (hmb b hbm).2⟩
   ·exact ⟨mem_rest.2 ⟨hlt11, fun hm => by have := (mem_free.1 hm).1; omega⟩, by omega⟩
 ·have hk' : k = ops.length := by omega
  have hd : ops.drop k = [] := List.drop_of_length_le (by omega)
  rw [hd]
  refine ⟨hE5, m, ?_, ?_⟩
  ·rw [runI, hk', hln]
  ·rw [runE, List.append_nil]; exact hNu.less fun b hb => List.mem_append_right _ hb
theorem runE_last : ∀ (l : List OpT) (R : I) (k : Nat), (runI R l k).2.1 = 0 → ∀ (d : T), ((R.toT) :: runE R l).getLast (by simp) = (runI R l k).2.2.toT
 |[], R, k, _, _ => rfl
 |o :: r, R, k, h, d => by
  rw [runI] at h ⊢
  by_cases h1 : rightO o = false
  ·rw [if_pos h1] at h; cases h
  rw [if_neg h1] at h ⊢
  by_cases h2 : opE R o = 0
  ·rw [if_pos h2] at h ⊢
   have := runE_last r (opR R o) (k + 1) h d
   rw [← this]
   have e : runE R (o :: r) = (opR R o).toT :: runE (opR R o) r := by rw [runE, if_neg h1, if_pos h2]
   simp only [e]
   rw [List.getLast_cons (by simp)]
  ·rw [if_neg h2] at h; exact absurd h h2
theorem refApply {X L : List Nat} {w : World} {t : T} {sa sk l : Sl} {ops : List OpT} (hr : RdT X w t sa sk) (hb : t.bulk ≤ 900000000) (hb2 : t.check = true → t.span ≤ 900000) (hl : Row L w l 7 (ops.map oc)) :
  Calls Tryz.prog 10 #[tv t sa sk, l.v] w (Ret fun v w' => Ext w w' ∧ ∃ sa' sk' : Sl, v = .tuple #[tv (resT t ops) sa' sk', .int .i64 ((runX t ops).1 : Int), .int .i64 (runX t ops).2.1] ∧ RdT [] w' (resT t ops) sa' sk') := by
 refine ref23_Apply.ok _ _ _ _ _ _ ?_
 unfold ref23_Apply.vc
 intro w1 B1 B2 hN1 hN2 hne hE1
 have h2 := hN2.ge
 have hfr : ∀ b ∈ [B2], w.heap.size ≤ b := by simpa using h2
 refine CallK.ext (refEach (hr.ext hE1) hb hb2 (hl.ext hE1)) ?_
 rintro v w2 hE2 ⟨s, rfl, hN⟩
 have hE02 := hE1.trans hE2
 have hB2 : ∀ {t' : T} {a k : Sl} {w3 : World}, RdT [B2] w2 t' a k → Chg [B2] w2 w3 → RdT [] w3 t' a k := fun h hC => (RdT.chg hC (by simp) h).less (by simp)
 refine ⟨s, _, _, rfl, fun hne w3 hC3 => ⟨Chg.fresh hE02 hC3 hfr, Sl.nil, Sl.nil, ?_, ?_⟩, fun hz => ?_⟩
 ·unfold resT; rw [if_neg hne]; rfl
 ·unfold resT; rw [if_neg hne]; exact RdT.nil _ _ _ _ _
 have hz : (runX t ops).2.1 = 0 := Classical.not_not.1 hz
 have hsn := hN.own.1
 have hsc := hN.own.2.1
 have hsm := hN.own.2.2.1
 have hmo : maxLen = 9223372036854775807 := rfl
 have hrt : resT t ops = (runX t ops).2.2.toT := by unfold resT; rw [if_pos hz]
 obtain ⟨hck, hx, hy⟩ : t.check = true ∧ runX t ops = runI (I.num t 0) ops 0 ∧ eachT t ops = runE (I.num t 0) ops := by
  have hz' := hz
  unfold runX at hz' ⊢
  unfold eachT
  by_cases h1 : t.check = false
  ·rw [if_pos h1] at hz'; cases hz'
  rw [if_neg h1] at hz' ⊢
  by_cases h2 : 1500 < ops.length
  ·rw [if_pos h2] at hz'; cases hz'
  rw [if_neg h2, if_neg h1, if_neg h2]
  exact ⟨by simpa using h1, rfl, rfl⟩
 have hlast := runE_last ops (I.num t 0) 0 (by rw [← hx]; exact hz) T.nul
 have hlen := runE_len ops (I.num t 0) 0
 rw [← hx, ← hy, Nat.zero_add] at hlen
 have hemp : (s.n : Int) = 0 → eachT t ops = [] ∧ resT t ops = t := fun h0 => by
  have he : eachT t ops = [] := List.eq_nil_of_length_eq_zero (by omega)
  refine ⟨he, ?_⟩
  rw [hy] at he
  rw [hrt, hx, ← hlast]
  simp only [he, List.getLast_singleton, I.num_toT]
 refine ⟨fun h0 w3 hC3 => ⟨Chg.fresh hE02 hC3 hfr, sa, sk, ?_, ?_⟩, fun h0 => ?_⟩
 ·rw [(hemp h0).2, hz, hlen, (hemp h0).1]; rfl
 ·rw [(hemp h0).2]
  have h1 : RdT [B2] w1 t sa sk := ((hr.less (A' := []) (by simp)).fresh h2).ext hE1
  exact hB2 (h1.ext hE2) hC3
 ·have hne : eachT t ops ≠ [] := fun e => by rw [e] at hsn; exact h0 (by rw [hsn]; rfl)
  obtain ⟨ps, hpl, ho, hrd⟩ := hN
  have hpos : 0 < (eachT t ops).length := by
   rcases Nat.eq_zero_or_pos (eachT t ops).length with h | h
   ·exact absurd (List.eq_nil_of_length_eq_zero h) hne
   ·exact h
  obtain ⟨u, hu⟩ : ∃ u, (eachT t ops)[s.n - 1]? = some u := ⟨_, List.getElem?_eq_getElem (by omega)⟩
  obtain ⟨q, hq⟩ : ∃ q, ps[s.n - 1]? = some q := ⟨_, List.getElem?_eq_getElem (by omega)⟩
  have hrow := ho.row
  obtain ⟨p, hp, _, hc, _⟩ := hrow.at_ (s.n - 1) (by simp [hpl]; omega)
  have hg : (List.zipWith tc (eachT t ops) ps).getD (s.n - 1) [] = tc u q := by
   rw [List.getD_eq_getElem?_getD, List.getElem?_zipWith, hu, hq]; rfl
  rw [hg] at hc
  have hul : u = resT t ops := by
   rw [hrt, hx, ← hlast]
   simp only [← hy]
   rw [List.getLast_cons hne, List.getLast_eq_getElem]
   rw [List.getElem?_eq_getElem (by omega)] at hu
   have := Option.some.inj hu
   rw [← this]
   congr 1; omega
  have hru : RdT [B2] w2 u q.1 q.2 := (hrd _ _ _ hu hq).less fun b hb => List.mem_append_right _ (by simp at hb; subst hb; exact List.mem_range.2 hN2.lt)
  rw [hul] at hc hru
  have e1 : ((s.n : Int) - 1).toNat = s.n - 1 := by omega
  refine ⟨⟨by omega, by omega⟩, ⟨by omega, by omega⟩, p, hp, _, _, _, q.1, q.2, by rw [e1]; exact hc, fun w3 hC3 => ⟨Chg.fresh hE02 hC3 hfr, q.1, q.2, by rw [hz]; rfl, hB2 hru hC3⟩⟩
end
section
open Go.RowKit Go.MapKept
def T.nd (t : T) (j : Nat) : En := t.flat.getD j ⟨0, 0, 0, T.nul⟩
end
section
open Go.RowKit Go.MapKept
def zc (z : Int) : List Value := [.int .i64 z]
def wc (x : Str) : List Value := [.string (Bs x)]
def setKeep (l : List (Str × Str)) (p : Str × Str) : Bool := !((attrGet l p.1).2 && decide ((attrGet l p.1).1 = p.2))
def setOf (a b : List (Str × Str)) : List (Str × Str) := b.filter (setKeep a)
def unsetOf (a b : List (Str × Str)) : List Str := (a.filter fun p => !(attrGet b p.1).2).map (·.1)
end
section
open Go.RowKit Go.MapKept
structure SV where
 gone : Bool
 text : Bool
 set : List (Str × Str)
 unset : List Str
 up : Int
 kids : List Int
def slc (v : SV) (se un ki : Sl) : List Value := [.bool v.gone, .bool v.text, se.v, un.v, .int .i64 v.up, ki.v]
def SlotAt (w : World) (v : SV) (row : List Value) : Prop := ∃ se un ki : Sl, row = slc v se un ki ∧ Own [] w se 2 63 (v.set.map ac) ∧ Own [] w un 1 9 (v.unset.map wc) ∧ Own [] w ki 1 3 (v.kids.map zc)
theorem SlotAt.ext {w w' : World} {v : SV} {row : List Value} (h : SlotAt w v row) (c : Ext w w') : SlotAt w' v row := by
 obtain ⟨se, un, ki, h1, h2, h3, h4⟩ := h
 exact ⟨se, un, ki, h1, h2.ext c, h3.ext c, h4.ext c⟩
def toF : List (Int × Int) → Int → Option Int
 |[], _ => none
 |p :: r, i => match toF r i with
  |some j => some j
  |none => if p.1 = i then some p.2 else none
def swapP (p : Int × Int) : Int × Int := (p.2, p.1)
def num (ps : List (Int × Int)) (k : Int) : Int := match toF (ps.map swapP) k with
 |some i => i
 |none => -2 - k
def slotOf (o x : T) (ps : List (Int × Int)) (i : Nat) : SV := match toF ps i with
 |none => ⟨true, false, [], [], 0, []⟩
 |some j => ⟨false, decide ((o.nd i).t.text ≠ (x.nd j.toNat).t.text), setOf (o.nd i).t.attrs (x.nd j.toNat).t.attrs, unsetOf (o.nd i).t.attrs (x.nd j.toNat).t.attrs, if 0 ≤ (x.nd j.toNat).par then num ps (x.nd j.toNat).par else -1, (x.kidsAt j.toNat).map fun k : Nat => num ps (k : Int)⟩
end
section
open Go.RowKit Go.MapKept
def Done (o x : T) (ps : List (Int × Int)) (N : Nat) (w : World) (i : Nat) (row : List Value) : Prop := ∃ se un ki : Sl, row = slc (slotOf o x ps i) se un ki ∧ Own [] w se 2 63 ((slotOf o x ps i).set.map ac) ∧ Own [] w un 1 9 ((slotOf o x ps i).unset.map wc) ∧ Own [] w ki 1 3 ((slotOf o x ps i).kids.map zc) ∧ ∀ b ∈ ki.blk, b < N
theorem Done.ext {o x : T} {ps : List (Int × Int)} {N : Nat} {w w' : World} {i : Nat} {row : List Value} (h : Done o x ps N w i row) (c : Ext w w') : Done o x ps N w' i row := by
 obtain ⟨se, un, ki, h1, h2, h3, h4, h5⟩ := h
 exact ⟨se, un, ki, h1, h2.ext c, h3.ext c, h4.ext c, h5⟩
end
section
open Go.RowKit Go.MapKept
def idPs (n : Nat) : List (Int × Int) := (List.range n).map fun i : Nat => ((i : Int), (i : Int))
end
section
open Go.RowKit Go.MapKept
theorem lawSmallY {A : List Nat} {B : Nat} (hBA : B ∈ A) : ∀ t : T, ∀ {w : World} {sa sk : Sl} (deep : Nat) (c : Nat), c ≤ 400 → deep ≤ 71 → RdT A w t sa sk → Box w B 3 [.int .i64 (c : Int)] →
  Calls Tryz.prog 16 #[tv t sa sk, .int .i64 (deep : Int), .pointer (some ⟨B, 0, none⟩)] w (Ret fun v w' => Chg [B] w w' ∧ (v = .bool (t.sm deep c).1 ∧ Box w' B 3 [.int .i64 (((t.sm deep c).2 : Nat) : Int)])) := T.ind' fun t ih w sa sk deep c hc hd h hB => by
 refine law00_small.ok _ _ _ _ _ _ _ ?_
 unfold law00_small.vc
 have hn := h.nkids
 have hna := h.nattrs
 have hcp := h.caps
 simp only [maxLen] at hcp
 intro w5 B4 hN hE5
 have hB5 := hB.ext hE5
 have hlt := hB.lt
 have hge := hN.ge
 refine ⟨(c : Int), hB5.cell 0 _ rfl, ⟨by omega, by omega⟩, B, 0, 3, _, rfl, hB5, by simp, by simp; omega, fun w1 hC hB1 => ?_⟩
 have hB1 : Box w1 B 3 [.int .i64 (((c + 1 : Nat) : Nat) : Int)] := hB1
 have hC1 : Chg [B] w w1 := (Chg.ext hE5).trans hC
 have hF : ∀ b ∈ [B], b ∈ A := by simpa using hBA
 rw [T.sm_eq]
 refine ⟨((c + 1 : Nat) : Int), hB1.cell 0 _ rfl, fun hbad => ?_, fun hok => ?_⟩
 ·rw [if_pos (by omega)]; exact ⟨hC1, rfl, hB1⟩
 rw [if_neg (by omega)]
 refine ⟨fun i w2 => ∃ k : Nat, i = (k : Int) ∧ k ≤ t.attrs.length ∧ t.attrs.any badAttr = (t.attrs.drop k).any badAttr ∧ Chg [B] w w2 ∧ Box w2 B 3 [.int .i64 ((c + 1 : Nat) : Int)], fun i _ => t.attrs.length - i.toNat, ⟨0, rfl, Nat.zero_le _, rfl, hC1, hB1⟩, ?_⟩
 rintro _ w2 ⟨k, rfl, hk, hany, hC2, hB2⟩
 refine ⟨fun hi => ?_, fun hi => ?_⟩
 ·have hk1 : k < t.attrs.length := by omega
  obtain ⟨p, hp, _, hcell⟩ := (RdT.chg hC2 hF h).attr hk1
  rw [Int.toNat_natCast]
  rw [drop_at t.attrs ([], []) hk1, List.any_cons] at hany
  refine ⟨⟨by omega, hi⟩, p, hp, _, hcell 0 _ rfl, p, fun _ => ⟨⟨by omega, hi⟩, hp⟩, _, fun _ => hcell 1 _ rfl, fun hbad => ?_, fun hgood => ⟨⟨by omega, by omega⟩, ⟨k + 1, by omega, by omega, ?_, hC2, hB2⟩, by dsimp only; omega⟩⟩
  ·have : badAttr (t.attrs.getD k ([], [])) = true := by unfold badAttr; rw [Bool.or_eq_true, decide_eq_true_iff, decide_eq_true_iff]; omega
   rw [hany, this, Bool.true_or, if_pos rfl]; exact ⟨hC2, rfl, hB2⟩
  ·have : badAttr (t.attrs.getD k ([], [])) = false := by unfold badAttr; rw [Bool.or_eq_false_iff, decide_eq_false_iff_not, decide_eq_false_iff_not]; omega
   rw [hany, this, Bool.false_or]
 ·have hkl : k = t.attrs.length := by omega
  subst hkl
  rw [List.drop_length] at hany
  rw [hany, if_neg (by simp)]
  refine ⟨fun i w3 => ∃ k c' : Nat, i = (k : Int) ∧ k ≤ t.kids.length ∧ goL (t.kids.map fun u => fun c => u.sm (deep + 1) c) (c + 1) = goL ((t.kids.drop k).map fun u => fun c => u.sm (deep + 1) c) c' ∧ Chg [B] w w3 ∧ Box w3 B 3 [.int .i64 (c' : Int)] ∧ c' ≤ 400, fun i _ => t.kids.length - i.toNat, ⟨0, c + 1, rfl, Nat.zero_le _, rfl, hC2, hB2, by omega⟩, ?_⟩
  rintro _ w3 ⟨k, c', rfl, hk, hgo, hC3, hB3, hc'⟩
  rw [hgo]
  refine ⟨fun hi => ?_, fun hi => ?_⟩
  ·have hk' : k < t.kids.length := by omega
   obtain ⟨p, sa', sk', hp, _, hcell, hr⟩ := (RdT.chg hC3 hF h).kid hk'
   rw [Int.toNat_natCast]
   have hm := getD_mem (d := T.nul) hk'
   rw [drop_at t.kids T.nul hk', List.map_cons, goL] at hgo ⊢
   refine ⟨⟨by omega, hi⟩, p, hp, _, _, _, sa', sk', hcell, ⟨by omega, by omega⟩, CallK.chg (ih _ hm (deep + 1) c' hc' (by omega) hr hB3) (by simp; omega) fun v w4 hC4 ⟨hv, hB4⟩ => ⟨_, hv, fun hf => ?_, fun ht => ⟨⟨by omega, by omega⟩, ⟨k + 1, _, by omega, by omega, ?_, hC3.trans hC4, hB4, T.sm_le _ _ _ ht⟩, by dsimp only; omega⟩⟩⟩
   ·rw [if_neg (by rw [hf]; simp)]; exact ⟨hC3.trans hC4, rfl, hB4⟩
   ·rw [if_pos ht]
  ·have hkl : k = t.kids.length := by omega
   subst hkl
   rw [List.drop_length]
   exact ⟨hC3, rfl, hB3⟩
theorem sum_abulk : ∀ l : List (Str × Str), l.any badAttr = false → (l.map T.abulk).sum ≤ l.length * 6201
 |[], _ => by simp
 |p :: r, h => by
  rw [List.any_cons, Bool.or_eq_false_iff] at h
  have ih := sum_abulk r h.2
  have hp := h.1
  simp only [badAttr, Bool.or_eq_false_iff, decide_eq_false_iff_not] at hp
  simp only [List.map_cons, List.sum_cons, T.abulk, List.length_cons]
  omega
theorem goL_bulk : ∀ (us : List T) (deep : Nat), (∀ u ∈ us, ∀ deep c, (u.sm deep c).1 = true → u.bulk + 200000 * c ≤ 200000 * (u.sm deep c).2) → ∀ c, (goL (us.map fun u => fun c => u.sm deep c) c).1 = true → (us.map T.bulk).sum + 200000 * c ≤ 200000 * (goL (us.map fun u => fun c => u.sm deep c) c).2
 |[], _, _, c, _ => by simp [goL]
 |u :: r, deep, h, c, ht => by
  simp only [List.map_cons] at ht ⊢
  rw [goL] at ht ⊢
  split at ht
  ·rename_i hf
   rw [if_pos hf]
   have h1 := h u (by simp) deep c hf
   have h2 := goL_bulk r deep (fun v hv => h v (by simp [hv])) _ ht
   simp only [List.sum_cons]
   omega
  ·cases ht
theorem T.sm_bulk : ∀ t : T, ∀ deep c : Nat, (t.sm deep c).1 = true → t.bulk + 200000 * c ≤ 200000 * (t.sm deep c).2 := T.ind' fun t ih deep c => by
 rw [T.sm_eq]
 split
 ·intro h; cases h
 ·rename_i hn
  split
  ·intro h; cases h
  ·rename_i ha
   intro ht
   have h1 := goL_bulk t.kids (deep + 1) (fun u hu deep c => ih u hu deep c) (c + 1) ht
   have h2 := sum_abulk t.attrs (by simpa using ha)
   have h3 := T.bulk_eq t
   have h4 : t.attrs.length * 6201 ≤ 20 * 6201 := Nat.mul_le_mul_right _ (by omega)
   omega
theorem small_bulk {t : T} (h : t.small = true) : t.bulk ≤ 400000000 := by
 have h1 := T.sm_bulk t 0 0 h
 have h2 := T.sm_le t 0 0 h
 omega
theorem lawSmallZ {A : List Nat} {w : World} {t : T} {sa sk : Sl} (h : RdT A w t sa sk) :
  Calls Tryz.prog 4 #[tv t sa sk] w (Ret fun v w' => Ext w w' ∧ v = .bool t.small) := by
 refine law00_Small.ok _ _ _ _ _ ?_
 unfold law00_Small.vc
 intro w1 B1 B2 hN1 hN2 hne hE1 hB
 have hr := (((h.less (A' := []) (by simp)).fresh hN2.ge).ext hE1)
 have hs := lawSmallY (A := [B2]) (B := B2) (by simp) t 0 0 (by omega) (by omega) hr hB
 exact CallK.chg hs (by simpa using hne) fun v w2 hC ⟨hv, _⟩ => ⟨_, hv, Chg.fresh hE1 hC (by simpa using hN2.ge), rfl⟩
def T.few (t : T) : Bool := t.small && decide (t.size ≤ 60)
end
section
open Go.RowKit
def fewOp (ops : List OpT) : Bool := ((ops.take 100).all fun o => decide (o.name.length ≤ 200) && decide (o.text.length ≤ 6000)) && decide (ops.length ≤ 100)
theorem lawFewO {L : List Nat} {w : World} {l : Sl} {ops : List OpT} (hl : Row L w l 7 (ops.map oc)) :
  Calls Tryz.prog 5 #[l.v] w (Ret fun v w' => Ext w w' ∧ v = .bool (fewOp ops)) := by
 refine law23_few.ok _ ?_
 unfold law23_few.vc
 have hn := hl.len
 rw [List.length_map] at hn
 refine ⟨fun i w' => ∃ k : Nat, i = (k : Int) ∧ k ≤ ops.length ∧ k ≤ 100 ∧ ((ops.take k).all fun o => decide (o.name.length ≤ 200) && decide (o.text.length ≤ 6000)) = true ∧ Ext w w', fun i _ => ops.length - i.toNat, ⟨0, rfl, by omega, by omega, rfl, Chg.refl _ _⟩, ?_⟩
 rintro _ w1 ⟨k, rfl, hk, hk1, hall, hE1⟩
 refine ⟨fun hi => ?_, fun hi => ⟨hE1, ?_⟩⟩
 ·have hk' : k < ops.length := by omega
  obtain ⟨p, hp, _, hcell, _⟩ := (hl.ext hE1).at_ k (by simpa using hk')
  have hgd : (ops.map oc).getD k [] = oc ops[k] := by simp [List.getD_eq_getElem?_getD, hk']
  rw [hgd] at hcell
  rw [Int.toNat_natCast]
  refine ⟨⟨by omega, hi.1⟩, p, hp, _, hcell 5 _ rfl, p, fun _ => ⟨⟨by omega, hi.1⟩, hp⟩, _, fun _ => hcell 6 _ rfl, fun hb => ⟨hE1, ?_⟩, fun hg => ⟨⟨by omega, by omega⟩, ⟨k + 1, by omega, by omega, by omega, ?_, hE1⟩, by dsimp only; omega⟩⟩
  ·have hm : ops[k] ∈ ops.take 100 := List.mem_take_iff_getElem.2 ⟨k, by omega, rfl⟩
   have : ((ops.take 100).all fun o => decide (o.name.length ≤ 200) && decide (o.text.length ≤ 6000)) = false := by
    rw [List.all_eq_false]
    refine ⟨_, hm, fun h => ?_⟩
    simp only [Bool.and_eq_true, decide_eq_true_eq] at h
    rcases hb with hb | hb <;> omega
   unfold fewOp; rw [this]; rfl
  ·rw [List.take_succ_eq_append_getElem hk', List.all_append, hall]
   simp only [List.all_cons, List.all_nil, Bool.and_true, Bool.true_and, Bool.and_eq_true, decide_eq_true_eq]
   omega
 ·unfold fewOp
  by_cases h5 : ops.length ≤ 100
  ·have hkl : k = ops.length := by omega
   rw [hkl, List.take_of_length_le (Nat.le_refl _)] at hall
   rw [List.take_of_length_le h5, hall, decide_eq_true h5, decide_eq_true (by omega : (l.n : Int) ≤ 100)]; rfl
  ·rw [decide_eq_false h5, decide_eq_false (by omega : ¬ (l.n : Int) ≤ 100), Bool.and_false]
theorem fewOp_len {ops : List OpT} (h : fewOp ops = true) : ops.length ≤ 100 := by
 unfold fewOp at h
 simp only [Bool.and_eq_true, decide_eq_true_eq] at h
 exact h.2
theorem Nur.at_ {A : List Nat} {w : World} {s : Sl} {ts : List T} (h : Nur A w s ts) {i : Nat} (hi : i < ts.length) : ∃ p su sk, s.a = some p ∧ Cells w (p.add (i * 5)) (tc ts[i] (su, sk)) ∧ RdT [] w ts[i] su sk := by
 obtain ⟨ps, hpl, ho, hrd⟩ := h
 obtain ⟨p, hp, _, hc, _⟩ := ho.row.at_ i (by simp [hpl]; omega)
 have hu : ts[i]? = some ts[i] := List.getElem?_eq_getElem hi
 have hq : ps[i]? = some (ps[i]'(by omega)) := List.getElem?_eq_getElem (by omega)
 have hg : (List.zipWith tc ts ps).getD i [] = tc ts[i] (ps[i]'(by omega)) := by
  rw [List.getD_eq_getElem?_getD, List.getElem?_zipWith, hu, hq]; rfl
 rw [hg] at hc
 exact ⟨p, _, _, hp, hc, (hrd i _ _ hu hq).less (by simp)⟩
theorem resT_live (t : T) (ops : List OpT) : Live (resT t ops) := by
 unfold resT
 by_cases hz : (runX t ops).2.1 = 0
 ·rw [if_pos hz]
  have hz' := hz
  unfold runX at hz'
  by_cases h1 : t.check = false
  ·rw [if_pos h1] at hz'; cases hz'
  rw [if_neg h1] at hz'
  by_cases h2 : 1500 < ops.length
  ·rw [if_pos h2] at hz'; cases hz'
  have hx : runX t ops = runI (I.num t 0) ops 0 := by unfold runX; rw [if_neg h1, if_neg h2]
  rw [hx]
  exact (okay_live (runI_okay ops _ 0 (I.num_okay (by simpa using h1)))).1
 ·rw [if_neg hz]
  exact .node _ _ _ _ _ (by simp) (by simp) (by simp)
theorem applyAllLaw {A L : List Nat} {w : World} {t : T} {sa sk l : Sl} {ops : List OpT} (h : RdT A w t sa sk) (hl : Row L w l 7 (ops.map oc)) :
  Calls Tryz.prog 3 #[tv t sa sk, l.v] w (Ret fun v w' => Ext w w' ∧ v = .bool true) := by
 refine law23_ApplyAll.ok _ _ _ _ _ _ ?_
 unfold law23_ApplyAll.vc
 intro w1 B1 hN1 hE1
 refine CallK.exact (lawSmallZ (h.ext hE1)) fun w2 hE2 => ⟨_, rfl, _, fun _ => lawFewO (hl.ext (hE1.trans hE2)), fun w3 hE3 => ?_⟩
 have hE03 := (hE1.trans hE2).trans hE3
 refine ⟨fun _ => CallK.exact (apAwake w3) fun w4 hE4 => ⟨_, rfl, hE03.trans hE4, rfl⟩, fun hg => ?_⟩
 obtain ⟨hsm, hfw⟩ := hg
 have hbulk := small_bulk hsm
 have hspan := small_span hsm
 have hlen := fewOp_len hfw
 have hln := hl.len
 rw [List.length_map] at hln
 refine CallK.ext (lawTree t (by omega) (h.ext hE03)) ?_
 rintro v w4 hE4 ⟨xa, xk, rfl, hx4⟩
 have hE04 := hE03.trans hE4
 refine ⟨_, _, _, xa, xk, rfl, fun w5 B5 hN5 hE5 => ?_⟩
 have hE05 := hE04.trans hE5
 have hx5 := hx4.ext hE5
 have copy : ∀ w', Ext w w' → ∀ w'', Ext w' w'' → Calls Tryz.prog 9 #[l.v] w'' (Ret fun v w3 => Ext w'' w3 ∧ ∃ r : Sl, v = Sl.v r ∧ Row [] w3 r 7 (ops.map oc)) := fun w' hE w'' hE' => by
  refine Ret.mono (lawOps (hl.ext (hE.trans hE')) (by omega)) ?_
  rintro v w3 ⟨h1, s, h2, h3⟩
  exact ⟨h1, s, h2, h3.row.less (by simp)⟩
 refine ⟨fun s w' => Row [] w' s 7 (ops.map oc), fun _ _ _ hE h => h.ext hE, copy w5 hE05, (resT t ops).kind, (resT t ops).name, (resT t ops).text, ((runX t ops).1 : Int), (runX t ops).2.1, fun sa sk w' => RdT [] w' (resT t ops) sa sk, fun _ _ _ _ hE h => h.ext hE, fun s w' hE' hs => ?_, ?_⟩
 ·refine Ret.mono (applyCall (hx5.ext hE') hspan hs) ?_
  rintro v w'' ⟨h1, sa', sk', h2, h3⟩
  exact ⟨h1, sa', sk', h2, h3.less (by simp)⟩
 rintro w6 ra rk B6 hE6 hr6 hB6 hbox6 w7 hC7 w8 hE8
 have hE07 : Ext w w7 := Chg.fresh (hE05.trans hE6) hC7 (by simp only [List.mem_singleton]; rintro b rfl; exact Nat.le_trans hE05.size hB6)
 have hr7 : RdT [] w7 (resT t ops) ra rk := (RdT.chg hC7 (by simp) (RdT.apart hbox6 _ (resT_live t ops) hr6)).less (by simp)
 have hx7 : RdT [] w7 t xa xk := by
  have h1 := (hx5.ext hE6).less (A' := []) (by simp)
  have hfr : RdT [B6] w5 t xa xk := (hx5.less (A' := []) (by simp)).fresh hB6
  exact (RdT.chg hC7 (by simp) (hfr.ext hE6)).less (by simp)
 have hE08 := hE07.trans hE8
 refine CallK.ext (refApply (h.ext hE08) (by omega) (fun _ => hspan) (hl.ext hE08)) ?_
 rintro v w9 hE9 ⟨ba, bk, rfl, hb9⟩
 have hE09 := hE08.trans hE9
 refine ⟨_, _, _, ba, bk, _, _, rfl, fun w10 B10 hN10 hE10 => ?_⟩
 have hE710 := (hE8.trans hE9).trans hE10
 have hE010 := hE09.trans hE10
 have hs1 := refSame (resT t ops) (resT t ops) (hr7.ext hE710) (hb9.ext hE10)
 rw [decide_eq_true ((T.cmp_zero (resT t ops) (resT t ops)).2 rfl)] at hs1
 refine ⟨true, fun _ => hs1, fun w11 hE11 => ?_⟩
 have hE711 := hE710.trans hE11
 have hE011 := hE010.trans hE11
 have hs2 := refSame t t (hx7.ext hE711) ((h.ext hE011).less (by simp))
 rw [decide_eq_true ((T.cmp_zero t t).2 rfl)] at hs2
 refine ⟨true, fun _ => hs2, fun w12 hE12 => ⟨fun hb => ?_, fun _ => ?_⟩⟩
 ·rcases hb with ((hb | hb) | hb) | hb
  ·exact absurd rfl hb
  ·exact absurd rfl hb
  ·cases hb
  ·cases hb
 have hE712 := hE711.trans hE12
 have hE012 := hE011.trans hE12
 refine ⟨fun i w' => ∃ k : Nat, i = (k : Int) ∧ k ≤ ops.length ∧ Ext w12 w', fun i _ => ops.length - i.toNat, ⟨0, rfl, by omega, Chg.refl _ _⟩, ?_⟩
 rintro _ w13 ⟨k, rfl, hk, hE13⟩
 rw [Int.toNat_natCast]
 refine ⟨fun hi w14 hE14 => ?_, fun hi w14 hE14 => ?_⟩
 ·have hk' : k < ops.length := by omega
  obtain ⟨p, hp, _, hcell, _⟩ := (hl.ext ((hE012.trans hE13).trans hE14)).at_ k (by simpa using hk')
  have hgd : (ops.map oc).getD k [] = oc ops[k] := by simp [List.getD_eq_getElem?_getD, hk']
  rw [hgd] at hcell
  generalize ops[k] = o at hcell
  exact ⟨p, ⟨⟨by omega, hi⟩, hp⟩, o.kind, o.id, o.par, o.at_, o.what, o.name, o.text, hcell, rightO o, fun w' _ => callRight o, p, ⟨⟨by omega, hi⟩, hp⟩, o.kind, o.id, o.par, o.at_, o.what, o.name, o.text, hcell, rightO o, fun w' _ => refRight o, fun hb => by simp at hb, fun _ => ⟨⟨by omega, by omega⟩, fun w15 hE15 => ⟨⟨k + 1, by omega, by omega, (hE13.trans hE14).trans hE15⟩, by dsimp only; omega⟩⟩⟩
 have hE714 := (hE712.trans hE13).trans hE14
 have hE014 := (hE012.trans hE13).trans hE14
 refine ⟨fun s w' => Row [] w' s 7 (ops.map oc), fun _ _ _ hE h => h.ext hE, copy w14 hE014, fun s w' => Nur [] w' s (eachT t ops), fun _ _ _ hE h => h.ext hE, fun s w' hE' hs => eachCall ((hx7.ext hE714).ext hE') hspan hs, ?_⟩
 intro w15 s15 hE15 hn15
 have hE015 := hE014.trans hE15
 refine CallK.ext (refEach (h.ext hE015) (by omega) (fun _ => hspan) (hl.ext hE015)) ?_
 rintro v w16 hE16 ⟨s16, rfl, hn16⟩
 have hE016 := hE015.trans hE16
 have hl15 := hn15.own.1
 have hl16 := hn16.own.1
 have hel : (eachT t ops).length ≤ 100 := by
  unfold eachT
  split
  ·simp
  split
  ·simp
  ·have h1 := runE_len ops (I.num t 0) 0
   have h2 := runI_end ops (I.num t 0) 0
   by_cases hz : (runI (I.num t 0) ops 0).2.1 = 0
   ·have := h2.2 hz; omega
   ·have := h2.1 hz; omega
 refine ⟨s16, _, _, rfl, fun hb => absurd (by rw [hl15, hl16]) hb, fun _ => ?_⟩
 refine ⟨fun i w' => ∃ k : Nat, i = (k : Int) ∧ k ≤ (eachT t ops).length ∧ Ext w16 w', fun i _ => (eachT t ops).length - i.toNat, ⟨0, rfl, by omega, Chg.refl _ _⟩, ?_⟩
 rintro _ w17 ⟨k, rfl, hk, hE17⟩
 rw [Int.toNat_natCast]
 refine ⟨fun hi w18 hE18 => ?_, fun hi => CallK.exact (apAwake w17) fun w18 hE18 => ⟨_, rfl, (hE016.trans hE17).trans hE18, rfl⟩⟩
 have hk' : k < (eachT t ops).length := by omega
 have hE618 := hE17.trans hE18
 obtain ⟨p, su, sv, hp, hc, hr⟩ := ((hn15.ext hE16).ext hE618).at_ hk'
 obtain ⟨q, su', sv', hq, hd, hs⟩ := (hn16.ext hE618).at_ hk'
 refine ⟨p, ⟨⟨by omega, hi⟩, hp⟩, _, _, _, su, sv, hc, q, ⟨⟨by omega, by omega⟩, hq⟩, _, _, _, su', sv', hd, true, fun w' hE' => ?_, fun hb => (by cases hb), fun _ => ⟨⟨by omega, by omega⟩, fun w19 hE19 => ⟨⟨k + 1, by omega, by omega, hE618.trans hE19⟩, by dsimp only; omega⟩⟩⟩
 have hsm := refSame (eachT t ops)[k] (eachT t ops)[k] (hr.ext hE') (hs.ext hE')
 rw [decide_eq_true ((T.cmp_zero _ _).2 rfl)] at hsm
 exact hsm
end
section
open Go.RowKit Go.ChangeShapes Go.WideShapes Go.ChangeAt
set_option maxRecDepth 20000 in
theorem open_attr {H : Type} {enc : TypeId × Value → H} {W : World} {m : Nat} {cs : List Value} {y : DataW H × List MemPlace} (h : DataW.trod enc Tryz.prog W 0 (fun _ => true) true m 63 cs = some y) :
  ∃ p : Str × Str, cs = ac p ∧ True ∧ T.abulk p ≤ Rows.uptoBulk y.1 := by
 obtain ⟨xs, n, rfl, rfl, hl, hx, hf⟩ := DataW.trod_struct Tryz.underlying63 h
 have hl : cs.length = 2 := hl.trans (by kernel_rfl)
 match cs, hl with
 |[c0, c1], _ =>
  match xs, hx with
  |[x0, x1], _ =>
   have h0 := hf 0 _ rfl
   have h1 := hf 1 _ rfl
   have k9 : Tryz.prog.cellsOf 9 = 1 := by kernel_rfl
   simp only [k9, List.drop_zero, List.take_succ_cons, List.take_zero, List.drop_succ_cons, List.getElem?_cons_zero, List.getElem?_cons_succ] at h0 h1
   obtain ⟨s0, e0, b0⟩ := isStr h0
   obtain ⟨s1, e1, b1⟩ := isStr h1
   cases e0; cases e1
   refine ⟨(s0, s1), rfl, trivial, ?_⟩
   simp only [T.abulk, List.map_cons, List.map_nil, Rows.uptoBulk, Rows.uptoBulkAll]
   omega
def NodeAt (W : World) (g : T × Sl × Sl) : Prop := RdT [] W g.1 g.2.1 g.2.2
set_option maxRecDepth 20000 in
theorem open_node {H : Type} {enc : TypeId × Value → H} {W : World} : ∀ (fuel : Nat) {cs : List Value} {y : DataW H × List MemPlace}, DataW.trod enc Tryz.prog W 0 (fun _ => true) true fuel 25 cs = some y →
  ∃ g : T × Sl × Sl, cs = tc g.1 g.2 ∧ NodeAt W g ∧ g.1.bulk ≤ Rows.uptoBulk y.1 := by
 intro fuel
 induction fuel using Nat.strongRecOn with
 |ind fuel ih =>
  intro cs y h
  obtain ⟨xs, n, rfl, rfl, hl, hx, hf⟩ := DataW.trod_struct Tryz.underlying25 h
  have hl : cs.length = 5 := hl.trans (by kernel_rfl)
  match cs, hl with
  |[c0, c1, c2, c3, c4], _ =>
   match xs, hx with
   |[x0, x1, x2, x3, x4], _ =>
    have h0 := hf 0 _ rfl
    have h1 := hf 1 _ rfl
    have h2 := hf 2 _ rfl
    have h3 := hf 3 _ rfl
    have h4 := hf 4 _ rfl
    have k3 : Tryz.prog.cellsOf 3 = 1 := by kernel_rfl
    have k9 : Tryz.prog.cellsOf 9 = 1 := by kernel_rfl
    have ka : Tryz.prog.cellsOf 22 = 1 := by kernel_rfl
    have kk : Tryz.prog.cellsOf 23 = 1 := by kernel_rfl
    simp only [k3, k9, ka, kk, List.drop_zero, List.take_succ_cons, List.take_zero, List.drop_succ_cons, List.getElem?_cons_zero, List.getElem?_cons_succ] at h0 h1 h2 h3 h4
    obtain ⟨kd, e0, b0, _⟩ := isInt h0
    obtain ⟨s1, e1, b1⟩ := isStr h1
    obtain ⟨s2, e2, b2⟩ := isStr h2
    obtain ⟨sa, ats, e3, ha, _, b3⟩ := open_row Tryz.underlying22 (by kernel_rfl : Tryz.prog.cellsOf 63 = 2) ac (fun _ => True) T.abulk (fun m _ cs y _ h => open_attr h) h3
    obtain ⟨sk, gs, e4, hk, hg, b4⟩ := open_row Tryz.underlying23 (by kernel_rfl : Tryz.prog.cellsOf 25 = 5) (fun g : T × Sl × Sl => tc g.1 g.2) (NodeAt W) (fun g => g.1.bulk) (fun m hm cs y _ h => ih m (by omega) h) h4
    cases e0; cases e1; cases e2; cases e3; cases e4
    refine ⟨(.node kd s1 s2 ats (gs.map (·.1)), sa, sk), rfl, .mk (gs.map (·.2)) ha (by simp) ?_ (fun i t p hi hp => ?_), ?_⟩
    ·have e : List.zipWith tc (gs.map (·.1)) (gs.map (·.2)) = gs.map fun g => tc g.1 g.2 := by
      clear hk hg b4 h4
      induction gs with
      |nil => rfl
      |cons g gs ih => simp only [List.map_cons, List.zipWith_cons_cons, ih]
     rw [e]; exact hk
    ·rw [List.getElem?_map] at hi hp
     cases hq : gs[i]? with
     |none => rw [hq] at hi; cases hi
     |some g =>
      rw [hq] at hi hp; cases hi; cases hp
      exact hg g (List.mem_of_getElem? hq)
    ·rw [T.bulk_eq]
     simp only [T.name, T.text, T.attrs, T.kids, List.map_map, List.map_cons, List.map_nil, Rows.uptoBulk, Rows.uptoBulkAll]
     have e : (List.map (T.bulk ∘ fun x => x.fst) gs).sum = (gs.map fun g => g.1.bulk).sum := rfl
     omega
set_option maxRecDepth 20000 in
theorem open_tree {H : Type} {enc : TypeId × Value → H} {W : World} {v : Value} {d : DataW H} {ps : List MemPlace} {base : Nat} (hval : Value.okWide Tryz.prog W .any base 25 v) (h : DataW.Trod enc Tryz.prog W 0 (fun _ => true) true 25 v d ps) :
  ∃ (t : T) (sa sk : Sl), v = tv t sa sk ∧ RdT [] W t sa sk ∧ t.bulk ≤ Rows.uptoBulk d := by
 obtain ⟨cs, rfl, _⟩ := okWide_struct Tryz.underlying25 hval
 obtain ⟨fuel, hf⟩ := h
 obtain ⟨⟨t, sa, sk⟩, hc, hg, hb⟩ := open_node fuel hf
 refine ⟨t, sa, sk, ?_, hg, hb⟩
 have : cs.toList = tc t (sa, sk) := hc
 unfold tv
 congr 1
 exact Array.toList_inj.1 (by rw [this]; rfl)
end
end Go.Proofs.YtghmgfkdnolcdaaGreat
