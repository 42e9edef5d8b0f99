/-
  What the proof of the statement leans on: texts one behind the other.
-/
import Derived.Test.YtghmgfkdnolcdaaQDomLimits1
import Derived.Test.YtghmgfkdnolcdaaQDomLimitsGlaw06awake
import Derived.Test.YtghmgfkdnolcdaaQDomLimitsGlaw06DomLimits
namespace Go.Proofs.Ytghmgfkdnolcdaa
section
open Go.RowKit Go.MapKept

theorem takeI {l : List I} {k : Nat} (h : k < l.length) : l.take (k + 1) = l.take k ++ [l[k]] := List.take_succ_eq_append_getElem h

section

variable {A : List Nat} {D : Nat} {R : I}

theorem domSub : ∀ (s : I) {w : World}, Dom A w D R → ∀ (p : Int) (d : Nat), (s, p, d) ∈ R.all (-1) 1 → Calls Try.prog 53 #[.pointer (some ⟨D, 0, none⟩), .int .i64 s.id] w (Ret fun v w' => Ext w w' ∧ ∃ sa sk : Sl, v = tv s.toT sa sk ∧ RdT (List.range w.heap.size) w' s.toT sa sk) := I.ind' fun s ih w h p d hs => by
  have hR := h.okay
  have h0 := h
  obtain ⟨l, M, m, X, h1, h2, h3⟩ := h
  refine dom_Dom_tree.ok _ _ ?_
  unfold dom_Dom_tree.vc
  intro w1 B1 hN1 hE1
  have hb1 := hN1.ge
  refine CallK.ext (domNode (h1.ext hE1) s.id) ?_
  rintro v w2 hE2 (⟨hn, rfl⟩ | ⟨i, x, g, hi, hx, hg, rfl⟩)
  · have := recNone h2 hn
    rw [I.find_of hR.nodup hs] at this; cases this
  obtain ⟨e, he, hr⟩ := recOf h2 h3 hi
  rw [hx, I.find_of hR.nodup hs] at he
  cases he
  have hE02 := hE1.trans hE2
  obtain ⟨g', hg', hgb, hc⟩ := (h1.ext hE02).at hi
  rw [hg] at hg'; cases hg'
  have hx' := List.mem_of_getElem? hi
  have hfit := h1.fit x hx'
  refine ⟨some ⟨g, i * 8, none⟩, rfl, _, rfl, x.r.kind, x.r.name, x.r.text, x.sa, Sl.nil, ?_, fun w3 B3 hN3 hE3 => ?_⟩
  · intro j v hv
    rw [Addr.add_add]
    refine hc (2 + j) v ?_
    have e : ndc x = [.int .i64 x.r.id, .int .i64 x.r.par] ++ ([.int .i64 x.r.kind, .string (Bs x.r.name), .string (Bs x.r.text), x.sa.v, Sl.nil.v] ++ [x.sk.v]) := rfl
    rw [e, List.getElem?_append_right (by simp), List.length_cons, List.length_singleton, show 2 + j - (1 + 1) = j by omega, List.getElem?_append_left (List.getElem?_eq_some_iff.1 hv).1]
    exact hv
  have hb3 := hN3.ge
  have hE03 := hE02.trans hE3
  refine CallK.ext (cloneAttrs ((h1.ext hE03).sa x hx').row (by omega)) ?_
  rintro v w4 hE4 ⟨sa', rfl, hsa⟩
  refine ⟨sa', rfl, _, rfl, fun w5 hC5 => ?_⟩
  have hE04 := hE03.trans hE4
  have h5E : Ext w w5 := Chg.fresh hE04 hC5 (by simp only [List.mem_singleton]; rintro b rfl; have := hE02.size; omega)
  have h35 : w3.heap.size ≤ w5.heap.size := Nat.le_trans hE4.size hC5.size
  have hsa5 : Own (List.range w3.heap.size) w5 sa' 2 65 (s.attrs.map ac) := by
    have := hsa.chg hC5 fun b hb => by simp only [List.mem_singleton] at hb; subst hb; exact List.mem_range.2 hN3.lt
    rwa [hr] at this
  obtain ⟨g', hg', hgb, hc5⟩ := (h1.ext h5E).at hi
  rw [hg] at hg'; cases hg'
  have hk5 := (h1.ext h5E).sk x hx'
  have hkr : x.r.kids = s.kids.map I.id := by rw [hr]; rfl
  rw [hkr] at hk5
  have hkn := hk5.len
  simp only [List.length_map] at hkn
  have hkf := kids_few hR hs
  simp only at hkf
  refine ⟨x.sk, hc5 7 _ rfl, fun j c w' => ∃ k : Nat, j = (k : Int) ∧ k ≤ s.kids.length ∧ Nur (List.range w3.heap.size) w' c ((s.kids.take k).map I.toT) ∧ Own (List.range w3.heap.size) w' sa' 2 65 (s.attrs.map ac) ∧ (∀ b ∈ c.blk, b ∉ sa'.blk) ∧ w5.heap.size ≤ w'.heap.size ∧ Ext w w', fun j _ _ => s.kids.length - j.toNat, ⟨0, rfl, by omega, Nur.nil _ _, hsa5, by simp [Sl.blk], Nat.le_refl _, h5E⟩, ?_⟩
  rintro _ c w6 ⟨k, rfl, hk, hNur, hA6, hdis, hsz, hE6⟩
  rw [Int.toNat_natCast]
  refine ⟨fun hlt => ?_, fun hge w7 hC7 => ?_⟩
  · have hk' : k < s.kids.length := by omega
    have hum : s.kids[k] ∈ s.kids := List.getElem_mem hk'
    have hgd : (s.kids.map I.id).getD k 0 = s.kids[k].id := by simp [List.getD_eq_getElem?_getD, hk']
    have hk6 := (h1.ext hE6).sk x hx'
    rw [hkr] at hk6
    obtain ⟨q, hq, hcq⟩ := hk6.row.int (k := k) (by simpa using hk')
    rw [hgd] at hcq
    refine ⟨⟨by omega, hlt⟩, q, hq, _, hcq, fun w7 hE7 => ⟨fun kd n t a b w' => kd = s.kids[k].toT.kind ∧ n = s.kids[k].toT.name ∧ t = s.kids[k].toT.text ∧ RdT (List.range w7.heap.size) w' s.kids[k].toT a b, fun _ _ _ _ _ w' w'' hE hv => ⟨hv.1, hv.2.1, hv.2.2.1, hv.2.2.2.ext hE⟩, fun w' hE => ?_, ?_⟩⟩
    · refine Ret.mono (ih _ hum (h0.ext (hE6.trans (hE7.trans hE))) s.id (d + 1) (I.all_kid hs hum)) ?_
      rintro v w'' ⟨h1, a, b, rfl, h2⟩
      exact ⟨h1, _, _, _, a, b, rfl, rfl, rfl, rfl, h2.less fun b hb => List.mem_range.2 (Nat.lt_of_lt_of_le (List.mem_range.1 hb) hE.size)⟩
    rintro w8 _ _ _ a b B8 hE8 ⟨rfl, rfl, rfl, hV⟩ hB8 hbox8 _
    have hE68 : Ext w6 w8 := hE7.trans hE8
    have hA8 : ∀ b ∈ List.range w3.heap.size, b < w8.heap.size := fun b hb => by
      have := List.mem_range.1 hb; have := hE68.size; omega
    refine (hNur.ext hE68).push hA8 hbox8 ?_ (by simp; omega) ?_ fun s' w9 hN hC hbl => ⟨s', rfl, ⟨by omega, by omega⟩, fun w10 hC10 => ⟨⟨k + 1, by omega, by omega, ?_, ?_, ?_, ?_, ?_⟩, by dsimp only; omega⟩⟩
    · refine hV.less fun y hy => List.mem_range.2 ?_
      have := hE7.size
      rcases List.mem_append.1 hy with hy | hy
      · have := (hNur.own.2.2.2 y hy).2; omega
      · have := List.mem_range.1 hy; omega
    · intro b hb
      simp only [List.mem_cons, List.not_mem_nil, or_false] at hb
      rcases hb with rfl | rfl
      · exact List.mem_range.2 (by have := hN1.lt; have := hE2.size; have := hE3.size; omega)
      · exact List.mem_range.2 hN3.lt
    · have hF : ∀ b ∈ [B3], b ∈ List.range w3.heap.size := by simp only [List.mem_singleton]; rintro b rfl; exact List.mem_range.2 hN3.lt
      rw [takeI hk', List.map_append]; exact hN.chg hC10 hF
    · have hF : ∀ b ∈ [B3], b ∈ List.range w3.heap.size := by simp only [List.mem_singleton]; rintro b rfl; exact List.mem_range.2 hN3.lt
      have := (hA6.ext hE68)
      have h2 : Own (c.own ++ List.range w3.heap.size) w8 sa' 2 65 (s.attrs.map ac) := this.avoid fun b hb hm => by
        rcases List.mem_append.1 hm with hm | hm
        · exact hdis b (Sl.own_blk hm) hb
        · exact (this.blk b hb).1 hm
      exact (Own.less (A' := List.range w3.heap.size) (h2.chg hC (fun b hb => List.mem_append_left _ hb)) (fun b hb => List.mem_append_right _ hb)).chg hC10 hF
    · intro b hb hm
      rcases hbl b hb with h | h
      · exact hdis b (Sl.own_blk h) hm
      · have := (hA6.blk b hm).2
        have := hE68.size; omega
    · have h1 := hE68.size; have h2 := hC.size; have h3 := hC10.size; omega
    · refine Chg.fresh (Chg.fresh (hE6.trans hE68) hC fun y hy => ?_) hC10 (by simp only [List.mem_singleton]; rintro b rfl; have := hE02.size; omega)
      have := (hNur.own.2.2.2 y (Sl.own_blk hy)).1
      have h2 := hE03.size
      simp at this; omega
  · have hkl : k = s.kids.length := by omega
    subst hkl
    rw [List.take_length] at hNur
    have hF : ∀ b ∈ [B1], b ∈ List.range w3.heap.size := by simp only [List.mem_singleton]; rintro b rfl; exact List.mem_range.2 (by have := hN1.lt; have := hE2.size; have := hE3.size; omega)
    have hrd := (hNur.chg hC7 hF).rd (k := s.kind) (n := s.name) (x := s.text) (hA6.chg hC7 hF).row
    refine ⟨Chg.fresh hE6 hC7 (by simp only [List.mem_singleton]; rintro b rfl; omega), sa', c, ?_, ?_⟩
    · rw [I.toT_eq, hr]; rfl
    · rw [I.toT_eq]
      exact hrd.less fun b hb => List.mem_range.2 (Nat.lt_of_lt_of_le (List.mem_range.1 hb) hE03.size)

theorem domTree {w : World} (h : Dom A w D R) : Calls Try.prog 18 #[.pointer (some ⟨D, 0, none⟩)] w (Ret fun v w' => Ext w w' ∧ ∃ sa sk : Sl, v = tv R.toT sa sk ∧ RdT (List.range w.heap.size) w' R.toT sa sk) := by
  refine dom_Dom_Tree.ok _ ?_
  unfold dom_Dom_Tree.vc
  intro w1 B1 hN1 hE1
  have hs := domSub R (h.ext hE1) (-1) 1 (I.all_self R (-1) 1)
  rw [h.okay.root] at hs
  have hb1 := hN1.ge
  refine CallK.ext hs ?_
  rintro v w2 hE2 ⟨sa, sk, rfl, hrd⟩
  refine ⟨_, _, _, sa, sk, rfl, fun w3 hC3 => ⟨Chg.fresh (hE1.trans hE2) hC3 (by simpa using hb1), sa, sk, rfl, ?_⟩⟩
  have hF : ∀ b ∈ [B1], b ∈ List.range w1.heap.size := by simp only [List.mem_singleton]; rintro b rfl; exact List.mem_range.2 hN1.lt
  exact (hrd.chg hC3 hF).less fun b hb => List.mem_range.2 (Nat.lt_of_lt_of_le (List.mem_range.1 hb) hE1.size)

end
end

section
open Go.RowKit Go.MapKept

structure Mod (A : List Nat) (w w' : World) : Prop where
  os : w'.os = w.os
  tape : w'.tape = w.tape
  output : w'.output = w.output
  size : w.heap.size ≤ w'.heap.size
  block : ∀ k, k < w.heap.size → k ∈ A → w'.heap[k]? = w.heap[k]?

def Free (A : List Nat) (w : World) : List Nat := (List.range w.heap.size).filter fun b => !A.contains b

theorem mem_free {A : List Nat} {w : World} {b : Nat} : b ∈ Free A w ↔ b < w.heap.size ∧ b ∉ A := by simp [Free]

section

variable {A A' F : List Nat} {a b c w w' : World}

theorem Mod.of (h : Chg F a b) (hF : ∀ x ∈ F, x ∉ A) : Mod A a b := ⟨h.os, h.tape, h.output, h.size, fun k hk hA => h.block k hk fun hm => hF k hm hA⟩

theorem Mod.ext (h : Ext a b) : Mod A a b := Mod.of h (by simp)

theorem Mod.refl (A : List Nat) (w : World) : Mod A w w := Mod.ext (Chg.refl _ _)

theorem Mod.trans (h : Mod A a b) (k : Mod A b c) : Mod A a c := ⟨k.os.trans h.os, k.tape.trans h.tape, k.output.trans h.output, Nat.le_trans h.size k.size, fun i hi hA => (k.block i (Nat.lt_of_lt_of_le hi h.size) hA).trans (h.block i hi hA)⟩

theorem Mod.less (h : Mod A a b) (hA : ∀ x ∈ A', x ∈ A) : Mod A' a b := ⟨h.os, h.tape, h.output, h.size, fun k hk hm => h.block k hk (hA k hm)⟩

theorem Mod.chg (h : Mod A a b) : Chg (Free A a) a b := ⟨h.os, h.tape, h.output, h.size, fun k hk hm => h.block k hk (by
  by_cases hA : k ∈ A
  · exact hA
  · exact absurd (mem_free.2 ⟨hk, hA⟩) hm)⟩

theorem Mod.fresh (h : Ext a b) (k : Mod A b c) (hA : ∀ x, x < a.heap.size → x ∈ A) : Ext a c := ⟨k.os.trans h.os, k.tape.trans h.tape, k.output.trans h.output, Nat.le_trans h.size k.size, fun i hi _ => (k.block i (Nat.lt_of_lt_of_le hi h.size) (hA i hi)).trans (h.block i hi (by simp))⟩

theorem Mod.storeNew {B : Nat} (h : Mod A a b) (k : Chg [B] b c) (hB : a.heap.size ≤ B) : Mod A a c := ⟨k.os.trans h.os, k.tape.trans h.tape, k.output.trans h.output, Nat.le_trans h.size k.size, fun i hi hA => (k.block i (Nat.lt_of_lt_of_le hi h.size) (by simp; omega)).trans (h.block i hi hA)⟩

theorem Own.mod {A0 : List Nat} {s : Sl} {size : Nat} {T : TypeId} {vs : List (List Value)} (h : Own A0 a s size T vs) (k : Mod A a b) (hs : ∀ x ∈ s.blk, x ∈ A) : Own A0 b s size T vs := h.keep k.chg fun x hx hm => (mem_free.1 hm).2 (hs x hx)

theorem Box.mod {B : Nat} {T : TypeId} {cs : List Value} (h : Box a B T cs) (k : Mod A a b) (hB : B ∈ A) : Box b B T cs := h.keep k.chg fun hm => (mem_free.1 hm).2 hB

theorem CallK.mod {P : Program} {f : FuncId} {args : Array Value} {bx : List Nat} {R K : Value → World → Prop}
    (h : Calls P f args w (Ret fun v w' => Mod A w w' ∧ R v w')) (hd : ∀ b ∈ bx, b ∈ A) (k : ∀ v w', Mod A w w' → R v w' → K v w') : CallK P f args w bx K :=
  Ret.mono h fun v w' ⟨he, hr⟩ => ⟨fun b hb hlt => he.block b hlt (hd b hb), he.size, k v w' he hr⟩

/-- A tree that stands in the blocks of A alone, or in newer ones. -/
def Safe (A : List Nat) (w : World) (t : T) (sa sk : Sl) : Prop := RdT (Free A w) w t sa sk

theorem Safe.mod {t : T} {sa sk : Sl} (h : Safe A a t sa sk) (k : Mod A a b) : Safe A b t sa sk := by
  have h1 : RdT (Free A a) b t sa sk := RdT.chg k.chg (fun x hx => hx) h
  have h2 : RdT (Free A b) a t sa sk := RdT.wide h fun x hx => by
    have := mem_free.1 hx
    by_cases hlt : x < a.heap.size
    · exact .inl (mem_free.2 ⟨hlt, this.2⟩)
    · exact .inr (by omega)
  exact RdT.chg k.chg (fun x hx => by
    have h3 := mem_free.1 hx
    exact mem_free.2 ⟨Nat.lt_of_lt_of_le h3.1 k.size, h3.2⟩) h2

theorem Safe.of {X : List Nat} {t : T} {sa sk : Sl} (h : RdT X w t sa sk) (hA : ∀ x, x < w.heap.size → x ∈ A) : Safe A w t sa sk := RdT.wide h fun x hx => by
  have := mem_free.1 hx
  exact absurd (hA x this.1) this.2

theorem Safe.more {t : T} {sa sk : Sl} (h : Safe A w t sa sk) (hA : ∀ x ∈ A, x ∈ A') : Safe A' w t sa sk := RdT.less h fun x hx => by
  have := mem_free.1 hx
  exact mem_free.2 ⟨this.1, fun hm => this.2 (hA x hm)⟩

end

theorem findAt_congr : ∀ {X Y : List Nd}, (X.map fun x => x.r.id) = Y.map (fun x => x.r.id) → ∀ k i, findAt X k i = findAt Y k i
  | [], [], _, k, i => rfl
  | [], _ :: _, h, _, _ => by cases h
  | _ :: _, [], h, _, _ => by cases h
  | x :: r, y :: q, h, k, i => by
    simp only [List.map_cons, List.cons.injEq] at h
    rw [findAt, findAt, h.1, findAt_congr h.2]

theorem set_ids {X : List Nd} {i : Nat} {x x' : Nd} (hi : X[i]? = some x) (hid : x'.r.id = x.r.id) : ((X.set i x').map fun x => x.r.id) = X.map fun x => x.r.id := by
  apply List.ext_getElem?
  intro j
  rw [List.getElem?_map, List.getElem?_map, List.getElem?_set]
  by_cases h : i = j
  · subst h
    obtain ⟨h1, _⟩ := List.getElem?_eq_some_iff.1 hi
    rw [if_pos rfl, if_pos h1, hi]
    simp [hid]
  · rw [if_neg h]

theorem set_at {X : List Nd} {i : Nat} {x x' : Nd} (hi : X[i]? = some x) {j : Nat} {y : Nd} (hy : (X.set i x')[j]? = some y) : (j = i ∧ y = x') ∨ (j ≠ i ∧ X[j]? = some y) := by
  rw [List.getElem?_set] at hy
  by_cases h : i = j
  · subst h
    obtain ⟨h1, _⟩ := List.getElem?_eq_some_iff.1 hi
    rw [if_pos rfl, if_pos h1] at hy
    exact .inl ⟨rfl, (Option.some.inj hy).symm⟩
  · rw [if_neg h] at hy; exact .inr ⟨fun e => h e.symm, hy⟩

section

variable {A : List Nat} {w w1 w2 : World} {D : Nat} {l : Sl} {M : Nat} {m : List (Int × Value)} {X : List Nd}

/-- Blocks of a node's own are no other's. -/
theorem Arena.only (h : Arena A w D l M m X) {i : Nat} {x : Nd} (hi : X[i]? = some x) {b : Nat} (hb : b ∈ x.sa.blk ∨ b ∈ x.sk.blk) : b ∉ A ∧ b ≠ D ∧ b ≠ M ∧ b ∉ l.blk ∧ ∀ j y, j ≠ i → X[j]? = some y → b ∉ y.sa.blk ∧ b ∉ y.sk.blk := by
  have hx := List.mem_of_getElem? hi
  have ha := h.sa x hx
  have hk := h.sk x hx
  rcases hb with hb | hb
  · refine ⟨(ha.blk b hb).1, fun e => (ha.other h.box (by decide)) (e ▸ hb), fun e => (ha.noMap h.map) (e ▸ hb), (ha.apart h.row (by decide)) b hb, fun j y hj hy => ⟨(h.apart i j x y (fun e => hj e.symm) hi hy).1 b hb, (ha.apart (h.sk y (List.mem_of_getElem? hy)) (by decide)) b hb⟩⟩
  · refine ⟨(hk.blk b hb).1, fun e => (hk.other h.box (by decide)) (e ▸ hb), fun e => (hk.noMap h.map) (e ▸ hb), (hk.apart h.row (by decide)) b hb, fun j y hj hy => ⟨(hk.apart (h.sa y (List.mem_of_getElem? hy)) (by decide)) b hb, (h.apart i j x y (fun e => hj e.symm) hi hy).2 b hb⟩⟩

theorem Arena.upd (h : Arena A w D l M m X) {i : Nat} {x : Nd} (hi : X[i]? = some x) (x' : Nd) (hid : x'.r.id = x.r.id) {F : List Nat} (hC : Chg F w w1) (hF : ∀ b ∈ F, b ∈ x.sa.blk ∨ b ∈ x.sk.blk ∨ w.heap.size ≤ b)
    (hsa : Own A w1 x'.sa 2 65 (x'.r.attrs.map ac)) (hsk : Own A w1 x'.sk 1 3 (x'.r.kids.map ic)) (hba : ∀ b ∈ x'.sa.blk, b ∈ x.sa.blk ∨ w.heap.size ≤ b) (hbk : ∀ b ∈ x'.sk.blk, b ∈ x.sk.blk ∨ w.heap.size ≤ b) (hfit : x'.r.attrs.length ≤ 1000000 ∧ x'.r.kids.length ≤ 1000000)
    {g : Nat} {cur us : List Value} {o : Nat} (hg : l.a = some ⟨g, 0, none⟩) (hB : Box w1 g 76 cur) (hC2 : Chg [g] w1 w2) (hB2 : Box w2 g 76 (putAt cur (i * 8 + o) us)) (ho : o + us.length ≤ 8) (hput : putAt (ndc x) o us = ndc x') :
    Arena A w2 D l M m (X.set i x') ∧ Chg (g :: F) w w2 := by
  have hx := List.mem_of_getElem? hi
  have hgl : l.blk = [g] := by simp [Sl.blk, hg]
  have hgd : g ≠ D := fun e => (h.row.other h.box (by decide)) (by rw [hgl, e]; simp)
  have hgm : g ≠ M := fun e => (h.row.noMap h.map) (by rw [hgl, e]; simp)
  have hgA : g ∉ A := (h.row.blk g (by rw [hgl]; simp)).1
  have hglt : g < w.heap.size := (h.row.blk g (by rw [hgl]; simp)).2
  have hFn : ∀ {b : Nat}, b ∈ F → b < w.heap.size → b ∈ x.sa.blk ∨ b ∈ x.sk.blk := fun hb hlt => by
    rcases hF _ hb with h | h | h
    · exact .inl h
    · exact .inr h
    · omega
  have hDF : D ∉ F := fun hm => (h.only hi (hFn hm h.box.lt)).2.1 rfl
  have hMF : M ∉ F := fun hm => (h.only hi (hFn hm h.map.lt)).2.2.1 rfl
  have hlF : ∀ b ∈ l.blk, b ∉ F := fun b hb hm => (h.only hi (hFn hm (h.row.blk b hb).2)).2.2.2.1 hb
  obtain ⟨hil, _⟩ := List.getElem?_eq_some_iff.1 hi
  have hil' : i < (X.map ndc).length := by simpa using hil
  have hgD : (X.map ndc).getD i [] = ndc x := by rw [List.getD_eq_getElem?_getD, List.getElem?_map, hi]; rfl
  have hrow := (h.row.keep hC hlF).put hg hB hil' ho hB2
  rw [hgD, hput, ← List.map_set] at hrow
  have oth : ∀ (j : Nat) (y : Nd), j ≠ i → X[j]? = some y → Own A w2 y.sa 2 65 (y.r.attrs.map ac) ∧ Own A w2 y.sk 1 3 (y.r.kids.map ic) := fun j y hj hy => by
    have hym := List.mem_of_getElem? hy
    have a1 := h.sa y hym
    have k1 := h.sk y hym
    refine ⟨(a1.keep hC fun b hb hm => ((h.only hi (hFn hm (a1.blk b hb).2)).2.2.2.2 j y hj hy).1 hb).keep hC2 fun b hb hm => ?_, (k1.keep hC fun b hb hm => ((h.only hi (hFn hm (k1.blk b hb).2)).2.2.2.2 j y hj hy).2 hb).keep hC2 fun b hb hm => ?_⟩
    · simp at hm; exact (a1.apart h.row (by decide)) b hb (by rw [hgl, hm]; simp)
    · simp at hm; exact (k1.apart h.row (by decide)) b hb (by rw [hgl, hm]; simp)
  have own : Own A w2 x'.sa 2 65 (x'.r.attrs.map ac) ∧ Own A w2 x'.sk 1 3 (x'.r.kids.map ic) := by
    refine ⟨hsa.keep hC2 fun b hb hm => ?_, hsk.keep hC2 fun b hb hm => ?_⟩
    · simp at hm; exact (hsa.other hB (by decide)) (hm ▸ hb)
    · simp at hm; exact (hsk.other hB (by decide)) (hm ▸ hb)
  have each : ∀ (j : Nat) (y : Nd), (X.set i x')[j]? = some y → Own A w2 y.sa 2 65 (y.r.attrs.map ac) ∧ Own A w2 y.sk 1 3 (y.r.kids.map ic) ∧ y.r.attrs.length ≤ 1000000 ∧ y.r.kids.length ≤ 1000000 := fun j y hy => by
    rcases set_at hi hy with ⟨_, rfl⟩ | ⟨hj, hy⟩
    · exact ⟨own.1, own.2, hfit⟩
    · exact ⟨(oth j y hj hy).1, (oth j y hj hy).2, h.fit y (List.mem_of_getElem? hy)⟩
  have eachM : ∀ y ∈ X.set i x', Own A w2 y.sa 2 65 (y.r.attrs.map ac) ∧ Own A w2 y.sk 1 3 (y.r.kids.map ic) ∧ y.r.attrs.length ≤ 1000000 ∧ y.r.kids.length ≤ 1000000 := fun y hy => by
    obtain ⟨j, hj, e⟩ := List.getElem_of_mem hy
    exact each j y (by rw [List.getElem?_eq_getElem hj, e])
  have newer : ∀ (j : Nat) (y : Nd), j ≠ i → X[j]? = some y → (∀ b ∈ x'.sa.blk, b ∉ y.sa.blk) ∧ ∀ b ∈ x'.sk.blk, b ∉ y.sk.blk := fun j y hj hy => by
    have hym := List.mem_of_getElem? hy
    refine ⟨fun b hb hm => ?_, fun b hb hm => ?_⟩
    · rcases hba b hb with h1 | h1
      · exact (h.apart i j x y (fun e => hj e.symm) hi hy).1 b h1 hm
      · have := ((h.sa y hym).blk b hm).2; omega
    · rcases hbk b hb with h1 | h1
      · exact (h.apart i j x y (fun e => hj e.symm) hi hy).2 b h1 hm
      · have := ((h.sk y hym).blk b hm).2; omega
  refine ⟨⟨(h.box.keep hC hDF).keep hC2 (by simpa using fun e => hgd e.symm), h.dA, h.mA, hrow, fun y hy => (eachM y hy).1, fun y hy => (eachM y hy).2.1, fun j k y z hjk hy hz => ?_, (h.map.chg hC hMF).chg hC2 (by simpa using fun e => hgm e.symm), fun k => ?_, h.mkeys, by rw [set_ids hi hid]; exact h.nodup, by rw [List.length_set]; exact h.few, fun y hy => (eachM y hy).2.2⟩, ?_⟩
  · rcases set_at hi hy with ⟨e1, e2⟩ | ⟨hj, hy'⟩
    · rcases set_at hi hz with ⟨e, _⟩ | ⟨hk, hz'⟩
      · exact absurd (e1.trans e.symm) hjk
      · rw [e2]; exact newer k z hk hz'
    · rcases set_at hi hz with ⟨e1, e2⟩ | ⟨hk, hz'⟩
      · have := newer j y hj hy'
        rw [e2]
        exact ⟨fun b hb hm => this.1 b hm hb, fun b hb hm => this.2 b hm hb⟩
      · exact h.apart j k y z hjk hy' hz'
  · rw [h.keys, findAt_congr (set_ids hi hid)]
  · exact (hC.mono fun x hx => List.mem_cons_of_mem _ hx).trans (hC2.mono fun x hx => by simp only [List.mem_singleton] at hx; rw [hx]; exact List.mem_cons_self ..)

theorem mput_mem {κ : Type} [DecidableEq κ] {m : List (κ × Value)} {k : κ} {v : Value} {x : κ} : x ∈ (mput m k v).map (fun p => p.1) → x = k ∨ x ∈ m.map fun p => p.1 := by
  induction m with
  | nil => intro h; left; simpa [mput] using h
  | cons p r ih =>
    intro h
    by_cases hp : p.1 = k
    · rw [mput, if_pos hp] at h
      rw [List.map_cons] at h
      rcases List.mem_cons.1 h with h | h
      · exact .inl h
      · exact .inr (by rw [List.map_cons]; exact List.mem_cons_of_mem _ h)
    · rw [mput, if_neg hp, List.map_cons] at h
      rcases List.mem_cons.1 h with h | h
      · exact .inr (by rw [List.map_cons, h]; exact List.mem_cons_self ..)
      · exact (ih h).imp id fun h => by rw [List.map_cons]; exact List.mem_cons_of_mem _ h

theorem mput_keys {κ : Type} [DecidableEq κ] {m : List (κ × Value)} (k : κ) (v : Value) (h : (m.map fun p => p.1).Nodup) : ((mput m k v).map fun p => p.1).Nodup := by
  induction m with
  | nil => simp [mput]
  | cons p r ih =>
    rw [List.map_cons] at h
    obtain ⟨h1, h2⟩ := List.nodup_cons.1 h
    by_cases hp : p.1 = k
    · rw [mput, if_pos hp, List.map_cons]
      exact List.nodup_cons.2 ⟨by rw [← hp]; exact h1, h2⟩
    · rw [mput, if_neg hp, List.map_cons]
      refine List.nodup_cons.2 ⟨fun hm => ?_, ih h2⟩
      rcases mput_mem hm with e | hm
      · exact hp e
      · exact h1 hm

/-- A row more. -/
theorem Arena.push (h : Arena A w D l M m X) (x : Nd) (hid : ∀ y ∈ X, y.r.id ≠ x.r.id) {l' : Sl} {m' : List (Int × Value)} (hbox : Box w1 D 71 [l'.v, .map (some M)]) (hrow : Own A w1 l' 8 76 ((X ++ [x]).map ndc)) (hC : Mod A w w1)
    (oth : ∀ y ∈ X, Own A w1 y.sa 2 65 (y.r.attrs.map ac) ∧ Own A w1 y.sk 1 3 (y.r.kids.map ic)) (hsa : Own A w1 x.sa 2 65 (x.r.attrs.map ac)) (hsk : Own A w1 x.sk 1 3 (x.r.kids.map ic)) (hba : ∀ b ∈ x.sa.blk, w.heap.size ≤ b) (hbk : ∀ b ∈ x.sk.blk, w.heap.size ≤ b)
    (hfit : x.r.attrs.length ≤ 1000000 ∧ x.r.kids.length ≤ 1000000) (hmap : MapIs numV (.int .i64) w1 M m') (hm' : m' = mput m x.r.id (numV (X.length : Int))) (hfew : X.length + 1 ≤ 1000000) : Arena A w1 D l' M m' (X ++ [x]) := by
  have eachM : ∀ y ∈ X ++ [x], Own A w1 y.sa 2 65 (y.r.attrs.map ac) ∧ Own A w1 y.sk 1 3 (y.r.kids.map ic) ∧ y.r.attrs.length ≤ 1000000 ∧ y.r.kids.length ≤ 1000000 := fun y hy => by
    rcases List.mem_append.1 hy with hy | hy
    · exact ⟨(oth y hy).1, (oth y hy).2, h.fit y hy⟩
    · have : y = x := by simpa using hy
      subst this; exact ⟨hsa, hsk, hfit⟩
  have cases' : ∀ {j : Nat} {y : Nd}, (X ++ [x])[j]? = some y → (X[j]? = some y) ∨ (j = X.length ∧ y = x) := fun {j y} hy => by
    by_cases hj : j < X.length
    · rw [List.getElem?_append_left hj] at hy; exact .inl hy
    · rw [List.getElem?_append_right (by omega)] at hy
      have := (List.getElem?_eq_some_iff.1 hy).1
      have h0 : j - X.length = 0 := by simp at this; omega
      rw [h0] at hy
      exact .inr ⟨by omega, by simpa using hy.symm⟩
  have newer : ∀ y ∈ X, (∀ b ∈ x.sa.blk, b ∉ y.sa.blk) ∧ ∀ b ∈ x.sk.blk, b ∉ y.sk.blk := fun y hy =>
    ⟨fun b hb hm => by have := hba b hb; have := ((h.sa y hy).blk b hm).2; omega, fun b hb hm => by have := hbk b hb; have := ((h.sk y hy).blk b hm).2; omega⟩
  refine ⟨hbox, h.dA, h.mA, hrow, fun y hy => (eachM y hy).1, fun y hy => (eachM y hy).2.1, fun j k y z hjk hy hz => ?_, hmap, fun k => ?_, by rw [hm']; exact mput_keys _ _ h.mkeys, ?_, by rw [List.length_append]; exact hfew, fun y hy => (eachM y hy).2.2⟩
  · rcases cases' hy with hy' | ⟨e1, e2⟩
    · rcases cases' hz with hz' | ⟨_, e2⟩
      · exact h.apart j k y z hjk hy' hz'
      · have := newer y (List.mem_of_getElem? hy')
        rw [e2]
        exact ⟨fun b hb hm => this.1 b hm hb, fun b hb hm => this.2 b hm hb⟩
    · rcases cases' hz with hz' | ⟨e3, _⟩
      · rw [e2]; exact newer z (List.mem_of_getElem? hz')
      · exact absurd (e1.trans e3.symm) hjk
  · have hfa : ∀ (X : List Nd) (i : Nat), (∀ y ∈ X, y.r.id ≠ x.r.id) → findAt (X ++ [x]) k i = if k = x.r.id then some (i + X.length) else findAt X k i := fun X => by
      induction X with
      | nil =>
        intro i _
        show (if x.r.id = k then some i else none) = if k = x.r.id then some (i + 0) else none
        by_cases hk : k = x.r.id
        · rw [if_pos hk, if_pos hk.symm]; rfl
        · rw [if_neg hk, if_neg (fun e : x.r.id = k => hk e.symm)]
      | cons y r ih =>
        intro i hy
        rw [List.cons_append, findAt, ih (i + 1) fun z hz => hy z (by simp [hz])]
        by_cases hk : k = x.r.id
        · rw [if_neg (fun e => hy y (by simp) (e.trans hk)), if_pos hk, if_pos hk, List.length_cons]
          congr 1; omega
        · rw [if_neg hk, if_neg hk, findAt]
    rw [hm', mget_put, h.keys, hfa X 0 hid]
    by_cases hk : k = x.r.id
    · rw [if_pos hk, if_pos hk, Nat.zero_add]; rfl
    · rw [if_neg hk, if_neg hk]
  · rw [List.map_append]
    refine List.nodup_append.2 ⟨h.nodup, by simp, fun a ha b hb e => ?_⟩
    simp only [List.map_cons, List.map_nil, List.mem_singleton] at hb
    obtain ⟨y, hy, rfl⟩ := List.mem_map.1 ha
    exact hid y hy (e.trans hb)

end
end

section
open Go.RowKit

namespace T

/-- How many nodes and attributes. -/
def span (t : T) : Nat := t.size + t.slots

theorem size_span (t : T) : t.size ≤ t.span := by unfold span; omega

theorem kid_span {t u : T} (h : u ∈ t.kids) : u.span < t.span := by
  unfold span
  rw [size_eq t, slots_eq t]
  have := mem_sum size h
  have := mem_sum slots h
  omega

theorem kids_span (t : T) : t.kids.length < t.span := by
  have h1 : t.kids.length ≤ (t.kids.map size).sum := by
    have h2 := sum_le (fun _ => 1) size t.kids fun u _ => by rw [size_eq]; omega
    have e : ∀ l : List T, (l.map fun _ => 1).sum = l.length := fun l => by induction l with
      | nil => rfl
      | cons a r ih => simp only [List.map_cons, List.sum_cons, ih, List.length_cons]; omega
    rw [e] at h2; exact h2
  unfold span
  rw [size_eq t]; omega

theorem attrs_span (t : T) : t.attrs.length ≤ t.span := by unfold span; rw [slots_eq]; omega

end T

theorem treeSizeS {A : List Nat} : ∀ t : T, t.span ≤ 1099511627776 → ∀ {w : World} {sa sk : Sl}, RdT A w t sa sk →
    Calls Try.prog 32 #[tv t sa sk] w (Ret fun v w' => Ext w w' ∧ v = .int .i64 (t.size : Int)) := T.ind' fun t ih hb w sa sk h => by
  refine tree_Size.ok _ _ _ _ _ ?_
  unfold tree_Size.vc
  have hn := h.nkids
  have hcp := h.caps
  have hl := T.kids_span t
  intro w1 B1 _ hE1
  refine ⟨fun n i w2 => ∃ k : Nat, i = (k : Int) ∧ k ≤ t.kids.length ∧ n = ((1 + ((t.kids.take k).map T.size).sum : Nat) : Int) ∧ Ext w w2, fun _ i _ => t.kids.length - i.toNat, ⟨0, rfl, Nat.zero_le _, by simp, hE1⟩, ?_⟩
  rintro _ _ w2 ⟨k, rfl, hk, rfl, hE⟩
  refine ⟨fun hi => ?_, fun hi => ⟨hE, ?_⟩⟩
  · have hk' : k < t.kids.length := by omega
    obtain ⟨p, sa', sk', hp, _, hc, hr⟩ := (h.ext hE).kid hk'
    rw [Int.toNat_natCast]
    have hm := getD_mem (d := T.nul) hk'
    have hs := sum_take T.size hk'
    have hsl := sum_take_le T.size t.kids (k + 1)
    have ht := T.size_eq t
    have htb := T.size_span t
    refine ⟨⟨by omega, hi⟩, p, hp, _, _, _, sa', sk', hc, fun w3 B3 _ hE3 => CallK.exact (ih _ hm (by have := T.kid_span hm; omega) (hr.ext hE3)) fun w4 hE4 => ⟨_, rfl, ⟨by omega, by omega⟩, ⟨by omega, by omega⟩, ⟨k + 1, by omega, by omega, by omega, (hE.trans hE3).trans hE4⟩, by dsimp only; omega⟩⟩
  · have hkl : k = t.kids.length := by omega
    subst hkl
    rw [List.take_of_length_le (Nat.le_refl _), T.size_eq t]

theorem treeDepthS {A : List Nat} : ∀ t : T, t.span ≤ 1099511627776 → ∀ {w : World} {sa sk : Sl}, RdT A w t sa sk →
    Calls Try.prog 17 #[tv t sa sk] w (Ret fun v w' => Ext w w' ∧ v = .int .i64 (t.depth : Int)) := T.ind' fun t ih hb w sa sk h => by
  refine tree_Depth.ok _ _ _ _ _ ?_
  unfold tree_Depth.vc
  have hn := h.nkids
  have hcp := h.caps
  have hl := T.kids_span t
  intro w1 B1 _ hE1
  refine ⟨fun n i w2 => ∃ k : Nat, i = (k : Int) ∧ k ≤ t.kids.length ∧ n = ((((t.kids.take k).map T.depth).foldr max 0 : Nat) : Int) ∧ Ext w w2, fun _ i _ => t.kids.length - i.toNat, ⟨0, rfl, Nat.zero_le _, by simp, hE1⟩, ?_⟩
  rintro _ _ w2 ⟨k, rfl, hk, rfl, hE⟩
  refine ⟨fun hi => ?_, fun hi => ?_⟩
  · have hk' : k < t.kids.length := by omega
    obtain ⟨p, sa', sk', hp, _, hc, hr⟩ := (h.ext hE).kid hk'
    rw [Int.toNat_natCast]
    have hm := getD_mem (d := T.nul) hk'
    have hs := max_take T.depth hk'
    refine ⟨⟨by omega, hi⟩, p, hp, _, _, _, sa', sk', hc, fun w3 B3 _ hE3 => CallK.exact (ih _ hm (by have := T.kid_span hm; omega) (hr.ext hE3)) fun w4 hE4 => ⟨_, rfl, ⟨by omega, by omega⟩, ⟨k + 1, by omega, by omega, by omega, (hE.trans hE3).trans hE4⟩, by dsimp only; omega⟩⟩
  · have hkl : k = t.kids.length := by omega
    subst hkl
    have h1 := T.depth_eq t
    have h2 := T.depth_size t
    have h3 := T.size_span t
    rw [List.take_of_length_le (Nat.le_refl _)]
    refine ⟨⟨by omega, by omega⟩, hE, ?_⟩
    rw [h1]; congr 1; omega

theorem treeKidsS {A : List Nat} (t : T) (hb : t.span ≤ 1099511627776)
    (ih : ∀ u ∈ t.kids, ∀ {w : World} {sa sk : Sl}, RdT A w u sa sk → Calls Try.prog 83 #[tv u sa sk] w (Ret fun v w' => Ext w w' ∧ v = .bool (nodeOk u))) {w : World} {sa sk : Sl} (h : RdT A w t sa sk) :
    Calls Try.prog 63 #[tv t sa sk] w (Ret fun v w' => Ext w w' ∧ v = .bool (kidsOk t)) := by
  refine tree_kids.ok _ _ _ _ _ ?_
  unfold tree_kids.vc
  have hn := h.nkids
  have hcp := h.caps
  have hl := T.kids_span t
  intro w1 B1 _ hE1
  refine ⟨fun i w2 => ∃ k : Nat, i = (k : Int) ∧ k ≤ t.kids.length ∧ kidsOk t = (t.kids.drop k).all (fun u => nodeOk u && !(decide (u.kind = 5) && !(decide (t.kind = 1)))) ∧ Ext w w2, fun i _ => t.kids.length - i.toNat, ⟨0, rfl, Nat.zero_le _, rfl, hE1⟩, ?_⟩
  rintro _ w2 ⟨k, rfl, hk, heq, hE⟩
  refine ⟨fun hi => ?_, fun hi => ⟨hE, ?_⟩⟩
  · have hk' : k < t.kids.length := by omega
    obtain ⟨p, sa', sk', hp, _, hc, hr⟩ := (h.ext hE).kid hk'
    rw [Int.toNat_natCast]
    have hm := getD_mem (d := T.nul) hk'
    rw [List.drop_eq_getElem_cons hk', List.all_cons, show t.kids[k] = t.kids.getD k T.nul by rw [List.getD_eq_getElem?_getD, List.getElem?_eq_getElem hk']; rfl] at heq
    refine ⟨⟨by omega, hi⟩, p, hp, _, _, _, sa', sk', hc, fun w3 B3 _ hE3 => CallK.exact (ih _ hm (hr.ext hE3)) fun w4 hE4 => ⟨_, rfl, fun hbad => ⟨(hE.trans hE3).trans hE4, ?_⟩, fun hgood => ⟨⟨by omega, by omega⟩, ⟨k + 1, by omega, by omega, ?_, (hE.trans hE3).trans hE4⟩, by dsimp only; omega⟩⟩⟩
    · rw [heq]
      rcases hbad with hb | ⟨hb1, hb2⟩
      · rw [hb]; rfl
      · rw [decide_eq_true hb1, decide_eq_false hb2]; simp
    · rw [heq, hgood.1]
      rcases hgood.2 with hb | hb
      · rw [decide_eq_false hb]; simp
      · rw [decide_eq_true (Classical.not_not.1 hb)]; simp
  · have hkl : k = t.kids.length := by omega
    subst hkl
    rw [heq, List.drop_length]; rfl

theorem treeNodeS {A : List Nat} : ∀ t : T, t.span ≤ 1099511627776 → ∀ {w : World} {sa sk : Sl}, RdT A w t sa sk →
    Calls Try.prog 83 #[tv t sa sk] w (Ret fun v w' => Ext w w' ∧ v = .bool (nodeOk t)) := T.ind' fun t ih hb w sa sk h => by
  refine tree_node.ok _ _ _ _ _ ?_
  unfold tree_node.vc
  have hn := h.nkids
  have hna := h.nattrs
  refine ⟨fun h2 => ?_, fun h2 => ?_⟩
  · rw [nodeOk_el h2]
    intro w1 B1 _ hE1
    refine CallK.exact (treeName t.name) fun w2 hE2 => ⟨_, rfl, _, fun _ => treeAttrs (h.attrs.ext (hE1.trans hE2)), fun w3 hE3 => ⟨kidsOk t, fun _ => treeKidsS t hb (fun u hu _ _ _ hr => ih u hu (by have := T.kid_span hu; omega) hr) (h.ext ((hE1.trans hE2).trans hE3)), fun w4 hE4 => ⟨((hE1.trans hE2).trans hE3).trans hE4, ?_⟩⟩⟩
    rw [isEmpty_dec]
  · rw [nodeOk_ne h2]
    refine ⟨fun hbad w1 B1 _ hE1 => ⟨hE1, ?_⟩, fun hgood => ?_⟩
    · have : (t.attrs.isEmpty && t.kids.isEmpty) = false := by
        rcases hbad with hb | hb
        · have : t.attrs.isEmpty = false := by cases hx : t.attrs <;> simp_all
          rw [this]; rfl
        · have : t.kids.isEmpty = false := by cases hx : t.kids <;> simp_all
          rw [this, Bool.and_false]
      rw [this, Bool.false_and]
    · have ha : t.attrs.isEmpty = true := by cases hx : t.attrs <;> simp_all
      have hk : t.kids.isEmpty = true := by cases hx : t.kids <;> simp_all
      rw [ha, hk, Bool.true_and, Bool.true_and]
      have l4 := le_dec t.text 4096
      have l3 := le_dec t.name 32
      rw [show ((4096 : Nat) : Int) = 4096 from rfl] at l4
      rw [show ((32 : Nat) : Int) = 32 from rfl] at l3
      refine ⟨fun h3 w1 B1 _ hE1 => ⟨hE1, ?_⟩, fun h3 => ⟨fun h4 w1 B1 _ hE1 => ⟨hE1, ?_⟩, fun h4 => ⟨fun h5 w1 B1 _ hE1 => ⟨hE1, ?_⟩, fun h5 w1 B1 _ hE1 => ⟨hE1, ?_⟩⟩⟩⟩
      · rw [if_pos h3, isEmpty_dec, isEmpty_ndec, l4]
      · rw [if_neg h3, if_pos h4, isEmpty_dec, l4]
      · rw [if_neg h3, if_neg h4, if_pos h5, isEmpty_dec, l3]
      · rw [if_neg h3, if_neg h4, if_neg h5]

theorem treeCheckS {A : List Nat} (t : T) (hb : t.span ≤ 1099511627776) {w : World} {sa sk : Sl} (h : RdT A w t sa sk) :
    Calls Try.prog 31 #[tv t sa sk] w (Ret fun v w' => Ext w w' ∧ v = .bool t.check) := by
  refine tree_Check.ok _ _ _ _ _ ?_
  unfold tree_Check.vc
  have hna := h.nattrs
  intro w1 B1 _ hE1
  refine ⟨_, fun _ => treeSizeS t hb (h.ext hE1), fun w2 hE2 => ⟨_, fun _ => treeDepthS t hb (h.ext (hE1.trans hE2)), fun w3 hE3 w4 hE4 B4 _ hB4 => ?_⟩⟩
  have hE14 := ((hE1.trans hE2).trans hE3).trans hE4
  refine ⟨(t.name.isEmpty && t.text.isEmpty), fun hg => ?_, fun w5 hE5 => ⟨kidsOk t, fun _ => treeKidsS t hb (fun u hu _ _ _ hr => treeNodeS u (by have := T.kid_span hu; omega) hr) (h.ext (hE14.trans hE5)), fun w6 hE6 => ⟨(hE14.trans hE5).trans hE6, ?_⟩⟩⟩
  · have := treeEmpty (Box.strs (l := [t.name, t.text]) (hB4 hg) (by simp))
    simpa using this
  · unfold T.check
    have e1 : decide ((t.size : Int) ≤ 300) = decide (t.size ≤ 300) := by rw [Bool.eq_iff_iff]; simp; omega
    have e2 : decide ((t.depth : Int) ≤ 60) = decide (t.depth ≤ 60) := by rw [Bool.eq_iff_iff]; simp; omega
    have e3 : decide ((sa.n : Int) = 0) = t.attrs.isEmpty := by
      rw [hna]; cases t.attrs with
      | nil => rfl
      | cons a r => simp; omega
    rw [e1, e2, e3]
end

section
open Go.RowKit Go.MapKept

theorem ones_ndc (x : Nd) : ∀ u ∈ [ndc x].flatten, u.oneCell' = true := by intro u hu; simp [ndc] at hu; rcases hu with rfl | rfl | rfl | rfl | rfl | rfl | rfl | rfl <;> rfl

section

variable {A : List Nat} {w : World} {D : Nat} {l : Sl} {M : Nat} {m : List (Int × Value)} {X : List Nd}

theorem domPut {B : List Nat} {sa sk : Sl} {ats : List (Str × Str)} (h : Arena A w D l M m X) (hA : ∀ b ∈ A, b < w.heap.size) {id : Int} (hid : ∀ y ∈ X, y.r.id ≠ id) (ha : Row B w sa 2 (ats.map ac)) (hats : ats.length ≤ 1000000) (hX : X.length + 1 ≤ 1000000) (par kind : Int) (name text : Str) :
    Calls Try.prog 48 #[.pointer (some ⟨D, 0, none⟩), .int .i64 id, .int .i64 par, .agg #[.int .i64 kind, .string (Bs name), .string (Bs text), sa.v, sk.v]] w (Ret fun v w' => Mod A w w' ∧ v = .tuple #[] ∧ ∃ l' m' x, Arena A w' D l' M m' (X ++ [x]) ∧ x.r = ⟨id, par, kind, name, text, ats, []⟩) := by
  refine dom_Dom_put.ok _ _ _ _ _ _ _ _ ?_
  unfold dom_Dom_put.vc
  intro w1 B1 hN1 hE1
  have hb1 := hN1.ge
  have hDlt := h.box.lt
  have hMlt := h.map.lt
  have hn := h.row.len
  rw [List.length_map] at hn
  refine CallK.ext (cloneAttrs (ha.ext hE1) (by omega)) ?_
  rintro v w2 hE2 ⟨s, rfl, hs⟩
  refine ⟨s, rfl, fun w3 hC3 => ?_⟩
  have hE02 := hE1.trans hE2
  have hE03 : Ext w w3 := Chg.fresh hE02 hC3 (by simpa using hb1)
  have h3 := h.ext hE03
  have hs3 : Own (List.range w1.heap.size) w3 s 2 65 (ats.map ac) := hs.chg hC3 fun b hb => by simp only [List.mem_singleton] at hb; rw [hb]; exact List.mem_range.2 hN1.lt
  refine ⟨some M, by rw [Addr.add_lit]; exact h3.box.cell 1 _ rfl, l, by rw [Addr.add_lit]; exact h3.box.cell 0 _ rfl, fun w4 hE4 => ?_⟩
  have h4 := h3.ext hE4
  have hE04 := hE03.trans hE4
  have hMD : M ≠ D := h4.map.box h4.box
  refine mapUpdate_run keyNum numV_inj Try.underlying68 Try.underlying3 h4.map id (numV (l.n : Int)) (by simp; omega) fun w5 hC5 hM5 w6 hE6 => ?_
  have hM6 := hM5.ext hE6
  have hbox6 : Box w6 D 71 [l.v, .map (some M)] := (h4.box.keep hC5 (by simpa using hMD.symm)).ext hE6
  refine ⟨l, by rw [Addr.add_lit]; exact hbox6.cell 0 _ rfl, fun w7 B7 hE7 hB7 hbox7 _ => ?_⟩
  have hrow7 : Own (B1 :: A) w7 l 8 76 (X.map ndc) := (((h4.row.keep hC5 (fun b hb hm => h4.row.noMap h4.map (by simp only [List.mem_singleton] at hm; exact hm ▸ hb))).ext hE6).ext hE7).cons fun hm => by
    have := (h.row.blk _ hm).2; omega
  have hsz4 := hE04.size
  have hsz7 : w.heap.size ≤ w7.heap.size := Nat.le_trans (Nat.le_trans hE04.size hC5.size) (Nat.le_trans hE6.size hE7.size)
  have h17 : w1.heap.size ≤ w7.heap.size := by have := hE2.size; have := hC3.size; have := hE4.size; have := hC5.size; have := hE6.size; have := hE7.size; omega
  let x : Nd := ⟨⟨id, par, kind, name, text, ats, []⟩, s, Sl.nil⟩
  have hone : Own [] w7 (Sl.mk (some ⟨B7, 0, none⟩) 1 1) 8 76 [ndc x] := Own.one (A := []) (cs := ndc x) hbox7 (by simp)
  refine App.runK Try.underlying69 ti_76 rfl (by decide) (.inl hrow7) (fun b hb => ?_) hone.row (ones_ndc x) (by simp) (by simp only [maxLen, List.length_singleton]; omega) (by simp only [List.length_singleton]; omega) (by simp) fun l' w8 hrow8 hC8 hbl8 => ⟨l', rfl, fun w9 hE9 w10 hE10 => ?_⟩
  · rcases List.mem_cons.1 hb with rfl | hb
    · have := hN1.lt; omega
    · have := hA b hb; omega
  have hE810 := hE9.trans hE10
  have hDl : D ∉ l.own := fun hm => (h.row.other h.box (by decide)) (Sl.own_blk hm)
  have hbox10 : Box w10 D 71 [l.v, .map (some M)] := ((hbox6.ext hE7).keep hC8 hDl).ext hE810
  refine ⟨D, 0, 71, _, by rw [Addr.add_lit], hbox10, by simp, by simp; omega, fun w11 hC11 hB11 => ?_⟩
  have hmod : Mod A w w11 := by
    have m1 : Mod A w w4 := Mod.ext hE04
    have m2 : Mod A w4 w5 := Mod.of hC5 (by simpa using h.mA)
    have m3 : Mod A w5 w7 := Mod.ext (hE6.trans hE7)
    have m4 : Mod A w7 w8 := Mod.of hC8 fun b hb => (h.row.blk b (Sl.own_blk hb)).1
    have m5 : Mod A w10 w11 := Mod.of hC11 (by simpa using h.dA)
    exact ((((m1.trans m2).trans m3).trans m4).trans (Mod.ext hE810)).trans m5
  have kp : ∀ {s : Sl} {size : Nat} {T : TypeId} {vs : List (List Value)}, T ≠ 71 → T ≠ 76 → Own A w s size T vs → Own A w11 s size T vs := fun {s size T vs} h1 h2 ho => by
    have a1 := ho.ext hE04
    have a2 := a1.keep hC5 fun b hb hm => a1.noMap h4.map (by simp only [List.mem_singleton] at hm; exact hm ▸ hb)
    have a3 := (a2.ext hE6).ext hE7
    have a4 := (a3.keep hC8 fun b hb hm => (a3.apart hrow7 h2) b hb (Sl.own_blk hm)).ext hE810
    exact a4.keep hC11 fun b hb hm => (a4.other hbox10 h1) (by simp only [List.mem_singleton] at hm; exact hm ▸ hb)
  have hs11 : Own A w11 s 2 65 (ats.map ac) := by
    have a1 := hs3.ext hE4
    have a2 := a1.keep hC5 fun b hb hm => a1.noMap h4.map (by simp only [List.mem_singleton] at hm; exact hm ▸ hb)
    have a3 := (a2.ext hE6).ext hE7
    have a4 := (a3.keep hC8 fun b hb hm => (a3.apart hrow7 (by decide)) b hb (Sl.own_blk hm)).ext hE810
    have a5 := a4.keep hC11 fun b hb hm => (a4.other hbox10 (by decide)) (by simp only [List.mem_singleton] at hm; exact hm ▸ hb)
    exact a5.less fun b hb => List.mem_range.2 (by have := hA b hb; have := hE1.size; omega)
  have hrow11 : Own A w11 l' 8 76 ((X ++ [x]).map ndc) := by
    have a1 := hrow8.ext hE810
    have a2 := a1.keep hC11 fun b hb hm => (a1.other hbox10 (by decide)) (by simp only [List.mem_singleton] at hm; exact hm ▸ hb)
    rw [List.map_append]
    exact a2.less fun b hb => List.mem_cons_of_mem _ hb
  have hM11 := (((hM6.ext hE7).chg hC8 (fun hm => h.row.noMap h.map (Sl.own_blk hm))).ext hE810).chg hC11 (by simpa using hMD)
  refine ⟨hmod, rfl, l', _, x, h.push x hid hB11 hrow11 hmod (fun y hy => ⟨kp (by decide) (by decide) (h.sa y hy), kp (by decide) (by decide) (h.sk y hy)⟩) hs11 (Own.nil _ _ _ _) (fun b hb => ?_) (by simp [x, Sl.blk]) ⟨hats, by simp [x]⟩ hM11 (by rw [hn]) hX, rfl⟩
  have := (hs.blk b hb).1
  have h1 := hE1.size
  simp at this; omega

end

theorem numL_append : ∀ (ks js : List T) (i : Nat), I.numL (ks ++ js) i = I.numL ks i ++ I.numL js (i + (ks.map T.size).sum)
  | [], js, i => by rw [List.nil_append, I.numL]; rfl
  | t :: r, js, i => by
    rw [List.cons_append, I.numL, I.numL, numL_append r js, List.cons_append, List.map_cons, List.sum_cons, Nat.add_assoc]

theorem numL_snoc {ks : List T} {k : Nat} (h : k < ks.length) (i : Nat) : I.numL (ks.take (k + 1)) i = I.numL (ks.take k) i ++ [I.num (ks.getD k T.nul) (i + ((ks.take k).map T.size).sum)] := by
  rw [take_getD h, numL_append, I.numL, I.numL]

theorem recs_len (u : I) (p : Int) : (u.recs p).length = u.toT.size := by rw [I.size_ids, ← I.recs_id u p, List.length_map]

theorem numL_len : ∀ (ks : List T) (i : Nat) (p : Int), ((I.numL ks i).flatMap fun u => u.recs p).length = (ks.map T.size).sum
  | [], i, p => by rw [I.numL]; rfl
  | t :: r, i, p => by
    rw [I.numL, List.flatMap_cons, List.length_append, numL_len r, recs_len, I.num_toT]; rfl

theorem domLay {D M : Nat} : ∀ (t : T), t.span ≤ 900000 → ∀ {A : List Nat} {w : World} {l : Sl} {m : List (Int × Value)} {X : List Nd} {sa sk : Sl} (par : Int), Arena A w D l M m X → (∀ b ∈ A, b < w.heap.size) → Safe A w t sa sk → (∀ y ∈ X, y.r.id < X.length) → X.length + t.size ≤ 300 →
    Calls Try.prog 44 #[.pointer (some ⟨D, 0, none⟩), tv t sa sk, .int .i64 par] w (Ret fun v w' => Mod A w w' ∧ v = .int .i64 (X.length : Int) ∧ ∃ l' m' Y, Arena A w' D l' M m' (X ++ Y) ∧ Y.map Nd.r = (I.num t X.length).recs par) := T.ind' fun t ih hb A w l m X sa sk par h hA hS hids hsz => by
  refine dom_Dom_lay.ok _ _ _ _ _ _ _ ?_
  unfold dom_Dom_lay.vc
  intro w1 B1 hN1 hE1
  have hb1 := hN1.ge
  have hn := h.row.len
  rw [List.length_map] at hn
  have hat : t.attrs.length ≤ 1000000 := by have := T.attrs_span t; omega
  have hkl := T.kids_span t
  have hts := T.size_eq t
  have hnk := hS.nkids
  have hA1 : ∀ b ∈ B1 :: A, b < w1.heap.size := fun b hb => by
    rcases List.mem_cons.1 hb with rfl | hb
    · exact hN1.lt
    · have := hA b hb; have := hE1.size; omega
  have h1 : Arena (B1 :: A) w1 D l M m X := (h.wide (A' := B1 :: A) fun b hb => by
    rcases List.mem_cons.1 hb with rfl | hb
    · exact .inr hb1
    · exact .inl hb).ext hE1
  have hS1 : Safe (B1 :: A) w1 t sa sk := (hS.mod (Mod.ext hE1)).more fun x hx => List.mem_cons_of_mem _ hx
  refine ⟨l, by rw [Addr.add_lit]; exact h1.box.cell 0 _ rfl, ?_⟩
  have hput := domPut (sk := sk) h1 hA1 (id := (l.n : Int)) (fun y hy => by have := hids y hy; omega) hS1.attrs hat (by omega) par t.kind t.name t.text
  refine CallK.mod hput (by simp) ?_
  rintro v w2 hM2 ⟨rfl, l2, m2, x0, h2, hx0⟩
  refine ⟨rfl, fun j w' => ∃ (k : Nat) (l' : Sl) (m' : List (Int × Value)) (x : Nd) (Y : List Nd), j = (k : Int) ∧ k ≤ t.kids.length ∧ Arena (B1 :: A) w' D l' M m' (X ++ x :: Y) ∧ x.r = ⟨(X.length : Int), par, t.kind, t.name, t.text, t.attrs, (I.numL (t.kids.take k) (X.length + 1)).map I.id⟩ ∧ Y.map Nd.r = (I.numL (t.kids.take k) (X.length + 1)).flatMap (fun u => u.recs (X.length : Int)) ∧ Mod (B1 :: A) w1 w', fun j _ => t.kids.length - j.toNat,
    ⟨0, l2, m2, x0, [], rfl, by omega, h2, by rw [hx0, hn]; simp [I.numL], by simp [I.numL], hM2⟩, ?_⟩
  rintro _ w3 ⟨k, l3, m3, x, Y, rfl, hk, h3, hx, hY, hM3⟩
  have hsz3 := hM3.size
  have hYl : Y.length = ((t.kids.take k).map T.size).sum := by rw [← List.length_map (f := Nd.r), hY, numL_len]
  have hsum : ((t.kids.take k).map T.size).sum ≤ (t.kids.map T.size).sum := sum_take_le T.size _ _
  have hidx : ∀ z ∈ X ++ x :: Y, z.r.id < ((X ++ x :: Y).length : Int) := fun z hz => by
    rw [List.length_append, List.length_cons]
    rcases List.mem_append.1 hz with hz | hz
    · have := hids z hz; omega
    · rcases List.mem_cons.1 hz with rfl | hz
      · rw [hx]; simp only; omega
      · have hm : z.r.id ∈ (Y.map Nd.r).map Rec.id := List.mem_map_of_mem (List.mem_map_of_mem hz)
        rw [hY, I.map_flatMap_congr (fun v _ => I.recs_id v _), I.numL_ids _ (fun u _ => I.num_ids u)] at hm
        obtain ⟨q, hq, e⟩ := List.mem_map.1 hm
        have := List.mem_range'_1.1 hq
        omega
  refine ⟨fun hlt => ?_, fun hge => ⟨?_, by rw [hn], l3, m3, x :: Y, h3.wide (fun b hb => .inl (List.mem_cons_of_mem _ hb)), ?_⟩⟩
  · have hk' : k < t.kids.length := by omega
    have hS3 : Safe (B1 :: A) w3 t sa sk := hS1.mod hM3
    obtain ⟨p, sau, sku, hp, _, hc, hru⟩ := hS3.kid hk'
    rw [Int.toNat_natCast]
    have hm := getD_mem (d := T.nul) hk'
    have hsk := sum_take T.size hk'
    have hs2 : ((t.kids.take (k + 1)).map T.size).sum ≤ (t.kids.map T.size).sum := sum_take_le T.size _ _
    refine ⟨⟨by omega, hlt⟩, p, hp, _, _, _, sau, sku, hc, fun w4 B4 hN4 hE4 => ?_⟩
    have hb4 := hN4.ge
    have hA4 : ∀ b ∈ B4 :: B1 :: A, b < w4.heap.size := fun b hb => by
      rcases List.mem_cons.1 hb with rfl | hb
      · exact hN4.lt
      · have := hA1 b hb; have := hE4.size; omega
    have h4 : Arena (B4 :: B1 :: A) w4 D l3 M m3 (X ++ x :: Y) := (h3.wide (A' := B4 :: B1 :: A) fun b hb => by
      rcases List.mem_cons.1 hb with rfl | hb
      · exact .inr hb4
      · exact .inl hb).ext hE4
    have hSu : Safe (B4 :: B1 :: A) w4 (t.kids.getD k T.nul) sau sku := (Safe.mod (A := B1 :: A) hru (Mod.ext hE4)).more fun b hb => List.mem_cons_of_mem _ hb
    have hcall := ih _ hm (by have := T.kid_span hm; omega) (X.length : Int) h4 hA4 hSu hidx (by rw [List.length_append, List.length_cons]; omega)
    rw [hn]
    refine CallK.mod hcall (by simp) ?_
    rintro v w5 hM5 ⟨rfl, l5, m5, Y5, h5, hY5⟩
    have hlen : (X ++ x :: Y).length = X.length + 1 + ((t.kids.take k).map T.size).sum := by rw [List.length_append, List.length_cons, hYl]; omega
    refine ⟨_, rfl, fun w6 hE6 => ?_⟩
    have h6 := h5.ext hE6
    have hX6 : (X ++ x :: Y ++ Y5)[X.length]? = some x := by simp
    obtain ⟨g, hg, hgb, hcx⟩ := h6.at hX6
    have hxm := List.mem_of_getElem? hX6
    have hn5 := h6.row.len
    rw [List.length_map, List.length_append, hlen] at hn5
    refine ⟨l5, by rw [Addr.add_lit]; exact h6.box.cell 0 _ rfl, l5, by rw [Addr.add_lit]; exact h6.box.cell 0 _ rfl, ⟨g, 0, none⟩, ⟨⟨by omega, by omega⟩, hg⟩, x.sk, ?_, fun w7 B7 hE7 hB7 hbox7 _ => ?_⟩
    · rw [Int.toNat_natCast, Addr.add_lit, Nat.zero_add]; exact hcx 7 _ rfl
    have h7 := h6.ext hE7
    have hk7 := h7.sk x hxm
    have hxk : x.r.kids.length ≤ 300 := by
      rw [hx]; simp only [List.length_map]
      have hnl : ∀ (ks : List T) (i : Nat), (I.numL ks i).length = ks.length := fun ks => by
        induction ks with
        | nil => intro i; rw [I.numL]; rfl
        | cons a r ih => intro i; rw [I.numL, List.length_cons, ih]; rfl
      rw [hnl, List.length_take]; have := len_sizes t.kids; omega
    have hkn := hk7.len
    rw [List.length_map] at hkn
    have hbox7' : Box w7 B7 3 (ic (((X ++ x :: Y).length : Nat) : Int)) := hbox7
    refine App.runK Try.underlying36 ti_3 rfl (by decide) (.inl hk7) (fun b hb => by have := hA4 b hb; have := hM5.size; have := hE6.size; have := hE7.size; omega) (Own.one (A := []) hbox7' (by simp)).row (ones_ics [_]) (by simp) (by simp only [maxLen, List.length_singleton]; omega) (by simp only [List.length_singleton]; omega) (by simp) fun r w8 ho8 hC8 hbl8 => ⟨r, rfl, ?_⟩
    have honly := fun b (hb : b ∈ x.sk.own) => h7.only hX6 (b := b) (.inr (Sl.own_blk hb))
    have hD8 : Box w8 D 71 [l5.v, .map (some M)] := h7.box.keep hC8 fun hm => (honly D hm).2.1 rfl
    obtain ⟨cur, hcur, hcurl⟩ : ∃ cur, Box w7 g 76 cur ∧ cur.length = l5.c * 8 := by
      rcases h7.row.at_ with e | ⟨g', cur, e1, _, e3, e4, _⟩
      · rw [e] at hg; cases hg
      · rw [hg] at e1; cases e1; exact ⟨cur, e3, e4⟩
    have hcur8 : Box w8 g 76 cur := hcur.keep hC8 fun hm => (honly g hm).2.2.2.1 (by rw [hgb]; simp)
    have hcx7 : Cells w7 ⟨g, X.length * 8, none⟩ (ndc x) := hcx.ext hE7
    have hcx8 : Cells w8 ⟨g, X.length * 8, none⟩ (ndc x) := hcx7.chg hC8 fun hm => (honly g hm).2.2.2.1 (by rw [hgb]; simp)
    refine ⟨by rw [Addr.add_lit]; exact hD8.cell 0 _ rfl, by rw [Addr.add_lit]; exact hD8.cell 0 _ rfl, by rw [Int.toNat_natCast, Addr.add_lit, Nat.zero_add]; exact hcx8 7 _ rfl, fun w9 hE9 => ⟨⟨g, 0, none⟩, ⟨⟨by omega, by omega⟩, hg⟩, fun w10 hE10 => ?_⟩⟩
    have hE810 := hE9.trans hE10
    have hcap := h7.row.cap
    have hroom : X.length * 8 + 7 + 1 ≤ cur.length := by rw [hcurl]; omega
    refine ⟨g, X.length * 8 + 7, 76, cur, by rw [Int.toNat_natCast, Addr.add_lit, Addr.add_lit, Nat.zero_add], hcur8.ext hE810, hroom, by simp, fun w11 hC11 hB11 => ⟨⟨by omega, by omega⟩, ?_, by dsimp only; omega⟩⟩
    let x' : Nd := ⟨{ x.r with kids := x.r.kids ++ [((X ++ x :: Y).length : Int)] }, x.sa, r⟩
    have hsa8 : Own (B4 :: B1 :: A) w10 x'.sa 2 65 (x'.r.attrs.map ac) := ((h7.sa x hxm).keep hC8 fun b hb hm => ((h7.sa x hxm).apart hk7 (by decide)) b hb (Sl.own_blk hm)).ext hE810
    have hsk8 : Own (B4 :: B1 :: A) w10 x'.sk 1 3 (x'.r.kids.map ic) := by
      show Own _ _ _ _ _ ((x.r.kids ++ [((X ++ x :: Y).length : Int)]).map ic)
      rw [List.map_append]
      exact ho8.ext hE810
    obtain ⟨hup, hupC⟩ := h7.upd hX6 x' rfl (hC8.trans (hE810.mono (by simp))) (fun b hb => .inr (.inl (Sl.own_blk hb))) hsa8 hsk8 (fun b hb => .inl hb) (fun b hb => (hbl8 b hb).imp Sl.own_blk id) ⟨(h7.fit x hxm).1, by simp only [x', List.length_append, List.length_singleton]; omega⟩ hg (hcur8.ext hE810) hC11 hB11 (by simp) rfl
    have hset : (X ++ x :: Y ++ Y5).set X.length x' = X ++ x' :: (Y ++ Y5) := by simp
    rw [hset] at hup
    refine ⟨k + 1, l5, m5, x', Y ++ Y5, by omega, by omega, hup.wide (fun b hb => .inl (List.mem_cons_of_mem _ hb)), ?_, ?_, ?_⟩
    · show ({ x.r with kids := _ } : Rec) = _
      rw [hx, numL_snoc hk', List.map_append, hlen]
      simp only [List.map_cons, List.map_nil, I.num_id]
    · rw [List.map_append, hY, hY5, numL_snoc hk', List.flatMap_append, hlen]
      simp
    · have m1 : Mod (B1 :: A) w4 w5 := hM5.less fun b hb => List.mem_cons_of_mem _ hb
      have m2 : Mod (B1 :: A) w7 w11 := (Mod.of hupC fun b hb => by
        rcases List.mem_cons.1 hb with rfl | hb
        · exact (h7.row.blk b (by rw [hgb]; simp)).1
        · exact (honly b hb).1).less fun b hb => List.mem_cons_of_mem _ hb
      exact (((hM3.trans (Mod.ext hE4)).trans m1).trans (Mod.ext (hE6.trans hE7))).trans m2
  · exact (Mod.ext hE1).trans (hM3.less fun b hb => List.mem_cons_of_mem _ hb)
  · have hkl' : k = t.kids.length := by omega
    subst hkl'
    rw [List.take_length] at hx hY
    rw [List.map_cons, hY, I.recs_eq, hx, I.num_eq]
    rfl

theorem domNew {X0 : List Nat} {w : World} {t : T} {sa sk : Sl} (hr : RdT X0 w t sa sk) (hb : t.span ≤ 900000) :
    Calls Try.prog 13 #[tv t sa sk] w (Ret fun v w' => Ext w w' ∧ ((t.check = false ∧ v = .tuple #[.pointer none, .int .i64 1]) ∨ (t.check = true ∧ ∃ D, v = .tuple #[.pointer (some ⟨D, 0, none⟩), .int .i64 0] ∧ Dom (List.range w.heap.size) w' D (I.num t 0)))) := by
  refine dom_New.ok _ _ _ _ _ ?_
  unfold dom_New.vc
  intro w1 B1 hN1 hE1
  have hb1 := hN1.ge
  refine CallK.exact (treeCheckS (t := t) (by omega) (hr.ext hE1)) fun w2 hE2 => ⟨_, rfl, fun hf => ⟨hE1.trans hE2, .inl ⟨hf, rfl⟩⟩, fun ht => ?_⟩
  refine makeMap_run numV (.int .i64) fun M w3 hE3 hM3 hMap => ⟨some M, rfl, fun w4 D hN4 hE4 hbox => ?_⟩
  have hE14 := (hE2.trans hE3).trans hE4
  have hE04 := hE1.trans hE14
  have hD := hN4.ge
  have hsz12 := hE2.size
  have hsz3 := hE3.size
  have hA0 : ∀ b ∈ List.range w1.heap.size, b < w4.heap.size := fun b hb => by have := List.mem_range.1 hb; have := hE14.size; omega
  have hAr : Arena (List.range w1.heap.size) w4 D Sl.nil M [] [] := by
    refine ⟨hbox, fun hm => ?_, fun hm => ?_, Own.nil _ _ _ _, by simp, by simp, by simp, hMap.ext hE4, fun k => rfl, by simp, by simp, by simp, by simp⟩
    · have := List.mem_range.1 hm; omega
    · have := List.mem_range.1 hm; omega
  have hS : Safe (List.range w1.heap.size) w4 t sa sk := (Safe.of (hr.ext hE1) fun x hx => List.mem_range.2 hx).mod (Mod.ext hE14)
  have hs : t.size ≤ 300 := by
    unfold T.check at ht
    simp only [Bool.and_eq_true, decide_eq_true_eq] at ht
    exact ht.1.1.1.1.2
  refine CallK.mod (domLay t hb (-1) hAr hA0 hS (by simp) (by simpa using hs)) (fun b hb => ?_) ?_
  · simp only [List.mem_singleton] at hb; subst hb; exact List.mem_range.2 hN1.lt
  rintro v w5 hM5 ⟨rfl, l', m', Y, h5, hY⟩
  refine ⟨_, rfl, Mod.fresh hE04 hM5 (fun x hx => List.mem_range.2 (by have := hE1.size; omega)), .inr ⟨ht, D, rfl, l', M, m', Y, ?_, by rw [hY]; exact List.Perm.refl _, I.num_okay ht⟩⟩
  rw [List.nil_append] at h5
  exact h5.wide fun b hb => .inl (List.mem_range.2 (by have := List.mem_range.1 hb; have := hE1.size; omega))
end

section
open Go.RowKit Go.MapKept

theorem set_recs {X : List Nd} {j : Nat} {y y' : Nd} (hn : (X.map fun x => x.r.id).Nodup) (hj : X[j]? = some y) (G : Rec → Rec) (hG : y'.r = G y.r) (hid : ∀ z : Rec, z.id ≠ y.r.id → G z = z) : (X.set j y').map Nd.r = (X.map Nd.r).map G := by
  apply List.ext_getElem?
  intro k
  rw [List.getElem?_map, List.getElem?_map, List.getElem?_map, List.getElem?_set]
  by_cases h : j = k
  · subst h
    obtain ⟨h1, _⟩ := List.getElem?_eq_some_iff.1 hj
    rw [if_pos rfl, if_pos h1, hj]
    simp [hG]
  · rw [if_neg h]
    cases hx : X[k]? with
    | none => rfl
    | some z =>
      have hne : z.r.id ≠ y.r.id := fun e => h (getNd hn hj hx rfl e).1
      simp [hid z.r hne]

section

variable {A : List Nat} {w : World} {D : Nat} {l : Sl} {M : Nat} {m : List (Int × Value)} {X : List Nd}

theorem Arena.cur (h : Arena A w D l M m X) {g : Nat} (hg : l.a = some ⟨g, 0, none⟩) : ∃ cur, Box w g 76 cur ∧ ∀ {i : Nat} {x : Nd}, X[i]? = some x → i * 8 + 8 ≤ cur.length := by
  rcases h.row.at_ with e | ⟨g', cur, e1, _, e3, e4, _⟩
  · rw [e] at hg; cases hg
  · rw [hg] at e1; cases e1
    refine ⟨cur, e3, fun {i x} hi => ?_⟩
    have h1 := h.row.len
    have h2 := h.row.cap
    rw [List.length_map] at h1
    have := (List.getElem?_eq_some_iff.1 hi).1
    rw [e4]; omega

end

theorem domHolds {w : World} {p : Addr} {k : Int} (h : w.cell? ((p.add 2).add 0) = some (.int .i64 k)) (kind : Int) : Calls Try.prog 46 #[.pointer (some p), .int .i64 kind] w (Ret fun v w' => Ext w w' ∧ v = .bool (I.holds k kind)) := by
  refine dom_node_holds.ok _ _ ?_
  unfold dom_node_holds.vc
  refine ⟨k, h, k, fun _ => h, Chg.refl _ _, ?_⟩
  unfold I.holds
  by_cases h5 : kind = 5 <;> simp [h5]

def leaf (id kind : Int) (name text : Str) : I := .node id kind name text [] []

def oneT (kind : Int) (name text : Str) : T := .node 1 [] [] [] [.node kind name text [] []]

def insBad (R : I) (id kind : Int) (name text : Str) : Bool := (R.find id).isSome || decide (id < 1) || decide (1048576 < id) || !(oneT kind name text).check

def insE (R : I) (id p at_ kind : Int) (name text : Str) : Int :=
  if insBad R id kind name text = true then 1 else if 300 ≤ R.ids.length then 2 else match R.find p with
    | none => 3
    | some e => if I.holds e.1.kind kind = false then 4 else if at_ < 0 ∨ (e.1.kids.length : Int) < at_ then 5 else if 60 ≤ e.2.2 then 2 else 0

theorem leaf_toT (id kind : Int) (name text : Str) : (leaf id kind name text).toT = .node kind name text [] [] := by rw [leaf, I.toT_eq]; rfl

theorem leaf_ids (id kind : Int) (name text : Str) : (leaf id kind name text).ids = [id] := by rw [I.ids_eq]; rfl

theorem leaf_depth (id kind : Int) (name text : Str) : (leaf id kind name text).toT.depth = 1 := by rw [leaf_toT, T.depth_eq]; rfl

theorem leaf_recs (id kind : Int) (name text : Str) (p : Int) : (leaf id kind name text).recs p = [⟨id, p, kind, name, text, [], []⟩] := by rw [I.recs_eq]; rfl

theorem oneT_node {kind : Int} {name text : Str} (h : (oneT kind name text).check = true) : nodeOk (.node kind name text [] []) = true := by
  unfold T.check at h
  simp only [Bool.and_eq_true] at h
  have h2 := h.2
  unfold kidsOk oneT at h2
  simp only [T.kids, List.all_cons, List.all_nil, Bool.and_true, Bool.and_eq_true] at h2
  exact h2.1

theorem ins_okay {R : I} (hR : R.Okay) {id p at_ kind : Int} {name text : Str} (h : insE R id p at_ kind name text = 0) : (R.ins p at_.toNat (leaf id kind name text)).Okay ∧ id ∉ R.ids ∧ p ∈ R.ids := by
  unfold insE at h
  by_cases h1 : insBad R id kind name text = true
  · rw [if_pos h1] at h; cases h
  rw [if_neg h1] at h
  by_cases h2 : 300 ≤ R.ids.length
  · rw [if_pos h2] at h; cases h
  rw [if_neg h2] at h
  unfold insBad at h1
  simp only [Bool.or_eq_true, Bool.not_eq_true', decide_eq_true_eq, not_or, Bool.not_eq_false] at h1
  obtain ⟨⟨⟨g1, g2⟩, g3⟩, g4⟩ := h1
  cases hf : R.find p with
  | none => rw [hf] at h; cases h
  | some e =>
    rw [hf] at h
    simp only at h
    by_cases h3 : I.holds e.1.kind kind = false
    · rw [if_pos h3] at h; cases h
    rw [if_neg h3] at h
    by_cases h4 : at_ < 0 ∨ (e.1.kids.length : Int) < at_
    · rw [if_pos h4] at h; cases h
    rw [if_neg h4] at h
    by_cases h5 : 60 ≤ e.2.2
    · rw [if_pos h5] at h; cases h
    obtain ⟨e1, e2⟩ := I.find_some hf
    have hid : id ∉ R.ids := fun hm => by
      have := I.find_none (s := R) (x := id)
      cases hq : R.find id with
      | none => exact (this.1 hq) hm
      | some q => rw [hq] at g1; exact g1 rfl
    refine ⟨hR.ins at_.toNat e1 e2 (show I.holds e.1.kind kind = true by simpa using h3) (by rw [leaf_toT]; exact oneT_node g4) (List.nodup_append.2 ⟨hR.nodup, by rw [leaf_ids]; simp, fun a ha b hb e => ?_⟩) (fun x hx => ?_) (by rw [leaf_ids]; simp; omega) (by rw [leaf_depth]; omega), hid, e2 ▸ I.mem_all e1⟩
    · rw [leaf_ids, List.mem_singleton] at hb; exact hid (hb ▸ e ▸ ha)
    · rw [leaf_ids, List.mem_singleton] at hx; omega

theorem domInsert {A : List Nat} {w : World} {D : Nat} {R : I} (h : Dom A w D R) (hA : ∀ b ∈ A, b < w.heap.size) (id p at_ kind : Int) (name text : Str) :
    Calls Try.prog 14 #[.pointer (some ⟨D, 0, none⟩), .int .i64 id, .int .i64 p, .int .i64 at_, .agg #[.int .i64 kind, .string (Bs name), .string (Bs text), Sl.nil.v, Sl.nil.v]] w (Ret fun v w' => v = .int .i64 (insE R id p at_ kind name text) ∧ if insE R id p at_ kind name text = 0 then Mod A w w' ∧ Dom A w' D (R.ins p at_.toNat (leaf id kind name text)) else Ext w w') := by
  have hR := h.okay
  obtain ⟨E, hE⟩ : ∃ E, E = insE R id p at_ kind name text := ⟨_, rfl⟩
  rw [← hE]
  have hokay : E = 0 → _ := fun e => ins_okay hR (hE.symm.trans e)
  unfold insE at hE
  refine dom_Dom_Insert.ok _ _ _ _ _ _ _ _ _ ?_
  unfold dom_Dom_Insert.vc
  intro w1 B1 hN1 hE1
  have hb1 := hN1.ge
  have h1' := h.ext hE1
  have h0 := h
  obtain ⟨l, M, m, X, hA0, hp, _⟩ := h
  refine CallK.ext (domNode (hA0.ext hE1) p) ?_
  intro v w2 hE2 hv
  have hE02 := hE1.trans hE2
  obtain ⟨r, hr, hnone, hsome⟩ : ∃ r : Option Addr, v = .pointer r ∧ (r = none → R.find p = none) ∧ (∀ a, r = some a → ∃ i x g, X[i]? = some x ∧ x.r.id = p ∧ l.a = some ⟨g, 0, none⟩ ∧ a = ⟨g, i * 8, none⟩) := by
    rcases hv with ⟨hn, rfl⟩ | ⟨i, x, g, hi, hx, hg, rfl⟩
    · exact ⟨none, rfl, fun _ => recNone hp hn, fun a ha => by cases ha⟩
    · exact ⟨_, rfl, fun e => (by cases e), fun a ha => ⟨i, x, g, hi, hx, hg, (Option.some.inj ha).symm⟩⟩
  refine ⟨r, hr, CallK.exact (domHas (h1'.ext hE2) id) fun w3 hE3 => ⟨_, rfl, fun b w' => b = insBad R id kind name text ∧ Ext w1 w', ⟨fun hbad => ?_, fun hgood w4 hE4 B4 hB4 hbox4 => ?_⟩, ?_⟩⟩
  · refine ⟨?_, hE2.trans hE3⟩
    unfold insBad
    rcases hbad with (hb | hb) | hb
    · rw [hb]; simp
    · simp [hb]
    · simp [hb]
  · have hbox := hbox4 ⟨by simp, by simp⟩
    have hrd : RdT [] w4 (oneT kind name text) Sl.nil (Sl.mk (some ⟨B4, 0, none⟩) 1 1) := .mk [(Sl.nil, Sl.nil)] (Row.nil _ _ _) rfl (Own.one (A := []) (cs := tc (.node kind name text [] []) (Sl.nil, Sl.nil)) hbox (by simp)).row (fun i t q ht hq => by
      cases i with
      | zero => simp at ht hq; subst ht; subst hq; exact RdT.nil _ _ _ _ _
      | succ i => simp at ht)
    have hspan : (oneT kind name text).span ≤ 1099511627776 := by
      unfold T.span
      rw [T.size_eq, T.slots_eq]
      simp [oneT, T.kids, T.attrs, T.size_eq, T.slots_eq]
    refine ⟨_, fun _ => treeCheckS (t := oneT kind name text) hspan hrd, fun w5 hE5 => ⟨?_, ((hE2.trans hE3).trans hE4).trans hE5⟩⟩
    unfold insBad
    obtain ⟨⟨g1, g2⟩, g3⟩ := hgood
    rw [g1]
    simp [g2, g3]
  rintro b w4 ⟨hb, hE14⟩
  have hE4 := hE1.trans hE14
  rw [← hb] at hE
  refine ⟨fun hbt => ⟨?_, ?_⟩, fun hbf => ?_⟩
  · rw [hE, if_pos hbt]
  · rw [if_neg (by rw [hE, if_pos hbt]; decide)]; exact hE4
  rw [if_neg (by rw [hbf]; decide)] at hE
  have h4 := hA0.ext hE4
  have hln : l.n = R.ids.length := by
    have h1 := hA0.row.len
    have h2 := hp.length_eq
    rw [List.length_map] at h1 h2
    rw [h1, h2, ← I.recs_id R (-1), List.length_map]
  refine ⟨l, by rw [Addr.add_lit]; exact h4.box.cell 0 _ rfl, fun h300 => ⟨?_, ?_⟩, fun hlt => ⟨fun hno => ⟨?_, ?_⟩, fun hso => ?_⟩⟩
  · rw [hE, if_pos (by omega)]
  · rw [if_neg (by rw [hE, if_pos (by omega)]; decide)]; exact hE4
  · cases hr0 : r with
    | some a => rw [hr0] at hno; cases hno
    | none => rw [hE, if_neg (by omega), hnone hr0]
  · cases hr0 : r with
    | some a => rw [hr0] at hno; cases hno
    | none => rw [if_neg (by rw [hE, if_neg (by omega), hnone hr0]; exact (by decide : ¬ (3 : Int) = 0))]; exact hE4
  rw [if_neg (by omega)] at hE
  obtain ⟨a, hra⟩ : ∃ a, r = some a := by cases hr0 : r with
    | some a => exact ⟨a, rfl⟩
    | none => rw [hr0] at hso; cases hso
  obtain ⟨i, x, g, hi, hx, hg, rfl⟩ := hsome a hra
  subst hra
  obtain ⟨e, he, hxr⟩ := recOf hp hR hi
  rw [hx] at he
  rw [he] at hE
  simp only at hE
  have hxm := List.mem_of_getElem? hi
  have at4 : ∀ w', Ext w w' → Cells w' ⟨g, i * 8, none⟩ (ndc x) := fun w' hE' => by
    obtain ⟨g', hg', _, hc⟩ := (hA0.ext hE').at hi
    rw [hg] at hg'; cases hg'; exact hc
  have hkind : x.r.kind = e.1.kind := by rw [hxr]; rfl
  have hkids : x.r.kids = e.1.kids.map I.id := by rw [hxr]; rfl
  have hskn : x.sk.n = e.1.kids.length := by
    have := (hA0.sk x hxm).len
    rw [List.length_map, hkids, List.length_map] at this; exact this
  have hcell : w4.cell? (((⟨g, i * 8, none⟩ : Addr).add 2).add 0) = some (.int .i64 e.1.kind) := by rw [← hkind]; exact at4 w4 hE4 2 _ rfl
  refine CallK.exact (domHolds hcell kind) fun w5 hE5 => ⟨_, rfl, fun hf => ⟨?_, ?_⟩, fun ht => ?_⟩
  · rw [hE, if_pos hf]
  · rw [if_neg (by rw [hE, if_pos hf]; decide)]; exact hE4.trans hE5
  rw [if_neg (by rw [ht]; decide)] at hE
  have hE05 := hE4.trans hE5
  refine ⟨_, fun _ => rfl, x.sk, fun _ => at4 w5 hE05 7 _ rfl, fun hbad => ⟨?_, ?_⟩, fun hgood => ?_⟩
  · rw [hE, if_pos (by rw [← hskn]; exact hbad)]
  · rw [if_neg (by rw [hE, if_pos (by rw [← hskn]; exact hbad)]; decide)]; exact hE05
  rw [if_neg (by rw [← hskn]; omega)] at hE
  have hlev : lev R p = e.2.2 := by unfold lev; rw [he]
  refine CallK.exact (domLevel (h0.ext hE05) p) fun w6 hE6 => ⟨_, rfl, fun hb6 => ⟨?_, ?_⟩, fun hb6 => ?_⟩
  · rw [hE, if_pos (by rw [← hlev]; omega)]
  · rw [if_neg (by rw [hE, if_pos (by rw [← hlev]; omega)]; decide)]; exact hE05.trans hE6
  rw [if_neg (by rw [← hlev]; omega)] at hE
  obtain ⟨hok, hidn, hpm⟩ := hokay hE
  have hE06 := hE05.trans hE6
  have h6 : Arena (B1 :: A) w6 D l M m X := (hA0.wide (A' := B1 :: A) fun b hb => by
    rcases List.mem_cons.1 hb with rfl | hb
    · exact .inr hb1
    · exact .inl hb).ext hE06
  have hB1lt : B1 < w6.heap.size := by have := hN1.lt; have := hE14.size; have := hE5.size; have := hE6.size; omega
  have hA6 : ∀ b ∈ B1 :: A, b < w6.heap.size := fun b hb => by
    rcases List.mem_cons.1 hb with rfl | hb
    · exact hB1lt
    · have := hA b hb; have := hE06.size; omega
  have hnid : ∀ y ∈ X, y.r.id ≠ id := fun y hy e => hidn (by
    rw [← I.recs_id R (-1), ← (hp.map Rec.id).mem_iff, List.map_map, ← e]
    exact List.mem_map_of_mem (f := Rec.id ∘ Nd.r) hy)
  have hXl : X.length = R.ids.length := by have := hA0.row.len; rw [List.length_map] at this; omega
  refine CallK.mod (domPut (B := []) (sk := Sl.nil) (ats := []) h6 hA6 hnid (Row.nil _ _ _) (by simp) (by omega) p kind name text) (by simp) ?_
  rintro v w7 hM7 ⟨rfl, l7, m7, x7, h7, hx7⟩
  refine ⟨rfl, ?_⟩
  have hi7 : (X ++ [x7])[i]? = some x := by rw [List.getElem?_append_left (List.getElem?_eq_some_iff.1 hi).1]; exact hi
  refine CallK.ext (domNode h7 p) ?_
  rintro v w8 hE8 (⟨hn, rfl⟩ | ⟨j, y, g7, hj, hy, hg7, rfl⟩)
  · exact absurd hx (hn x (List.mem_of_getElem? hi7))
  obtain ⟨rfl, rfl⟩ := getNd h7.nodup hj hi7 hy hx
  have h8 := h7.ext hE8
  obtain ⟨g', hg', hgb, hc8⟩ := h8.at hj
  rw [hg7] at hg'; cases hg'
  refine ⟨_, rfl, _, rfl, y.sk, hc8 7 _ rfl, fun w9 B9 hN9 hE9 hbox9 => ?_⟩
  have hb9 := hN9.ge
  have h9 := h8.ext hE9
  have hym := List.mem_of_getElem? hj
  have hk9 := h9.sk y hym
  have hkb : ∀ b ∈ y.sk.blk, b < w8.heap.size := fun b hb => ((h8.sk y hym).blk b hb).2
  have hat : (at_.toNat : Int) = at_ := by omega
  have hone : Own [] w9 (Sl.mk (some ⟨B9, 0, none⟩) 1 1) 1 3 [ic id] := Own.one (A := []) (cs := ic id) hbox9 (by simp)
  have hlk : y.r.kids.length = e.1.kids.length := by rw [hkids, List.length_map]
  have hins := slicesInsert_int (i := at_.toNat) hk9 (fun b hb => by have := hA6 b hb; have := hM7.size; have := hE8.size; have := hE9.size; omega) hone (fun b hb hm => by
    simp [Sl.blk] at hb; subst hb
    have := hkb b hm; omega) (ones_ics [id]) (ones_ics _) (by simp) (by rw [List.length_map, hlk]; omega) (by have := (h8.fit y hym).2; simp; omega)
  rw [hat] at hins
  refine CallK.chg hins (by simp) ?_
  rintro v w10 hC10 ⟨s', rfl, hs', hbs'⟩
  obtain ⟨cur, hcur, hlen⟩ := h9.cur hg7
  have hl8 := hlen hj
  have honly := fun b (hb : b ∈ y.sk.blk) => h9.only hj (b := b) (.inr hb)
  have hcur10 : Box w10 g7 76 cur := hcur.keep hC10 fun hm => (honly g7 hm).2.2.2.1 (by rw [hgb]; simp)
  refine ⟨s', rfl, _, rfl, g7, j * 8 + 7, 76, cur, by rw [Addr.add_lit], hcur10, by omega, by simp, fun w11 hC11 hB11 => ?_⟩
  let y' : Nd := ⟨{ y.r with kids := insAt at_.toNat id y.r.kids }, y.sa, s'⟩
  have hs'' : Own (B1 :: A) w10 y'.sk 1 3 (y'.r.kids.map ic) := by
    show Own _ _ _ _ _ ((insAt at_.toNat id y.r.kids).map ic)
    rw [insAt_map]
    unfold insAt
    rw [List.append_assoc] at hs'
    exact hs'
  obtain ⟨hup, hupC⟩ := h9.upd hj y' rfl hC10 (fun b hb => .inr (.inl hb)) ((h9.sa y hym).keep hC10 fun b hb hm => ((h9.sa y hym).apart hk9 (by decide)) b hb hm) hs'' (fun b hb => .inl hb) hbs' ⟨(h9.fit y hym).1, by show (insAt _ _ _).length ≤ _; rw [insAt_len, hlk]; have := kids_few hR (I.find_some he).1; omega⟩ hg7 hcur10 hC11 hB11 (by simp) rfl
  refine ⟨by rw [hE], ?_⟩
  rw [if_pos hE]
  have hmod : Mod A w w11 := by
    have m1 : Mod A w6 w7 := hM7.less fun b hb => List.mem_cons_of_mem _ hb
    have m2 : Mod A w9 w11 := (Mod.of hupC fun b hb => by
      rcases List.mem_cons.1 hb with rfl | hb
      · exact (h9.row.blk b (by rw [hgb]; simp)).1
      · exact (honly b hb).1).less fun b hb => List.mem_cons_of_mem _ hb
    exact (((Mod.ext hE06).trans m1).trans (Mod.ext (hE8.trans hE9))).trans m2
  refine ⟨hmod, l7, M, m7, _, hup.wide (fun b hb => .inl (List.mem_cons_of_mem _ hb)), ?_, hok⟩
  have hyid : y.r.id = p := hx
  rw [set_recs (G := I.insK p at_.toNat id) h9.nodup hj (by
    unfold I.insK; rw [if_pos hyid]) (fun z hz => by unfold I.insK; rw [if_neg (by rw [← hyid]; exact hz)])]
  rw [List.map_append, List.map_append]
  refine List.Perm.trans ?_ (I.ins_recs R at_.toNat (leaf id kind name text) (-1) hR.nodup hpm).symm
  rw [leaf_recs]
  refine (hp.map _).append ?_
  have hne : id ≠ p := fun e => hidn (e ▸ hpm)
  rw [List.map_cons, List.map_cons, List.map_nil, List.map_nil, hx7]
  unfold I.insK
  rw [if_neg (show ({ id := id, par := p, kind := kind, name := name, text := text, attrs := [], kids := [] } : Rec).id ≠ p from hne)]
end

section
open Go.RowKit Go.MapKept

section

variable {κ : Type} [DecidableEq κ]

def mdel (m : List (κ × Value)) (k : κ) : List (κ × Value) := m.filter fun p => decide (p.1 ≠ k)

theorem mget_none {m : List (κ × Value)} {k : κ} (h : k ∉ m.map fun p => p.1) : mget m k = none := by
  unfold mget
  rw [List.find?_eq_none.2 fun p hp => ?_]
  · rfl
  · have : p.1 ≠ k := fun e => h (by rw [← e]; exact List.mem_map_of_mem hp)
    simpa using this

theorem mget_del (m : List (κ × Value)) (k j : κ) : mget (mdel m k) j = if j = k then none else mget m j := by
  by_cases h : j = k
  · rw [if_pos h]
    refine mget_none fun hm => ?_
    obtain ⟨p, hp, e⟩ := List.mem_map.1 hm
    have := (List.mem_filter.1 hp).2
    simp at this
    exact this (e.trans h)
  · rw [if_neg h]
    induction m with
    | nil => rfl
    | cons p r ih =>
      unfold mdel at ih ⊢
      by_cases hp : p.1 = k
      · rw [List.filter_cons, if_neg (by simp [hp]), ih]
        have : ¬ p.1 = j := fun e => h (e.symm.trans hp)
        simp [mget, this]
      · rw [List.filter_cons, if_pos (by simpa using hp)]
        by_cases hj : p.1 = j
        · simp [mget, hj]
        · have e1 : mget (p :: List.filter (fun p => decide (p.1 ≠ k)) r) j = mget (List.filter (fun p => decide (p.1 ≠ k)) r) j := by simp [mget, hj]
          have e2 : mget (p :: r) j = mget r j := by simp [mget, hj]
          rw [e1, e2, ih]

theorem mdel_keys {m : List (κ × Value)} (k : κ) (h : (m.map fun p => p.1).Nodup) : ((mdel m k).map fun p => p.1).Nodup := List.Nodup.sublist ((List.filter_sublist (l := m)).map _) h

end

theorem swap_perm {α : Type} {X : List α} {i : Nat} {x z : α} (hi : X[i]? = some x) (hz : X[X.length - 1]? = some z) : ((X.set i z).take (X.length - 1) ++ [x]).Perm X := by
  obtain ⟨hil, hix⟩ := List.getElem?_eq_some_iff.1 hi
  obtain ⟨hzl, hzx⟩ := List.getElem?_eq_some_iff.1 hz
  have hX : X = X.take (X.length - 1) ++ [z] := by
    have := List.take_succ_eq_append_getElem hzl
    rw [hzx, show X.length - 1 + 1 = X.length by omega, List.take_length] at this
    exact this
  by_cases h : i = X.length - 1
  · subst h
    have hxz : x = z := by rw [hi] at hz; exact Option.some.inj hz
    have hs : X.set (X.length - 1) z = X := by rw [← hzx]; exact List.set_getElem_self hzl
    rw [hs, hxz, ← hX]
  · have hlt : i < X.length - 1 := by omega
    have h1 : (X.set i z).take (X.length - 1) = (X.take (X.length - 1)).set i z := List.take_set
    have h2 : X.take (X.length - 1) = (X.take (X.length - 1)).take i ++ x :: (X.take (X.length - 1)).drop (i + 1) := by
      have hl : i < (X.take (X.length - 1)).length := by rw [List.length_take]; omega
      have hg : (X.take (X.length - 1))[i] = x := by rw [List.getElem_take, hix]
      rw [← hg, ← List.drop_eq_getElem_cons hl, List.take_append_drop]
    rw [h1]
    generalize X.take (X.length - 1) = P at hX h2
    have hl : (P.take i).length = i := by
      have hPl : P.length = X.length - 1 := by
        have := congrArg List.length hX
        rw [List.length_append, List.length_singleton] at this; omega
      rw [List.length_take]; omega
    have h3 : P.set i z = P.take i ++ z :: P.drop (i + 1) := by
      have := congrArg (fun l => l.set i z) h2
      rw [this, List.set_append_right _ _ (by omega), hl, Nat.sub_self]; rfl
    rw [h3, hX, h2]
    have e4 : P.take i ++ x :: P.drop (i + 1) = P := h2.symm
    have p1 : (P.take i ++ z :: P.drop (i + 1) ++ [x]).Perm (z :: x :: (P.take i ++ P.drop (i + 1))) := by
      refine (List.perm_append_singleton x _).trans ?_
      refine (List.Perm.cons x List.perm_middle).trans (List.Perm.swap z x _)
    have p2 : (P.take i ++ x :: P.drop (i + 1) ++ [z]).Perm (z :: x :: (P.take i ++ P.drop (i + 1))) := by
      refine (List.perm_append_singleton z _).trans ?_
      exact List.Perm.cons z List.perm_middle
    rw [e4] at p2 ⊢
    exact p1.trans p2.symm

theorem findAt_eq {X : List Nd} (hn : (X.map fun x => x.r.id).Nodup) {q : Nat} {y : Nd} (hq : X[q]? = some y) : findAt X y.r.id 0 = some q := by
  rcases findAt_spec X y.r.id 0 with ⟨_, h⟩ | ⟨j, z, h1, h2, h3⟩
  · exact absurd rfl (h y (List.mem_of_getElem? hq))
  · have := (getNd hn h2 hq h3 rfl).1
    rw [h1, this, Nat.zero_add]

theorem findAt_none {X : List Nd} {k : Int} (h : ∀ x ∈ X, x.r.id ≠ k) : findAt X k 0 = none := by
  rcases findAt_spec X k 0 with ⟨h1, _⟩ | ⟨j, z, _, h2, h3⟩
  · exact h1
  · exact absurd h3 (h z (List.mem_of_getElem? h2))

section

variable {A : List Nat} {w w1 : World} {D : Nat} {l : Sl} {M : Nat} {m : List (Int × Value)} {X : List Nd}

theorem Arena.cut (h : Arena A w D l M m X) {i : Nat} {x z : Nd} (hi : X[i]? = some x) (hz : X[X.length - 1]? = some z) {m' : List (Int × Value)} (hm' : m' = mdel (mput m z.r.id (numV (i : Int))) x.r.id) {l' : Sl}
    (hbox : Box w1 D 71 [l'.v, .map (some M)]) (hrow : Own A w1 l' 8 76 (((X.set i z).take (X.length - 1)).map ndc)) (hmap : MapIs numV (.int .i64) w1 M m')
    (oth : ∀ y ∈ X, Own A w1 y.sa 2 65 (y.r.attrs.map ac) ∧ Own A w1 y.sk 1 3 (y.r.kids.map ic)) : Arena A w1 D l' M m' ((X.set i z).take (X.length - 1)) := by
  have hperm := swap_perm hi hz
  obtain ⟨hil, _⟩ := List.getElem?_eq_some_iff.1 hi
  have cs : ∀ {j : Nat} {y : Nd}, ((X.set i z).take (X.length - 1))[j]? = some y → j < X.length - 1 ∧ ((j = i ∧ y = z) ∨ (j ≠ i ∧ X[j]? = some y)) := fun {j y} hy => by
    rw [List.getElem?_take] at hy
    split at hy
    · rename_i hlt
      exact ⟨hlt, set_at hi hy⟩
    · cases hy
  have mem : ∀ {y : Nd}, y ∈ (X.set i z).take (X.length - 1) → y ∈ X := fun {y} hy => hperm.mem_iff.1 (List.mem_append_left _ hy)
  have hnd : ((((X.set i z).take (X.length - 1)) ++ [x]).map fun x => x.r.id).Nodup := (hperm.map _).nodup_iff.2 h.nodup
  rw [List.map_append] at hnd
  obtain ⟨hnd1, _, hnd3⟩ := List.nodup_append.1 hnd
  have hnx : ∀ y ∈ (X.set i z).take (X.length - 1), y.r.id ≠ x.r.id := fun y hy => hnd3 _ (List.mem_map_of_mem (f := fun x : Nd => x.r.id) hy) _ (by simp)
  refine ⟨hbox, h.dA, h.mA, hrow, fun y hy => (oth y (mem hy)).1, fun y hy => (oth y (mem hy)).2, fun j k y q hjk hy hq => ?_, hmap, fun k => ?_, by rw [hm']; exact mdel_keys _ (mput_keys _ _ h.mkeys), hnd1, by rw [List.length_take, List.length_set]; have := h.few; omega, fun y hy => h.fit y (mem hy)⟩
  · obtain ⟨hjl, hj⟩ := cs hy
    obtain ⟨hkl, hk⟩ := cs hq
    rcases hj with ⟨rfl, rfl⟩ | ⟨hj, hy'⟩
    · rcases hk with ⟨rfl, _⟩ | ⟨hk, hq'⟩
      · exact absurd rfl hjk
      · exact h.apart (X.length - 1) k y q (by omega) hz hq'
    · rcases hk with ⟨_, e⟩ | ⟨hk, hq'⟩
      · rw [e]; exact h.apart j (X.length - 1) y z (by omega) hy' hz
      · exact h.apart j k y q hjk hy' hq'
  · rw [hm', mget_del, mget_put, h.keys]
    by_cases hkx : k = x.r.id
    · rw [if_pos hkx, findAt_none (fun y hy => by rw [hkx]; exact hnx y hy)]; rfl
    rw [if_neg hkx]
    by_cases hkz : k = z.r.id
    · rw [if_pos hkz]
      have hne : i ≠ X.length - 1 := fun e => hkx (by rw [hkz]; rw [e, hz] at hi; rw [Option.some.inj hi])
      have hg : ((X.set i z).take (X.length - 1))[i]? = some z := by
        rw [List.getElem?_take, if_pos (by omega), List.getElem?_set, if_pos rfl, if_pos hil]
      rw [hkz, findAt_eq hnd1 hg]; rfl
    · rw [if_neg hkz]
      rcases findAt_spec X k 0 with ⟨h1, h2⟩ | ⟨q, y, h1, h2, h3⟩
      · rw [h1, findAt_none fun y hy => h2 y (mem hy)]
      · rw [h1, Nat.zero_add]
        have hqi : q ≠ i := fun e => hkx (by rw [e, hi] at h2; rw [← h3, Option.some.inj h2])
        have hqn : q ≠ X.length - 1 := fun e => hkz (by rw [e, hz] at h2; rw [← h3, Option.some.inj h2])
        have hql := (List.getElem?_eq_some_iff.1 h2).1
        have hg : ((X.set i z).take (X.length - 1))[q]? = some y := by
          rw [List.getElem?_take, if_pos (by omega), List.getElem?_set, if_neg (fun e => hqi e.symm)]; exact h2
        rw [← h3, findAt_eq hnd1 hg]

end
end

section
open Go.RowKit Go.MapKept

theorem rec_kids {s : I} {q : Int} {r : Rec} (h : r ∈ s.recs q) : ∀ k ∈ r.kids, k ∈ s.ids := by
  unfold I.recs at h
  obtain ⟨e, he, rfl⟩ := List.mem_map.1 h
  intro k hk
  obtain ⟨u, hu, rfl⟩ := List.mem_map.1 (show k ∈ e.1.kids.map I.id from hk)
  exact I.mem_all (I.all_kid he hu)

def outK (p id : Int) (r : Rec) : Rec := if r.id = p then { r with kids := r.kids.filter fun k => decide (k ≠ id) } else r

theorem map_none {G : Rec → Rec} {x : Int} {L : List Rec} (hG : ∀ r : Rec, r.id ≠ x → G r = r) (h : x ∉ L.map Rec.id) : L.map G = L := I.map_self fun r hr => hG r fun e => h (by rw [← e]; exact List.mem_map_of_mem hr)

structure CutOf (R : I) (e : I × Int × Nat) (s0 : I) (i : Nat) : Prop where
  eq : R = s0.ins e.2.1 i e.1
  okay : s0.Okay
  par : e.2.1 ∈ s0.ids
  del : R.del e.1.id = s0
  nodup : (s0.ids ++ e.1.ids).Nodup
  node : nodeOk e.1.toT = true
  sum : s0.ids.length + e.1.ids.length ≤ 300
  rng : ∀ x ∈ e.1.ids, 0 ≤ x ∧ x ≤ 1048576
  ids : ∀ x, x ∈ R.ids ↔ x ∈ s0.ids ∨ x ∈ e.1.ids

theorem CutOf.out {R : I} {e : I × Int × Nat} {s0 : I} {i : Nat} (h : CutOf R e s0 i) : ((R.recs (-1)).map (outK e.2.1 e.1.id)).Perm (s0.recs (-1) ++ e.1.recs e.2.1) := by
  have hp := (I.ins_recs s0 i e.1 (-1) (List.nodup_append.1 h.nodup).1 h.par).map (outK e.2.1 e.1.id)
  rw [← h.eq, List.map_append, List.map_map] at hp
  have hid : e.1.id ∉ s0.ids := fun hm => (List.nodup_append.1 h.nodup).2.2 _ hm _ (I.id_mem e.1) rfl
  have e1 : (s0.recs (-1)).map (outK e.2.1 e.1.id ∘ I.insK e.2.1 i e.1.id) = s0.recs (-1) := I.map_self fun r hr => by
    show outK _ _ (I.insK _ _ _ r) = r
    unfold outK I.insK
    by_cases h1 : r.id = e.2.1
    · rw [if_pos h1, if_pos h1, insAt_filter (fun k hk => ?_) (by simp)]
      have : k ≠ e.1.id := fun e2 => hid (by rw [← e2]; exact rec_kids hr k hk)
      simpa using this
    · rw [if_neg h1, if_neg h1]
  have e2 : (e.1.recs e.2.1).map (outK e.2.1 e.1.id) = e.1.recs e.2.1 := map_none (x := e.2.1) (fun r hr => by unfold outK; rw [if_neg hr]) (by
    rw [I.recs_id]; exact fun hm => (List.nodup_append.1 h.nodup).2.2 _ h.par _ hm rfl)
  rw [e1, e2] at hp
  exact hp

section

variable {A : List Nat} {w : World} {D : Nat} {R : I}

end
end

section
open Go.RowKit

theorem bytesLess_cmp : ∀ a b : Str, Op.bytesLess a b = decide (cmpS a b < 0)
  | [], [] => rfl
  | [], _ :: _ => rfl
  | _ :: _, [] => rfl
  | a :: x, b :: y => by
    have ih := bytesLess_cmp x y
    unfold cmpS at ih ⊢
    simp only [Op.bytesLess, Lib.compareBytes, ih]
    by_cases h1 : a < b
    · simp [h1]
    · by_cases h2 : b < a
      · have : ¬ a = b := fun e => by subst e; exact h1 h2
        simp [h1, h2, this]
      · have : a = b := by
          have e1 : ¬ a.toNat < b.toNat := h1
          have e2 : ¬ b.toNat < a.toNat := h2
          exact UInt8.toNat_inj.1 (by omega)
        simp [this]

theorem cmpS_anti (a b : Str) : cmpS a b = - cmpS b a := cmpS_cmp.anti a b trivial trivial

theorem cmpS_zero (a b : Str) : cmpS a b = 0 ↔ a = b := cmpS_cmp.zero a b trivial trivial

theorem cmpS_lt {a b c : Str} (h1 : cmpS a b < 0) (h2 : cmpS b c < 0) : cmpS a c < 0 := by
  have h3 := cmpS_cmp.trans a b c trivial trivial trivial (by omega) (by omega)
  rcases Int.lt_or_eq_of_le h3 with h | h
  · exact h
  · have e := (cmpS_zero a c).1 h
    subst e
    have := cmpS_anti a b
    omega
end

section
open Go.RowKit

namespace I

def upd : I → Int → Str → List (Str × Str) → I | .node i k n t0 a0 ks, x, t, a => .node i k n (if i = x then t else t0) (if i = x then a else a0) (ks.attach.map fun ⟨v, _⟩ => upd v x t a)

theorem upd_eq (s : I) (x : Int) (t : Str) (a : List (Str × Str)) : s.upd x t a = .node s.id s.kind s.name (if s.id = x then t else s.text) (if s.id = x then a else s.attrs) (s.kids.map fun v => v.upd x t a) := by
  cases s with
  | node i k n t0 a0 ks =>
    rw [upd]
    congr 1
    exact List.attach_map_val (f := fun v => upd v x t a)

theorem upd_id (s : I) (x : Int) (t : Str) (a : List (Str × Str)) : (s.upd x t a).id = s.id := by rw [upd_eq]; rfl

theorem upd_kind (s : I) (x : Int) (t : Str) (a : List (Str × Str)) : (s.upd x t a).kind = s.kind := by rw [upd_eq]; rfl

theorem upd_none : ∀ (s : I) {x : Int} (t : Str) (a : List (Str × Str)), x ∉ s.ids → s.upd x t a = s := ind' fun s ih x t a h => by
  have h1 : s.id ≠ x := fun e => h (e ▸ id_mem s)
  have h2 : (s.kids.map fun v => v.upd x t a) = s.kids := map_self fun v hv => ih v hv t a fun hm => h (kid_ids hv hm)
  rw [upd_eq, if_neg h1, if_neg h1, h2, eta]

theorem upd_all (x : Int) (t : Str) (a : List (Str × Str)) : ∀ (s : I) (p : Int) (d : Nat), (s.upd x t a).all p d = (s.all p d).map fun e => (e.1.upd x t a, e.2) := ind' fun s ih p d => by
  have hk : (s.upd x t a).kids = s.kids.map fun v => v.upd x t a := by rw [upd_eq]; rfl
  rw [all_eq, all_eq s, List.map_cons, upd_id, hk, map_flatMap_congr (fun v hv => rfl), List.flatMap_map]
  congr 1
  have key : ∀ l : List I, (∀ v ∈ l, v ∈ s.kids) → (l.flatMap fun v => (v.upd x t a).all s.id (d + 1)) = l.flatMap fun v => (v.all s.id (d + 1)).map fun e => (e.1.upd x t a, e.2) := fun l => by
    induction l with
    | nil => intro _; rfl
    | cons v r ihl =>
      intro hl
      rw [List.flatMap_cons, List.flatMap_cons, ih v (hl v (by simp)), ihl fun u hu => hl u (by simp [hu])]
  exact key s.kids fun v hv => hv

def updK (x : Int) (t : Str) (a : List (Str × Str)) (r : Rec) : Rec := if r.id = x then { r with text := t, attrs := a } else r

theorem upd_rec0 (s : I) (x : Int) (t : Str) (a : List (Str × Str)) (p : Int) : (s.upd x t a).rec0 p = updK x t a (s.rec0 p) := by
  have hk : ((s.kids.map fun v => v.upd x t a).map I.id) = s.kids.map I.id := by
    rw [List.map_map]; exact List.map_congr_left fun v _ => upd_id v x t a
  rw [upd_eq]
  unfold updK rec0
  simp only [mk_id, mk_kind, mk_name, mk_text, mk_attrs, mk_kids, hk]
  by_cases h : s.id = x
  · rw [if_pos h, if_pos h, if_pos h]
  · rw [if_neg h, if_neg h, if_neg h]

theorem upd_recs (s : I) (x : Int) (t : Str) (a : List (Str × Str)) (p : Int) : (s.upd x t a).recs p = (s.recs p).map (updK x t a) := by
  unfold recs
  rw [upd_all, List.map_map, List.map_map]
  exact List.map_congr_left fun e _ => upd_rec0 e.1 x t a e.2.1

theorem upd_ids (s : I) (x : Int) (t : Str) (a : List (Str × Str)) : (s.upd x t a).ids = s.ids := by
  rw [← recs_id _ 0, upd_recs, List.map_map, ← recs_id s 0]
  exact List.map_congr_left fun r _ => by show (updK x t a r).id = r.id; unfold updK; split <;> rfl

theorem upd_depth (x : Int) (t : Str) (a : List (Str × Str)) : ∀ s : I, (s.upd x t a).toT.depth = s.toT.depth := ind' fun s ih => by
  have e1 : (s.upd x t a).toT.depth = 1 + (((s.kids.map fun v => v.upd x t a).map toT).map T.depth).foldr max 0 := by rw [upd_eq, toT_eq, T.depth_eq]; rfl
  have e2 : s.toT.depth = 1 + ((s.kids.map toT).map T.depth).foldr max 0 := by rw [toT_eq s, T.depth_eq]; rfl
  rw [e1, e2, List.map_map, List.map_map, List.map_map]
  congr 2
  exact List.map_congr_left fun v hv => ih v hv

theorem upd_ok (x : Int) (t : Str) (a : List (Str × Str)) : ∀ (s : I), s.ids.Nodup → (∀ v ∈ s.nodes, v.id = x → nodeOk (I.node v.id v.kind v.name t a v.kids).toT = true) → nodeOk s.toT = true → nodeOk (s.upd x t a).toT = true := ind' fun s ih hn hx hs => by
  obtain ⟨n1, n2⟩ := nodup_kids hn
  by_cases h : s.id = x
  · have h2 : (s.kids.map fun v => v.upd x t a) = s.kids := map_self fun v hv => upd_none v t a fun hm => n1 (by rw [h]; exact List.mem_flatMap.2 ⟨v, hv, hm⟩)
    rw [upd_eq, if_pos h, if_pos h, h2]
    exact hx s (self_nodes s) h
  · rw [upd_eq, if_neg h, if_neg h]
    by_cases h2 : s.kind = 2
    · obtain ⟨h3, h4⟩ := (node_el h2).1 hs
      refine (node_el (s := .node s.id s.kind s.name s.text s.attrs (s.kids.map fun v => v.upd x t a)) h2).2 ⟨h3, fun v hv => ?_⟩
      rw [mk_kids] at hv
      obtain ⟨v', hv', rfl⟩ := List.mem_map.1 hv
      exact ⟨ih v' hv' (nodup_kid n2 v' hv') (fun u hu => hx u (kid_nodes hv' hu)) (h4 v' hv').1, by rw [upd_kind]; exact (h4 v' hv').2⟩
    · have hk := node_ne h2 hs
      rw [hk]
      have e : I.node s.id s.kind s.name s.text s.attrs (([] : List I).map fun v => v.upd x t a) = s := by rw [List.map_nil, ← hk, eta]
      rw [e]; exact hs

theorem Okay.upd {s : I} {x : Int} {t : Str} {a : List (Str × Str)} {f : I × Int × Nat} (h : s.Okay) (hf : f ∈ s.all (-1) 1) (hx : f.1.id = x) (hk : f.1.kind ≠ 1) (hok : nodeOk (I.node f.1.id f.1.kind f.1.name t a f.1.kids).toT = true) : (s.upd x t a).Okay := by
  obtain ⟨h1, h2, h3, h4, h5, h6, h7⟩ := check_iff.1 h.check
  have hne : s.id ≠ x := fun e => by
    have : f = (s, -1, 1) := all_inj h.nodup hf (all_self _ _ _) (hx.trans e.symm)
    rw [this] at hk; exact hk h1
  have hkids : (s.upd x t a).kids = s.kids.map fun v => v.upd x t a := by rw [upd_eq]; rfl
  refine ⟨check_iff.2 ⟨by rw [upd_kind]; exact h1, by rw [upd_ids]; exact h2, by rw [upd_depth]; exact h3, by rw [upd_eq]; exact h4, by rw [upd_eq, if_neg hne]; exact h5, by rw [upd_eq]; show (if s.id = x then a else s.attrs) = []; rw [if_neg hne]; exact h6, fun v hv => ?_⟩, by rw [upd_ids]; exact h.nodup, by rw [upd_ids]; exact h.rng, by rw [upd_id]; exact h.root⟩
  rw [hkids] at hv
  obtain ⟨v', hv', rfl⟩ := List.mem_map.1 hv
  refine upd_ok x t a v' (nodup_kid (nodup_kids h.nodup).2 v' hv') (fun u hu hux => ?_) (h7 v' hv')
  obtain ⟨k, hk, rfl⟩ := nodes_all (kid_nodes hv' hu) (-1) 1
  rw [all_inj h.nodup hk hf (hux.trans hx.symm)]
  exact hok

/-- A node of a tree that may be, and is not the first one. -/
theorem Okay.node {s : I} (h : s.Okay) {f : I × Int × Nat} (hf : f ∈ s.all (-1) 1) (hk : f.1.kind ≠ 1) : nodeOk f.1.toT = true := by
  obtain ⟨h1, _, _, _, _, _, h7⟩ := check_iff.1 h.check
  rw [all_eq] at hf
  rcases List.mem_cons.1 hf with e | hf
  · rw [e] at hk; exact absurd h1 hk
  · obtain ⟨u, hu, hfu⟩ := List.mem_flatMap.1 hf
    exact (sub_ok u (h7 u hu) f.1 (mem_nodes hfu)).1

end I

theorem nameOk_pos {n : Str} (h : nameOk n = true) : cmpS [] n < 0 := by
  unfold nameOk at h
  simp only [Bool.and_eq_true] at h
  cases n with
  | nil => simp at h
  | cons c r => unfold cmpS; simp [Lib.compareBytes]

theorem attrsOk_iff : ∀ {l : List (Str × Str)} {last : Str}, attrsOk last l = true ↔ (∀ p ∈ l, nameOk p.1 = true ∧ p.2.length ≤ 4096 ∧ cmpS last p.1 < 0) ∧ l.Pairwise fun a b => cmpS a.1 b.1 < 0
  | [], last => by simp [attrsOk]
  | p :: r, last => by
    have ih := attrsOk_iff (l := r) (last := p.1)
    have hc : (!(Op.bytesLess p.1 last) && !(decide (p.1 = last))) = true ↔ cmpS last p.1 < 0 := by
      rw [bytesLess_cmp]
      have h1 := cmpS_anti last p.1
      have h2 := cmpS_zero p.1 last
      simp only [Bool.and_eq_true, Bool.not_eq_true', decide_eq_false_iff_not]
      constructor
      · rintro ⟨g1, g2⟩
        have : cmpS p.1 last ≠ 0 := fun e => g2 (h2.1 e)
        omega
      · intro g
        exact ⟨by omega, fun e => by have := h2.2 e; omega⟩
    rw [attrsOk, Bool.and_eq_true, Bool.and_eq_true, Bool.and_eq_true, hc, ih]
    simp only [decide_eq_true_eq]
    constructor
    · rintro ⟨⟨⟨g1, g2⟩, g3⟩, g4, g5⟩
      refine ⟨fun q hq => ?_, List.pairwise_cons.2 ⟨fun q hq => (g4 q hq).2.2, g5⟩⟩
      rcases List.mem_cons.1 hq with rfl | hq
      · exact ⟨g2, g3, g1⟩
      · exact ⟨(g4 q hq).1, (g4 q hq).2.1, cmpS_lt g1 (g4 q hq).2.2⟩
    · rintro ⟨g1, g2⟩
      obtain ⟨g3, g4⟩ := List.pairwise_cons.1 g2
      have g5 := g1 p (by simp)
      exact ⟨⟨⟨g5.2.2, g5.1⟩, g5.2.1⟩, fun q hq => ⟨(g1 q (by simp [hq])).1, (g1 q (by simp [hq])).2.1, g3 q hq⟩, g4⟩

theorem sorted_of {l : List (Str × Str)} {last : Str} (h : attrsOk last l = true) : Sorted l := fun j k hjk hk => by
  have := List.pairwise_iff_getElem.1 (attrsOk_iff.1 h).2 j k (by omega) hk hjk
  simpa [List.getD_eq_getElem?_getD, hk, show j < l.length by omega] using this

def lessA (l : List (Str × Str)) (n : Str) : List (Str × Str) := l.filter fun p => decide (cmpS p.1 n < 0)

def moreA (l : List (Str × Str)) (n : Str) : List (Str × Str) := l.filter fun p => decide (0 < cmpS p.1 n)

/-- Attributes with one, in order; without one. -/
def withA (l : List (Str × Str)) (n v : Str) : List (Str × Str) := lessA l n ++ (n, v) :: moreA l n

def withoutA (l : List (Str × Str)) (n : Str) : List (Str × Str) := l.filter fun p => decide (p.1 ≠ n)

def hasA (l : List (Str × Str)) (n : Str) : Bool := l.any fun p => decide (p.1 = n)

theorem place_split {l : List (Str × Str)} {n : Str} {i : Nat} (hs : Sorted l) (hp : PlaceOf l n i) :
    (∀ p ∈ l.take i, cmpS p.1 n < 0) ∧ if hasAt l n i = true then (i < l.length ∧ (l.getD i ([], [])).1 = n ∧ ∀ p ∈ l.drop (i + 1), 0 < cmpS p.1 n) else ∀ p ∈ l.drop i, 0 < cmpS p.1 n := by
  have hget : ∀ {j : Nat}, (h : j < l.length) → l.getD j ([], []) = l[j] := fun h => by simp [List.getD_eq_getElem?_getD, h]
  refine ⟨fun p hp' => ?_, ?_⟩
  · obtain ⟨j, hj, rfl⟩ := List.getElem_of_mem hp'
    rw [List.length_take] at hj
    have := hp.less j (by omega)
    rw [hget (by omega)] at this
    rw [List.getElem_take]; exact this
  · by_cases h : hasAt l n i = true
    · rw [if_pos h]
      unfold hasAt at h
      simp only [Bool.and_eq_true, decide_eq_true_eq] at h
      refine ⟨h.1, h.2, fun p hp' => ?_⟩
      obtain ⟨j, hj, rfl⟩ := List.getElem_of_mem hp'
      rw [List.length_drop] at hj
      rw [List.getElem_drop]
      have := hs i (i + 1 + j) (by omega) (by omega)
      rw [h.2, hget (by omega)] at this
      have := cmpS_anti n (l[i + 1 + j]'(by omega)).1
      omega
    · rw [if_neg h]
      intro p hp'
      obtain ⟨j, hj, rfl⟩ := List.getElem_of_mem hp'
      rw [List.length_drop] at hj
      rw [List.getElem_drop]
      have h0 := hp.more (i + j) (by omega) (by omega)
      rw [hget (by omega)] at h0
      by_cases hj0 : j = 0
      · subst hj0
        have hne : cmpS (l[i + 0]'(by omega)).1 n ≠ 0 := fun e => h (by
          have e2 := (cmpS_zero _ _).1 e
          unfold hasAt
          simp only [Nat.add_zero] at e2
          rw [hget (by omega), e2]
          simp; omega)
        omega
      · have h1 := hs i (i + j) (by omega) (by omega)
        have h2 := hp.more i (Nat.le_refl _) (by omega)
        rw [hget (show i + j < l.length by omega)] at h1
        have hne : cmpS (l[i + j]'(by omega)).1 n ≠ 0 := fun e => by
          rw [(cmpS_zero _ _).1 e] at h1; omega
        omega

theorem filter_nil {α : Type} {P : α → Bool} {l : List α} (h : ∀ x ∈ l, P x = false) : l.filter P = [] := List.filter_eq_nil_iff.2 fun x hx => by rw [h x hx]; decide

theorem place_has {l : List (Str × Str)} {n : Str} {i : Nat} (hs : Sorted l) (hp : PlaceOf l n i) (h : hasAt l n i = true) : i < l.length ∧ (l.getD i ([], [])).1 = n ∧ lessA l n = l.take i ∧ moreA l n = l.drop (i + 1) ∧ withoutA l n = l.take i ++ l.drop (i + 1) ∧ hasA l n = true := by
  obtain ⟨h1, h2⟩ := place_split hs hp
  rw [if_pos h] at h2
  obtain ⟨hi, hn, h3⟩ := h2
  have hl : l = l.take i ++ l.getD i ([], []) :: l.drop (i + 1) := by
    have e : l.getD i ([], []) = l[i] := by simp [List.getD_eq_getElem?_getD, hi]
    rw [e, ← List.drop_eq_getElem_cons hi, List.take_append_drop]
  have z : cmpS n n = 0 := (cmpS_zero n n).2 rfl
  have ne1 : ∀ p ∈ l.take i, p.1 ≠ n := fun p hp e => by have := h1 p hp; rw [e] at this; omega
  have ne2 : ∀ p ∈ l.drop (i + 1), p.1 ≠ n := fun p hp e => by have := h3 p hp; rw [e] at this; omega
  refine ⟨hi, hn, ?_, ?_, ?_, ?_⟩
  · refine (congrArg (fun l => lessA l n) hl).trans ?_
    unfold lessA
    rw [List.filter_append, List.filter_cons, filter_all (fun p hp => decide_eq_true (h1 p hp)), filter_nil (l := l.drop (i + 1)) (fun p hp => decide_eq_false (by have := h3 p hp; omega)), if_neg (by rw [hn]; simp; omega), List.append_nil]
  · refine (congrArg (fun l => moreA l n) hl).trans ?_
    unfold moreA
    rw [List.filter_append, List.filter_cons, filter_nil (l := l.take i) (fun p hp => decide_eq_false (by have := h1 p hp; omega)), filter_all (l := l.drop (i + 1)) (fun p hp => decide_eq_true (h3 p hp)), if_neg (by rw [hn]; simp; omega), List.nil_append]
  · refine (congrArg (fun l => withoutA l n) hl).trans ?_
    unfold withoutA
    rw [List.filter_append, List.filter_cons, filter_all (l := l.take i) (fun p hp => decide_eq_true (ne1 p hp)), filter_all (l := l.drop (i + 1)) (fun p hp => decide_eq_true (ne2 p hp)), if_neg (by rw [hn]; simp)]
  · unfold hasA
    rw [List.any_eq_true]
    refine ⟨l.getD i ([], []), ?_, decide_eq_true hn⟩
    rw [List.getD_eq_getElem?_getD, List.getElem?_eq_getElem hi]; exact List.getElem_mem hi

theorem place_no {l : List (Str × Str)} {n : Str} {i : Nat} (hs : Sorted l) (hp : PlaceOf l n i) (h : hasAt l n i = false) : lessA l n = l.take i ∧ moreA l n = l.drop i ∧ hasA l n = false := by
  obtain ⟨h1, h2⟩ := place_split hs hp
  rw [if_neg (by rw [h]; decide)] at h2
  have hl : l = l.take i ++ l.drop i := (List.take_append_drop i l).symm
  have z : cmpS n n = 0 := (cmpS_zero n n).2 rfl
  refine ⟨?_, ?_, ?_⟩
  · refine (congrArg (fun l => lessA l n) hl).trans ?_
    unfold lessA
    rw [List.filter_append, filter_all (fun p hp => decide_eq_true (h1 p hp)), filter_nil (l := l.drop i) (fun p hp => decide_eq_false (by have := h2 p hp; omega)), List.append_nil]
  · refine (congrArg (fun l => moreA l n) hl).trans ?_
    unfold moreA
    rw [List.filter_append, filter_nil (l := l.take i) (fun p hp => decide_eq_false (by have := h1 p hp; omega)), filter_all (l := l.drop i) (fun p hp => decide_eq_true (h2 p hp)), List.nil_append]
  · unfold hasA
    rw [Bool.eq_false_iff]
    intro ha
    obtain ⟨p, hp', e⟩ := List.any_eq_true.1 ha
    have e := of_decide_eq_true e
    rw [hl] at hp'
    rcases List.mem_append.1 hp' with hm | hm
    · have := h1 p hm; rw [e] at this; omega
    · have := h2 p hm; rw [e] at this; omega

theorem withA_ok {l : List (Str × Str)} (h : attrsOk [] l = true) {n v : Str} (hn : nameOk n = true) (hv : v.length ≤ 4096) : attrsOk [] (withA l n v) = true := by
  obtain ⟨h1, h2⟩ := attrsOk_iff.1 h
  refine attrsOk_iff.2 ⟨fun p hp => ?_, ?_⟩
  · unfold withA at hp
    rcases List.mem_append.1 hp with hp | hp
    · exact h1 p (List.mem_filter.1 hp).1
    · rcases List.mem_cons.1 hp with rfl | hp
      · exact ⟨hn, hv, nameOk_pos hn⟩
      · exact h1 p (List.mem_filter.1 hp).1
  · unfold withA
    refine List.pairwise_append.2 ⟨h2.filter _, List.pairwise_cons.2 ⟨fun q hq => ?_, h2.filter _⟩, fun p hp q hq => ?_⟩
    · have := of_decide_eq_true (List.mem_filter.1 hq).2
      have := cmpS_anti n q.1
      show cmpS n q.1 < 0
      omega
    · have hp' : cmpS p.1 n < 0 := of_decide_eq_true (List.mem_filter.1 hp).2
      rcases List.mem_cons.1 hq with rfl | hq
      · exact hp'
      · have := of_decide_eq_true (List.mem_filter.1 hq).2
        have := cmpS_anti n q.1
        exact cmpS_lt hp' (by omega)

theorem withA_len {l : List (Str × Str)} (h : attrsOk [] l = true) (n v : Str) : (withA l n v).length = if hasA l n = true then l.length else l.length + 1 := by
  have h2 := (attrsOk_iff.1 h).2
  unfold withA
  rw [List.length_append, List.length_cons]
  have key : ∀ l : List (Str × Str), l.Pairwise (fun a b => cmpS a.1 b.1 < 0) → (lessA l n).length + (moreA l n).length + (if hasA l n = true then 1 else 0) = l.length := fun l => by
    induction l with
    | nil => intro _; rfl
    | cons p r ih =>
      intro hp
      obtain ⟨g1, g2⟩ := List.pairwise_cons.1 hp
      have ih := ih g2
      have ha := cmpS_anti p.1 n
      have hz := cmpS_zero p.1 n
      unfold lessA moreA hasA at ih ⊢
      rw [List.filter_cons, List.filter_cons, List.any_cons]
      rcases Int.lt_trichotomy (cmpS p.1 n) 0 with hc | hc | hc
      · have hne : ¬ p.1 = n := fun e => by have := hz.2 e; omega
        rw [if_pos (decide_eq_true hc), if_neg (by simp; omega), decide_eq_false hne, Bool.false_or]
        simp only [List.length_cons]; omega
      · have he := hz.1 hc
        have hr : (r.any fun p => decide (p.1 = n)) = false := by
          rw [Bool.eq_false_iff]; intro hh
          obtain ⟨q, hq, e⟩ := List.any_eq_true.1 hh
          have := g1 q hq
          rw [of_decide_eq_true e, he] at this
          have := (cmpS_zero n n).2 rfl; omega
        rw [if_neg (by simp; omega), if_neg (by simp; omega), decide_eq_true he, Bool.true_or, if_pos rfl]
        rw [hr, if_neg (by decide)] at ih
        simp only [List.length_cons]; omega
      · have hne : ¬ p.1 = n := fun e => by have := hz.2 e; omega
        rw [if_neg (by simp; omega), if_pos (decide_eq_true hc), decide_eq_false hne, Bool.false_or]
        simp only [List.length_cons]; omega
  have := key l h2
  by_cases hh : hasA l n = true
  · rw [if_pos hh] at this ⊢; omega
  · rw [if_neg hh] at this ⊢; omega
end

section
open Go.RowKit Go.MapKept

section

variable {A : List Nat} {w w1 : World} {D : Nat} {l : Sl} {M : Nat} {m : List (Int × Value)} {X : List Nd}

/-- What stands in a row's own blocks anew. -/
theorem Arena.inner (h : Arena A w D l M m X) {i : Nat} {x : Nd} (hi : X[i]? = some x) (x' : Nd) (hid : x'.r.id = x.r.id) {F : List Nat} (hC : Chg F w w1) (hF : ∀ b ∈ F, b ∈ x.sa.blk ∨ b ∈ x.sk.blk ∨ w.heap.size ≤ b)
    (hsa : Own A w1 x'.sa 2 65 (x'.r.attrs.map ac)) (hsk : Own A w1 x'.sk 1 3 (x'.r.kids.map ic)) (hba : ∀ b ∈ x'.sa.blk, b ∈ x.sa.blk ∨ w.heap.size ≤ b) (hbk : ∀ b ∈ x'.sk.blk, b ∈ x.sk.blk ∨ w.heap.size ≤ b) (hfit : x'.r.attrs.length ≤ 1000000 ∧ x'.r.kids.length ≤ 1000000) (heq : ndc x = ndc x') :
    Arena A w1 D l M m (X.set i x') ∧ Mod A w w1 := by
  obtain ⟨g, hg, hgb, _⟩ := h.at hi
  obtain ⟨cur, hcur, _⟩ := h.cur hg
  have hFn : ∀ {b : Nat}, b ∈ F → b < w.heap.size → b ∈ x.sa.blk ∨ b ∈ x.sk.blk := fun hb hlt => by
    rcases hF _ hb with h | h | h
    · exact .inl h
    · exact .inr h
    · omega
  have hcur1 : Box w1 g 76 cur := hcur.keep hC fun hm => (h.only hi (hFn hm hcur.lt)).2.2.2.1 (by rw [hgb]; simp)
  obtain ⟨hu, _⟩ := h.upd hi x' hid hC hF hsa hsk hba hbk hfit hg hcur1 (Chg.refl [g] w1) (o := 0) (us := []) hcur1 (by simp) heq
  exact ⟨hu, ⟨hC.os, hC.tape, hC.output, hC.size, fun k hk hA => hC.block k hk fun hm => (h.only hi (hFn hm hk)).1 hA⟩⟩

end

section

variable {A : List Nat} {w : World} {D : Nat} {R : I}

theorem updPerm {X : List Nd} (hn : (X.map fun x => x.r.id).Nodup) (hp : (X.map Nd.r).Perm (R.recs (-1))) {i : Nat} {x x' : Nd} (hi : X[i]? = some x) {id : Int} (hx : x.r.id = id) {t : Str} {a : List (Str × Str)} (hx' : x'.r = { x.r with text := t, attrs := a }) : ((X.set i x').map Nd.r).Perm ((R.upd id t a).recs (-1)) := by
  rw [set_recs (G := I.updK id t a) hn hi (by rw [hx']; unfold I.updK; rw [if_pos hx]) (fun z hz => by unfold I.updK; rw [if_neg (by rw [← hx]; exact hz)]), I.upd_recs]
  exact hp.map _

theorem domAttr (h : Dom A w D R) {p : Addr} {s : Sl} {ats : List (Str × Str)} (hc : w.cell? ((p.add 2).add 3) = some s.v) (hs : Row [] w s 2 (ats.map ac)) (hso : Sorted ats) (hb : ats.length ≤ 1000000) (n : Str) :
    Calls Try.prog 51 #[.pointer (some p), .string (Bs n)] w (Ret fun v w' => Ext w w' ∧ ∃ i : Nat, PlaceOf ats n i ∧ v = .tuple #[.int .i64 (i : Int), .bool (hasAt ats n i)]) := by
  refine dom_node_attr.ok _ _ ?_
  unfold dom_node_attr.vc
  refine ⟨s, hc, CallK.ext (searchAttr hs hso (by omega) n) ?_⟩
  rintro v w1 hE1 ⟨i, hi, rfl⟩
  exact ⟨_, _, rfl, hE1, i, hi, rfl⟩

def setE (R : I) (id : Int) (name value : Str) : Int := match R.find id with
  | none => 3
  | some e => if e.1.kind ≠ 2 then 4 else if nameOk name = false then 8 else if 4096 < value.length ∨ (hasA e.1.attrs name = false ∧ 12 ≤ e.1.attrs.length) then 2 else 0

def attrsOf (R : I) (id : Int) : List (Str × Str) := match R.find id with
  | some e => e.1.attrs
  | none => []

theorem elAttrs (hR : R.Okay) {e : I × Int × Nat} (e1 : e ∈ R.all (-1) 1) (hk : e.1.kind = 2) : nameOk e.1.name = true ∧ e.1.text = [] ∧ e.1.attrs.length ≤ 12 ∧ attrsOk [] e.1.attrs = true ∧ ∀ u ∈ e.1.kids, nodeOk u.toT = true ∧ u.kind ≠ 5 := by
  obtain ⟨h1, h2⟩ := (I.node_el hk).1 (hR.node e1 (by omega))
  simp only [Bool.and_eq_true, List.isEmpty_iff, decide_eq_true_eq] at h1
  exact ⟨h1.1.1, h1.1.2, h1.2.1, h1.2.2, h2⟩

theorem set_okay (hR : R.Okay) {e : I × Int × Nat} (e1 : e ∈ R.all (-1) 1) (hk : e.1.kind = 2) {a : List (Str × Str)} (ha : attrsOk [] a = true) (hl : a.length ≤ 12) : (R.upd e.1.id [] a).Okay := by
  obtain ⟨h1, h2, h3, h4, h5⟩ := elAttrs hR e1 hk
  refine hR.upd e1 rfl (by omega) ((I.node_el (s := I.node e.1.id e.1.kind e.1.name [] a e.1.kids) hk).2 ⟨?_, h5⟩)
  rw [I.mk_name, I.mk_text, I.mk_attrs, h1, ha]
  simp [hl]

theorem domSet (h : Dom A w D R) (hA : ∀ b ∈ A, b < w.heap.size) (id : Int) (name value : Str) :
    Calls Try.prog 15 #[.pointer (some ⟨D, 0, none⟩), .int .i64 id, .string (Bs name), .string (Bs value)] w (Ret fun v w' => v = .int .i64 (setE R id name value) ∧ if setE R id name value = 0 then Mod A w w' ∧ Dom A w' D (R.upd id [] (withA (attrsOf R id) name value)) else Ext w w') := by
  have hR := h.okay
  have hd := h
  obtain ⟨E, hE⟩ : ∃ E, E = setE R id name value := ⟨_, rfl⟩
  rw [← hE]
  unfold setE at hE
  refine dom_Dom_Set.ok _ _ _ _ ?_
  unfold dom_Dom_Set.vc
  obtain ⟨l, M, m, X, h0, hp, _⟩ := h
  refine CallK.ext (domNode h0 id) ?_
  rintro v w1 hE1 (⟨hn, rfl⟩ | ⟨i, x, g, hi, hx, hg, rfl⟩)
  · have hf := recNone hp hn
    rw [hf] at hE
    exact ⟨none, rfl, fun _ => ⟨by rw [hE], by rw [if_neg (by rw [hE]; exact (by decide : ¬ (3 : Int) = 0))]; exact hE1⟩, fun hb => by cases hb⟩
  obtain ⟨e, he, hxr⟩ := recOf hp hR hi
  rw [hx] at he
  rw [he] at hE
  simp only at hE
  have haof : attrsOf R id = e.1.attrs := by unfold attrsOf; rw [he]
  rw [haof]
  obtain ⟨e1, e2⟩ := I.find_some he
  have hxm := List.mem_of_getElem? hi
  have hkind : x.r.kind = e.1.kind := by rw [hxr]; rfl
  have hxa : x.r.attrs = e.1.attrs := by rw [hxr]; rfl
  have atc : ∀ w', Ext w w' → Cells w' ⟨g, i * 8, none⟩ (ndc x) := fun w' hE' => by
    obtain ⟨g', hg', _, hc⟩ := (h0.ext hE').at hi
    rw [hg] at hg'; cases hg'; exact hc
  have hgb : l.blk = [g] := by simp [Sl.blk, hg]
  refine ⟨_, rfl, fun hb => (by cases hb), fun _ => ⟨_, rfl, e.1.kind, by rw [← hkind]; exact atc w1 hE1 2 _ rfl, fun hk => ?_, fun hk => ?_⟩⟩
  · have h4 : E = 4 := by rw [hE, if_pos hk]
    exact ⟨by rw [h4], by rw [if_neg (by rw [h4]; decide)]; exact hE1⟩
  rw [if_neg hk] at hE
  have hk2 : e.1.kind = 2 := Classical.not_not.1 hk
  obtain ⟨_, hte, hal, hao, _⟩ := elAttrs hR e1 hk2
  refine CallK.exact (treeName name) fun w2 hE2 => ⟨_, rfl, fun hb => ?_, fun hnm => ?_⟩
  · have h8 : E = 8 := by rw [hE, if_pos hb]
    exact ⟨by rw [h8], by rw [if_neg (by rw [h8]; decide)]; exact hE1.trans hE2⟩
  rw [if_neg (by rw [hnm]; decide)] at hE
  have hE02 := hE1.trans hE2
  have hso : Sorted x.r.attrs := by rw [hxa]; exact sorted_of hao
  have hrow2 := ((h0.ext hE02).sa x hxm).row.less (A' := []) (by simp)
  have hxl : x.r.attrs.length ≤ 12 := by rw [hxa]; exact hal
  refine CallK.ext (domAttr (hd.ext hE02) (p := ⟨g, i * 8, none⟩) (atc w2 hE02 5 _ rfl) hrow2 hso (by omega) name) ?_
  rintro v w3 hE3 ⟨q, hq, rfl⟩
  have hE03 := hE02.trans hE3
  have h3 := h0.ext hE03
  have hsn : x.sa.n = x.r.attrs.length := by have := (h0.sa x hxm).len; rwa [List.length_map] at this
  have hhas : hasAt x.r.attrs name q = hasA e.1.attrs name := by
    rw [← hxa]
    cases hh : hasAt x.r.attrs name q with
    | true => rw [(place_has hso hq hh).2.2.2.2.2]
    | false => rw [(place_no hso hq hh).2.2]
  have hwl := withA_len hao name value
  refine ⟨(q : Int), _, rfl, _, fun _ => rfl, x.sa, fun _ => atc w3 hE03 5 _ rfl, fun hb => ?_, fun hgood => ⟨fun hno => ?_, fun hyes => ?_⟩⟩
  · have h2 : E = 2 := by rw [hE, if_pos (by rw [← hhas, ← hxa]; rcases hb with hb | hb; exact .inl (by omega); exact .inr ⟨hb.1, by omega⟩)]
    exact ⟨by rw [h2], by rw [if_neg (by rw [h2]; decide)]; exact hE03⟩
  all_goals
    have hv4 : value.length ≤ 4096 := by omega
    rw [if_neg (by rw [← hhas, ← hxa]; rintro (hb | hb); omega; rcases hgood.2 with h | h; rw [h] at hb; cases hb.1; omega)] at hE
    have hwo := withA_ok hao hnm hv4
  · obtain ⟨hla, hma, hha⟩ := place_no hso hq hno
    have hwl2 : (withA e.1.attrs name value).length ≤ 12 := by
      rw [hwl, ← hxa, hha, if_neg (by decide)]
      rcases hgood.2 with h | h
      · rw [hno] at h; cases h
      · omega
    refine ⟨_, rfl, x.sa, atc w3 hE03 5 _ rfl, fun w4 B4 hN4 hE4 hbox4 => ?_⟩
    have hb4 := hN4.ge
    have hE04 := hE03.trans hE4
    have h4 := h0.ext hE04
    have ha4 := h4.sa x hxm
    have hone : Own [] w4 (Sl.mk (some ⟨B4, 0, none⟩) 1 1) 2 65 [ac (name, [])] := Own.one (A := []) (cs := ac (name, [])) hbox4 (by simp)
    refine CallK.chg (slicesInsert_attr (i := q) ha4 (fun b hb => by have := hA b hb; have := hE04.size; omega) hone (fun b hb hm => by
      simp [Sl.blk] at hb; subst hb
      have := ((h3.sa x hxm).blk b hm).2; omega) (ones_ac (name, [])) (ones_acs _) (by simp) (by rw [List.length_map]; exact hq.le) (by simp; omega)) (by simp) ?_
    rintro v w5 hC5 ⟨s', rfl, hs', hbs'⟩
    obtain ⟨cur, hcur, hlen⟩ := h4.cur hg
    have hl8 := hlen hi
    have honly := fun b (hb : b ∈ x.sa.blk) => h4.only hi (b := b) (.inl hb)
    have hcur5 : Box w5 g 76 cur := hcur.keep hC5 fun hm => (honly g hm).2.2.2.1 (by rw [hgb]; simp)
    refine ⟨s', rfl, _, rfl, g, i * 8 + 5, 76, cur, by rw [Addr.add_lit, Addr.add_lit], hcur5, by omega, by simp, fun w6 hC6 hB6 => ?_⟩
    let x' : Nd := ⟨{ x.r with attrs := insAt q (name, []) x.r.attrs }, s', x.sk⟩
    have hs5 : Own A w5 x'.sa 2 65 (x'.r.attrs.map ac) := by
      show Own _ _ _ _ _ ((insAt q (name, []) x.r.attrs).map ac)
      rw [insAt_map]
      unfold insAt
      rw [List.append_assoc] at hs'
      exact hs'
    obtain ⟨h6, hC46⟩ := h4.upd hi x' rfl hC5 (fun b hb => .inl hb) hs5 ((h4.sk x hxm).keep hC5 fun b hb hm => ((h4.sk x hxm).apart ha4 (by decide)) b hb hm) hbs' (fun b hb => .inl hb) ⟨by show (insAt _ _ _).length ≤ _; rw [insAt_len]; omega, (h4.fit x hxm).2⟩ hg hcur5 hC6 hB6 (by simp) rfl
    have hi6 : (X.set i x')[i]? = some x' := by rw [List.getElem?_set, if_pos rfl, if_pos (List.getElem?_eq_some_iff.1 hi).1]
    obtain ⟨g', hg', _, hc6⟩ := h6.at hi6
    rw [hg] at hg'; cases hg'
    have hm6 := List.mem_of_getElem? hi6
    have ha6 := h6.sa x' hm6
    have hqi : q < (insAt q (name, ([] : Str)) x.r.attrs).length := by rw [insAt_len]; have := hq.le; omega
    obtain ⟨ga, cura, hga, hgaB, hgal⟩ : ∃ ga cur, x'.sa.a = some ⟨ga, 0, none⟩ ∧ Box w6 ga 65 cur ∧ cur.length = x'.sa.c * 2 := by
      rcases ha6.at_ with e | ⟨g, cur, h1, _, h3, h4, _⟩
      · have := ha6.len
        rw [e] at this; simp [Sl.nil] at this
        rw [show x'.r.attrs = insAt q (name, []) x.r.attrs from rfl, insAt_len] at this
        omega
      · exact ⟨g, cur, h1, h3, h4⟩
    have hn6 := ha6.len
    have hc6' := ha6.cap
    rw [List.length_map, show x'.r.attrs = insAt q (name, []) x.r.attrs from rfl, insAt_len] at hn6
    have hqle := hq.le
    refine ⟨_, rfl, s', hc6 5 _ rfl, ⟨by omega, by show (q : Int) < (x'.sa.n : Int); omega⟩, ⟨ga, 0, none⟩, hga, ga, q * 2 + 1, 65, cura, by rw [Int.toNat_natCast, Addr.add_lit, Addr.add_lit, Nat.zero_add], hgaB, by omega, by simp, fun w7 hC7 hB7 => ?_⟩
    let x'' : Nd := ⟨{ x.r with attrs := insAt q (name, value) x.r.attrs }, s', x.sk⟩
    have hgd : ((insAt q (name, ([] : Str)) x.r.attrs).map ac).getD q [] = ac (name, []) := by
      rw [List.getD_eq_getElem?_getD, List.getElem?_map, insAt_get hqle]; rfl
    have hseta : ∀ (L : List (Str × Str)) (k : Nat) (u v : Str × Str), k ≤ L.length → ((insAt k u L).map ac).set k (ac v) = (insAt k v L).map ac := fun L k u v hk => by
      rw [← List.map_set]
      congr 1
      unfold insAt
      have : (L.take k).length = k := by rw [List.length_take]; omega
      rw [List.set_append_right _ _ (by omega), this, Nat.sub_self]; rfl
    have hs7 : Own A w7 x''.sa 2 65 (x''.r.attrs.map ac) := by
      have := ha6.put (o := 1) (us := [.string (Bs value)]) (j := q) hga hgaB (by rw [List.length_map]; exact hqi) (by simp) hB7
      rw [show x'.r.attrs = insAt q (name, []) x.r.attrs from rfl, hgd, show putAt (ac (name, [])) 1 [.string (Bs value)] = ac (name, value) from rfl, hseta _ _ _ _ hqle] at this
      exact this
    have hgasa : x'.sa.blk = [ga] := by simp [Sl.blk, hga]
    obtain ⟨h7, hM7⟩ := h6.inner hi6 x'' rfl hC7 (fun b hb => .inl (by rw [hgasa]; exact hb)) hs7 ((h6.sk x' hm6).keep hC7 fun b hb hm => ((h6.sk x' hm6).apart ha6 (by decide)) b hb (by rw [hgasa]; exact hm)) (fun b hb => .inl hb) (fun b hb => .inl hb) ⟨by show (insAt _ _ _).length ≤ _; rw [insAt_len]; omega, (h4.fit x hxm).2⟩ rfl
    rw [List.set_set] at h7
    refine ⟨by rw [hE], ?_⟩
    rw [if_pos hE]
    have hwith : withA e.1.attrs name value = insAt q (name, value) x.r.attrs := by
      unfold withA insAt; rw [← hxa, hla, hma]
    refine ⟨((Mod.ext hE04).trans (Mod.of hC46 fun b hb => ?_)).trans hM7, l, M, m, _, h7, ?_, by rw [← e2]; exact set_okay hR e1 hk2 hwo hwl2⟩
    · rcases List.mem_cons.1 hb with rfl | hb
      · exact (h4.row.blk b (by rw [hgb]; simp)).1
      · exact (honly b hb).1
    · rw [hwith]
      exact updPerm h0.nodup hp hi hx (by
        show ({ x.r with attrs := _ } : Rec) = _
        have : x.r.text = [] := by rw [hxr]; exact hte
        rw [← this])
  · obtain ⟨hql, hqn, hla, hma, _, hha⟩ := place_has hso hq hyes
    have hwl2 : (withA e.1.attrs name value).length ≤ 12 := by
      rw [hwl, ← hxa, hha, if_pos rfl]; omega
    have ha3 := h3.sa x hxm
    obtain ⟨ga, cura, hga, hgaB, hgal⟩ : ∃ ga cur, x.sa.a = some ⟨ga, 0, none⟩ ∧ Box w3 ga 65 cur ∧ cur.length = x.sa.c * 2 := by
      rcases ha3.at_ with e | ⟨g, cur, h1, _, h3, h4, _⟩
      · rw [e] at hsn; simp [Sl.nil] at hsn; omega
      · exact ⟨g, cur, h1, h3, h4⟩
    have hcap := ha3.cap
    refine ⟨_, rfl, x.sa, atc w3 hE03 5 _ rfl, ⟨by omega, by omega⟩, ⟨ga, 0, none⟩, hga, ga, q * 2 + 1, 65, cura, by rw [Int.toNat_natCast, Addr.add_lit, Addr.add_lit, Nat.zero_add], hgaB, by omega, by simp, fun w4 hC4 hB4 => ?_⟩
    let x' : Nd := ⟨{ x.r with attrs := x.r.attrs.set q (name, value) }, x.sa, x.sk⟩
    have hgd : (x.r.attrs.map ac).getD q [] = ac (name, (x.r.attrs.getD q ([], [])).2) := by
      rw [← hqn, List.getD_eq_getElem?_getD, List.getElem?_map, List.getD_eq_getElem?_getD, List.getElem?_eq_getElem hql]; rfl
    have hs4 : Own A w4 x'.sa 2 65 (x'.r.attrs.map ac) := by
      have := ha3.put (o := 1) (us := [.string (Bs value)]) (j := q) hga hgaB (by rw [List.length_map]; exact hql) (by simp) hB4
      rw [hgd] at this
      show Own _ _ _ _ _ ((x.r.attrs.set q (name, value)).map ac)
      rw [List.map_set]
      exact this
    have hgasa : x.sa.blk = [ga] := by simp [Sl.blk, hga]
    obtain ⟨h4, hM4⟩ := h3.inner hi x' rfl hC4 (fun b hb => .inl (by rw [hgasa]; exact hb)) hs4 ((h3.sk x hxm).keep hC4 fun b hb hm => ((h3.sk x hxm).apart ha3 (by decide)) b hb (by rw [hgasa]; exact hm)) (fun b hb => .inl hb) (fun b hb => .inl hb) ⟨by show (List.set _ _ _).length ≤ _; rw [List.length_set]; omega, (h3.fit x hxm).2⟩ rfl
    refine ⟨by rw [hE], ?_⟩
    rw [if_pos hE]
    have hwith : withA e.1.attrs name value = x.r.attrs.set q (name, value) := by
      unfold withA; rw [← hxa, hla, hma, List.set_eq_take_append_cons_drop, if_pos hql]
    refine ⟨(Mod.ext hE03).trans hM4, l, M, m, _, h4, ?_, by rw [← e2]; exact set_okay hR e1 hk2 hwo hwl2⟩
    rw [hwith]
    exact updPerm h0.nodup hp hi hx (by
      show ({ x.r with attrs := _ } : Rec) = _
      have : x.r.text = [] := by rw [hxr]; exact hte
      rw [← this])

end
end

section
open Go.RowKit Go.MapKept

def bare0 : T := .node 1 [] [] [] []

theorem bare0_check : bare0.check = true := by
  unfold T.check
  rw [T.size_eq, T.depth_eq]
  simp [bare0, T.kind, T.name, T.text, T.attrs, T.kids, kidsOk]

theorem num_bare : I.num bare0 0 = .node 0 1 [] [] [] [] := by rw [I.num_eq]; rfl

theorem bare0_rd (w : World) : RdT [] w bare0 Sl.nil Sl.nil := RdT.nil _ _ _ _ _

theorem cellI {A : List Nat} {w : World} {s : Sl} {l : List Int} (h : Row A w s 1 (l.map ic)) {k : Nat} {z : Int} (hk : l[k]? = some z) : ∃ p, s.a = some p ∧ w.cell? (p.add (k * 1)) = some (.int .i64 z) := by
  obtain ⟨hkl, e⟩ := List.getElem?_eq_some_iff.1 hk
  obtain ⟨p, hp, hc⟩ := h.int hkl
  rw [List.getD_eq_getElem?_getD, hk] at hc
  exact ⟨p, hp, hc⟩

theorem find_top {R : I} {id k : Int} {n x : Str} {a : List (Str × Str)} {ks : List I} (h : R = .node id k n x a ks) : R.find id = some (R, -1, 1) := by
  have := I.find_root R
  rw [h] at this ⊢; exact this

theorem domAwake (w : World) : Calls Try.prog 19 #[] w (Ret fun v w' => Ext w w' ∧ v = .bool true) := by
  refine law06_awake.ok ?_
  unfold law06_awake.vc
  refine CallK.ext (domNew (t := bare0) (bare0_rd w) (by unfold T.span; rw [T.size_eq, T.slots_eq]; simp [bare0, T.kids, T.attrs])) ?_
  rintro v w1 hE1 (⟨h, _⟩ | ⟨_, D, rfl, hD⟩)
  · rw [bare0_check] at h; cases h
  rw [num_bare] at hD
  refine ⟨_, 0, rfl, fun h => ?_, fun _ => ?_⟩
  · rcases h with h | h
    · exact absurd rfl h
    · cases h
  have hR := hD.okay
  have hf0 : I.find (.node 0 1 [] [] [] []) 0 = some (.node 0 1 [] [] [] [], -1, 1) := find_top rfl
  have hids : I.ids (.node 0 1 [] [] [] []) = [0] := by rw [I.ids_eq]; rfl
  have hone : (oneT 3 [] [97]).check = true := by
    unfold T.check
    rw [T.size_eq, T.depth_eq]
    simp [oneT, T.kind, T.name, T.text, T.attrs, T.kids, kidsOk, T.size_eq, T.depth_eq]
    rw [nodeOk_ne (by simp [T.kind])]; rfl
  have hE : insE (.node 0 1 [] [] [] []) 7 0 0 3 [] [97] = 0 := by
    have h7 : I.find (.node 0 1 [] [] [] []) 7 = none := I.find_none.2 (by rw [hids]; decide)
    unfold insE insBad
    rw [h7, hone, hids, hf0]
    rfl
  have hI := domInsert hD (fun b hb => Nat.lt_of_lt_of_le (List.mem_range.1 hb) hE1.size) 7 0 0 3 [] [97]
  rw [hE] at hI
  simp only [if_true] at hI
  have hI' : Calls Try.prog 14 #[.pointer (some ⟨D, 0, none⟩), .int .i64 7, .int .i64 0, .int .i64 0, .agg #[.int .i64 3, .string (Bs []), .string (Bs [97]), Sl.nil.v, Sl.nil.v]] w1 (Ret fun v w' => Mod (List.range w.heap.size) w1 w' ∧ (v = .int .i64 0 ∧ Dom (List.range w.heap.size) w' D (I.ins (.node 0 1 [] [] [] []) 0 (0 : Int).toNat (leaf 7 3 [] [97])))) := Ret.mono hI fun v w' h => ⟨h.2.1, h.1, h.2.2⟩
  refine CallK.mod hI' (by simp) ?_
  rintro v w2 hM2 ⟨rfl, hD2⟩
  have hR2 : I.ins (.node 0 1 [] [] [] []) 0 (0 : Int).toNat (leaf 7 3 [] [97]) = .node 0 1 [] [] [] [leaf 7 3 [] [97]] := by
    exact (I.ins_here (s := .node 0 1 [] [] [] []) (p := 0) _ _ rfl).trans rfl
  rw [hR2] at hD2
  have hE02 : Ext w w2 := Mod.fresh hE1 hM2 fun x hx => List.mem_range.2 hx
  have hk0 : kidsOf (.node 0 1 [] [] [] [leaf 7 3 [] [97]]) 0 = [7] := by
    unfold kidsOf; rw [find_top rfl]; rfl
  have hp7 : parOf (.node 0 1 [] [] [] [leaf 7 3 [] [97]]) 7 = 0 := by
    have hm : ((leaf 7 3 [] [97]), (0 : Int), 2) ∈ I.all (.node 0 1 [] [] [] [leaf 7 3 [] [97]]) (-1) 1 := I.all_kid (e := (I.node 0 1 [] [] [] [leaf 7 3 [] [97]], -1, 1)) (I.all_self _ _ _) (List.mem_singleton.2 rfl)
    have hf7 : I.find (.node 0 1 [] [] [] [leaf 7 3 [] [97]]) 7 = some (leaf 7 3 [] [97], 0, 2) := I.find_of hD2.okay.nodup hm
    unfold parOf
    rw [hf7]
  refine ⟨0, rfl, CallK.ext (domKids hD2 0) ?_⟩
  rintro v w3 hE3 ⟨s, rfl, hs⟩
  rw [hk0] at hs
  have hsn := hs.len
  obtain ⟨p, hp, hc⟩ := cellI hs.row (k := 0) rfl
  have hpar := domParent (hD2.ext hE3) 7
  rw [hp7] at hpar
  simp at hsn
  refine ⟨s, rfl, p, fun _ => ⟨⟨by omega, by omega⟩, hp⟩, 7, fun _ => hc, 0, fun _ => hpar, fun w4 hE4 => ⟨(hE02.trans hE3).trans hE4, ?_⟩⟩
  simp [hsn]

theorem check_span {R : I} (hR : R.Okay) : R.toT.span ≤ 900000 := by
  obtain ⟨h1, h2, _, _, _, h6, h7⟩ := I.check_iff.1 hR.check
  have key : ∀ s : I, nodeOk s.toT = true → s.toT.slots ≤ 12 * s.toT.size := I.ind' fun s ih hs => by
    rw [T.slots_eq, T.size_eq]
    have ha : s.toT.attrs.length ≤ 12 := by
      by_cases hk : s.kind = 2
      · have := ((I.node_el hk).1 hs).1
        simp only [Bool.and_eq_true, decide_eq_true_eq] at this
        rw [I.toT_attrs]; exact this.2.1
      · rw [nodeOk_ne (by rw [I.toT_kind]; exact hk)] at hs
        simp only [Bool.and_eq_true, List.isEmpty_iff] at hs
        rw [hs.1.1]; simp
    have hk : (s.toT.kids.map T.slots).sum ≤ (s.toT.kids.map fun u => 12 * u.size).sum := T.sum_le _ _ _ fun u hu => by
      rw [I.toT_kids] at hu
      obtain ⟨v, hv, rfl⟩ := List.mem_map.1 hu
      refine ih v hv ?_
      by_cases hk : s.kind = 2
      · exact (((I.node_el hk).1 hs).2 v hv).1
      · rw [I.node_ne hk hs] at hv; cases hv
    have e : ∀ l : List T, (l.map fun u => 12 * u.size).sum = 12 * (l.map T.size).sum := fun l => by
      induction l with
      | nil => rfl
      | cons a r ih => simp only [List.map_cons, List.sum_cons, ih]; omega
    rw [e] at hk; omega
  have h8 : R.toT.slots ≤ 12 * R.toT.size := by
    rw [T.slots_eq, T.size_eq, I.toT_attrs, h6]
    have hk : (R.toT.kids.map T.slots).sum ≤ (R.toT.kids.map fun u => 12 * u.size).sum := T.sum_le _ _ _ fun u hu => by
      rw [I.toT_kids] at hu
      obtain ⟨v, hv, rfl⟩ := List.mem_map.1 hu
      exact key v (h7 v hv)
    have e : ∀ l : List T, (l.map fun u => 12 * u.size).sum = 12 * (l.map T.size).sum := fun l => by
      induction l with
      | nil => rfl
      | cons a r ih => simp only [List.map_cons, List.sum_cons, ih]; omega
    rw [e] at hk
    simp only [List.length_nil]; omega
  have h9 := I.size_ids R
  unfold T.span; omega
end

section
open Go.RowKit Go.MapKept

theorem ins_attrs (s : I) (p : Int) (i : Nat) (u : I) : (s.ins p i u).attrs = s.attrs := by
  by_cases h : s.id = p
  · rw [I.ins_here i u h]; rfl
  · rw [I.ins_deep i u h]; rfl

/-- The first element has these attributes. -/
def First (R : I) (l : List (Str × Str)) : Prop := ∃ e, R.find 1 = some e ∧ e.1.kind = 2 ∧ e.1.attrs = l

theorem First.ins {R : I} {l : List (Str × Str)} (h : First R l) {p : Int} (i : Nat) (u : I) (hn : R.ids.Nodup) (hm : p ∈ R.ids) (hn' : (R.ins p i u).ids.Nodup) : First (R.ins p i u) l := by
  obtain ⟨e, he, h1, h2⟩ := h
  obtain ⟨e1, e2⟩ := I.find_some he
  have := I.find_of hn' (I.ins_other (u := u) i hn hm e1)
  rw [show (I.insE p i u e).1.id = 1 from (I.ins_id _ _ _ _).trans e2] at this
  exact ⟨_, this, by show (e.1.ins _ _ _).kind = 2; rw [I.ins_kind]; exact h1, by show (e.1.ins _ _ _).attrs = l; rw [ins_attrs]; exact h2⟩

/-- There is a node so deep. -/
def Deep (R : I) (n : Nat) : Prop := ∃ e ∈ R.all (-1) 1, e.2.2 = n

theorem Deep.ins {R : I} {n : Nat} (h : Deep R n) {p : Int} (i : Nat) (u : I) (hn : R.ids.Nodup) (hm : p ∈ R.ids) : Deep (R.ins p i u) n := by
  obtain ⟨e, he, h1⟩ := h
  exact ⟨_, I.ins_other (u := u) i hn hm he, h1⟩

structure Chain (R : I) (n : Nat) : Prop where
  okay : R.Okay
  ids : ∀ x, x ∈ R.ids ↔ 0 ≤ x ∧ x ≤ n
  len : R.ids.length = n + 1
  last : ∃ e, R.find (n : Int) = some e ∧ e.2.2 = n + 1 ∧ (e.1.kind = 1 ∨ e.1.kind = 2)
  first : n = 0 ∨ First R []

theorem one_a : (oneT 2 [97] []).check = true := by
  unfold T.check
  rw [T.size_eq, T.depth_eq]
  simp [oneT, T.kind, T.name, T.text, T.attrs, T.kids, kidsOk, T.size_eq, T.depth_eq]
  rw [nodeOk_el (by simp [T.kind])]; rfl

theorem one_t : (oneT 3 [] [116]).check = true := by
  unfold T.check
  rw [T.size_eq, T.depth_eq]
  simp [oneT, T.kind, T.name, T.text, T.attrs, T.kids, kidsOk, T.size_eq, T.depth_eq]
  rw [nodeOk_ne (by simp [T.kind])]; rfl

theorem one_c : (oneT 4 [] []).check = true := by
  unfold T.check
  rw [T.size_eq, T.depth_eq]
  simp [oneT, T.kind, T.name, T.text, T.attrs, T.kids, kidsOk, T.size_eq, T.depth_eq]
  rw [nodeOk_ne (by simp [T.kind])]; rfl

theorem insBad_no {R : I} {id kind : Int} {name text : Str} (h : id ∉ R.ids) (h1 : 1 ≤ id) (h2 : id ≤ 1048576) (hc : (oneT kind name text).check = true) : insBad R id kind name text = false := by
  unfold insBad
  rw [I.find_none.2 h, hc]
  simp; omega

theorem Chain.step {R : I} {n : Nat} (h : Chain R n) (hn : n + 1 < 60) : insE R ((n : Int) + 1) n 0 2 [97] [] = 0 ∧ Chain (R.ins n (0 : Int).toNat (leaf ((n : Int) + 1) 2 [97] [])) (n + 1) := by
  obtain ⟨e, he, hd, hk⟩ := h.last
  have hE : insE R ((n : Int) + 1) n 0 2 [97] [] = 0 := by
    unfold insE
    rw [insBad_no (fun hm => by have := (h.ids _).1 hm; omega) (by omega) (by omega) one_a, if_neg (by decide), if_neg (by rw [h.len]; omega), he]
    simp only
    rw [if_neg (by rcases hk with hk | hk <;> rw [hk] <;> decide), if_neg (by omega), if_neg (by omega)]
  obtain ⟨h1, h2, h3⟩ := ins_okay h.okay hE
  obtain ⟨e1, e2⟩ := I.find_some he
  have hperm := I.ins_ids (0 : Int).toNat (leaf ((n : Int) + 1) 2 [97] []) h.okay.nodup h3
  rw [leaf_ids] at hperm
  have hm := I.ins_mem (u := leaf ((n : Int) + 1) 2 [97] []) (0 : Int).toNat h.okay.nodup e1 e2
  have hf := I.find_of h1.nodup hm
  refine ⟨hE, h1, fun x => ?_, by rw [hperm.length_eq, List.length_append, h.len]; rfl, ⟨_, by rw [show ((n + 1 : Nat) : Int) = (leaf ((n : Int) + 1) 2 [97] []).id from by show ((n + 1 : Nat) : Int) = (n : Int) + 1; omega]; exact hf, by show e.2.2 + 1 = _; omega, .inr rfl⟩, .inr ?_⟩
  · rw [hperm.mem_iff, List.mem_append, h.ids, List.mem_singleton]; omega
  · rcases h.first with h0 | h0
    · subst h0
      exact ⟨_, hf, rfl, rfl⟩
    · exact h0.ins _ _ h.okay.nodup h3 h1.nodup

structure Wide (R : I) (m : Nat) (l : List (Str × Str)) : Prop where
  okay : R.Okay
  ids : ∀ x, x ∈ R.ids ↔ 0 ≤ x ∧ x < m
  len : R.ids.length = m
  deep : Deep R 60
  first : First R l

theorem Wide.step {R : I} {m : Nat} {l : List (Str × Str)} (h : Wide R m l) (h0 : 1 ≤ m) (hn : m < 300) : insE R m 0 0 4 [] [] = 0 ∧ Wide (R.ins 0 (0 : Int).toNat (leaf m 4 [] [])) (m + 1) l := by
  have hf0 : R.find 0 = some (R, -1, 1) := by have := I.find_root R; rwa [h.okay.root] at this
  have hk := (I.check_iff.1 h.okay.check).1
  have hE : insE R m 0 0 4 [] [] = 0 := by
    unfold insE
    rw [insBad_no (fun hm => by have := (h.ids _).1 hm; omega) (by omega) (by omega) one_c, if_neg (by decide), if_neg (by rw [h.len]; omega), hf0]
    simp only
    rw [if_neg (by rw [hk]; decide), if_neg (by omega), if_neg (by omega)]
  obtain ⟨h1, h2, h3⟩ := ins_okay h.okay hE
  have hperm := I.ins_ids (0 : Int).toNat (leaf m 4 [] []) h.okay.nodup h3
  rw [leaf_ids] at hperm
  refine ⟨hE, h1, fun x => ?_, by rw [hperm.length_eq, List.length_append, h.len]; rfl, h.deep.ins _ _ h.okay.nodup h3, h.first.ins _ _ h.okay.nodup h3 h1.nodup⟩
  rw [hperm.mem_iff, List.mem_append, h.ids, List.mem_singleton]; omega

/-- The names that are set, one behind the other. -/
def nameX (i : Nat) : Str := ([120] : Str) ++ ((([97, 98, 99, 100, 101, 102, 103, 104, 105, 106, 107, 108, 109, 110, 111, 112] : Str).drop i).take 1)

theorem nameX_ok : ∀ i : Fin 12, nameOk (nameX i.1) = true := by decide

theorem nameX_ne : ∀ i j : Fin 12, nameX i.1 = nameX j.1 → i = j := by decide

theorem nameX_y : ∀ i : Fin 12, nameX i.1 ≠ [121] := by decide

theorem hasA_with {l : List (Str × Str)} {n v k : Str} : hasA (withA l n v) k = true → k = n ∨ hasA l k = true := by
  intro h
  unfold hasA at h
  obtain ⟨p, hp, e⟩ := List.any_eq_true.1 h
  have e := of_decide_eq_true e
  unfold withA at hp
  have back : ∀ {p : Str × Str}, p ∈ l → p.1 = k → hasA l k = true := fun {p} hp e => by unfold hasA; exact List.any_eq_true.2 ⟨p, hp, decide_eq_true e⟩
  rcases List.mem_append.1 hp with hp | hp
  · exact .inr (back (List.mem_filter.1 hp).1 e)
  · rcases List.mem_cons.1 hp with rfl | hp
    · exact .inl e.symm
    · exact .inr (back (List.mem_filter.1 hp).1 e)

theorem hasA_self (l : List (Str × Str)) (n v : Str) : hasA (withA l n v) n = true := by
  unfold hasA withA
  exact List.any_eq_true.2 ⟨(n, v), by simp, by simp⟩

theorem hasA_keep {l : List (Str × Str)} {n v k : Str} (h : hasA l k = true) : hasA (withA l n v) k = true := by
  by_cases hk : k = n
  · rw [hk]; exact hasA_self l n v
  · unfold hasA at h ⊢
    obtain ⟨p, hp, e⟩ := List.any_eq_true.1 h
    have e' := of_decide_eq_true e
    refine List.any_eq_true.2 ⟨p, ?_, e⟩
    have hne : cmpS p.1 n ≠ 0 := fun h0 => hk (by rw [← e']; exact (cmpS_zero _ _).1 h0)
    unfold withA
    rcases Int.lt_or_gt_of_ne hne with h | h
    · exact List.mem_append_left _ (List.mem_filter.2 ⟨hp, decide_eq_true h⟩)
    · exact List.mem_append_right _ (List.mem_cons_of_mem _ (List.mem_filter.2 ⟨hp, decide_eq_true h⟩))

/-- So many names are set. -/
structure Named (l : List (Str × Str)) (k : Nat) : Prop where
  len : l.length = k
  has : ∀ i, i < k → hasA l (nameX i) = true
  only : ∀ n, hasA l n = true → ∃ i, i < k ∧ n = nameX i

theorem Wide.attrs {R : I} {m : Nat} {l : List (Str × Str)} (h : Wide R m l) : attrsOf R 1 = l ∧ attrsOk [] l = true ∧ ∃ e, R.find 1 = some e ∧ e.1.kind = 2 ∧ e.1.attrs = l := by
  obtain ⟨e, he, hk, ha⟩ := h.first
  obtain ⟨_, _, _, h4, _⟩ := elAttrs h.okay (I.find_some he).1 hk
  exact ⟨by unfold attrsOf; rw [he]; exact ha, by rw [← ha]; exact h4, e, he, hk, ha⟩

theorem Wide.upd {R : I} {m : Nat} {l : List (Str × Str)} (h : Wide R m l) (a : List (Str × Str)) (hR : (R.upd 1 [] a).Okay) : Wide (R.upd 1 [] a) m a := by
  obtain ⟨e, he, hk, ha⟩ := h.first
  obtain ⟨e1, e2⟩ := I.find_some he
  obtain ⟨d, hd, hd2⟩ := h.deep
  refine ⟨hR, fun x => by rw [I.upd_ids]; exact h.ids x, by rw [I.upd_ids]; exact h.len, ⟨(d.1.upd 1 [] a, d.2), by rw [I.upd_all]; exact List.mem_map_of_mem hd, hd2⟩, ?_⟩
  have hm : (e.1.upd 1 [] a, e.2) ∈ (R.upd 1 [] a).all (-1) 1 := by rw [I.upd_all]; exact List.mem_map_of_mem (f := fun e : I × Int × Nat => (e.1.upd 1 [] a, e.2)) e1
  have := I.find_of hR.nodup hm
  rw [show ((e.1.upd 1 [] a, e.2) : I × Int × Nat).1.id = 1 from (I.upd_id _ _ _ _).trans e2] at this
  exact ⟨_, this, by show (e.1.upd 1 [] a).kind = 2; rw [I.upd_kind]; exact hk, by show (e.1.upd 1 [] a).attrs = a; rw [I.upd_eq]; show (if e.1.id = 1 then a else e.1.attrs) = a; rw [if_pos e2]⟩

theorem Wide.set {R : I} {m k : Nat} {l : List (Str × Str)} (h : Wide R m l) (hN : Named l k) (hk : k < 12) : setE R 1 (nameX k) [118] = 0 ∧ ((R.upd 1 [] (withA (attrsOf R 1) (nameX k) [118])).Okay → Wide (R.upd 1 [] (withA (attrsOf R 1) (nameX k) [118])) m (withA l (nameX k) [118]) ∧ Named (withA l (nameX k) [118]) (k + 1)) := by
  obtain ⟨h1, h2, e, he, hk2, ha⟩ := h.attrs
  have hno : hasA l (nameX k) = false := by
    cases hh : hasA l (nameX k) with
    | false => rfl
    | true =>
      obtain ⟨i, hi, e⟩ := hN.only _ hh
      have := nameX_ne ⟨k, hk⟩ ⟨i, by omega⟩ e
      simp at this; omega
  constructor
  · unfold setE
    rw [he]
    simp only
    rw [if_neg (by rw [hk2]; decide), if_neg (by rw [nameX_ok ⟨k, hk⟩]; decide), if_neg (by rw [ha, hN.len]; rintro (h | h); simp at h; omega)]
  · intro hok
    rw [h1] at hok ⊢
    refine ⟨h.upd _ hok, ?_, fun i hi => ?_, fun n hn => ?_⟩
    · rw [withA_len h2, hno, if_neg (by decide), hN.len]
    · by_cases hik : i = k
      · rw [hik]; exact hasA_self _ _ _
      · exact hasA_keep (hN.has i (by omega))
    · rcases hasA_with hn with rfl | hn
      · exact ⟨k, by omega, rfl⟩
      · obtain ⟨i, hi, e⟩ := hN.only n hn
        exact ⟨i, by omega, e⟩

theorem callOk {A : List Nat} {f : FuncId} {args : Array Value} {w : World} {D : Nat} {R' : I} {E : Int} {bx : List Nat} {K : Value → World → Prop} (h : Calls Try.prog f args w (Ret fun v w' => v = .int .i64 E ∧ if E = 0 then Mod A w w' ∧ Dom A w' D R' else Ext w w')) (hE : E = 0) (hbx : ∀ b ∈ bx, b ∈ A) (k : ∀ w', Mod A w w' → Dom A w' D R' → K (.int .i64 0) w') : CallK Try.prog f args w bx K := by
  refine CallK.mod (R := fun v w' => v = .int .i64 0 ∧ Dom A w' D R') (Ret.mono h ?_) hbx ?_
  · rintro v w' ⟨rfl, h⟩
    rw [if_pos hE] at h
    rw [hE]; exact ⟨h.1, rfl, h.2⟩
  · rintro v w' hM ⟨rfl, hR2⟩
    exact k w' hM hR2

theorem callErr {A : List Nat} {f : FuncId} {args : Array Value} {w : World} {D : Nat} {R' : I} {E : Int} (h : Calls Try.prog f args w (Ret fun v w' => v = .int .i64 E ∧ if E = 0 then Mod A w w' ∧ Dom A w' D R' else Ext w w')) (hE : E ≠ 0) : Calls Try.prog f args w (Ret fun v w' => Ext w w' ∧ v = .int .i64 E) := by
  refine Ret.mono h ?_
  rintro v w' ⟨h1, h2⟩
  rw [if_neg hE] at h2
  exact ⟨h2, h1⟩

theorem domLimitsLaw (w : World) : Calls Try.prog 3 #[] w (Ret fun v w' => Ext w w' ∧ v = .bool true) := by
  refine law06_DomLimits.ok ?_
  unfold law06_DomLimits.vc
  refine CallK.ext (domNew (t := bare0) (bare0_rd w) (by unfold T.span; rw [T.size_eq, T.slots_eq]; simp [bare0, T.kids, T.attrs])) ?_
  rintro v w1 hE1 (⟨h, _⟩ | ⟨_, D, rfl, hD⟩)
  · rw [bare0_check] at h; cases h
  rw [num_bare] at hD
  have hch0 : Chain (.node 0 1 [] [] [] []) 0 := by
    have hi : I.ids (.node 0 1 [] [] [] []) = [0] := by rw [I.ids_eq]; rfl
    exact ⟨hD.okay, fun x => by rw [hi, List.mem_singleton]; omega, by rw [hi]; rfl, ⟨_, find_top rfl, rfl, .inl rfl⟩, .inl rfl⟩
  have hA : ∀ {w' : World}, w.heap.size ≤ w'.heap.size → ∀ b ∈ List.range w.heap.size, b < w'.heap.size := fun h b hb => Nat.lt_of_lt_of_le (List.mem_range.1 hb) h
  have fr : ∀ {a b : World}, Ext w a → Mod (List.range w.heap.size) a b → Ext w b := fun h1 h2 => Mod.fresh h1 h2 fun x hx => List.mem_range.2 hx
  refine ⟨_, 0, rfl, fun h => absurd rfl h, fun _ => ?_⟩
  refine ⟨fun i w' => ∃ (n : Nat) (R : I), i = (n : Int) + 1 ∧ n + 1 ≤ 60 ∧ Chain R n ∧ Dom (List.range w.heap.size) w' D R ∧ Ext w w', fun i _ => 60 - i.toNat, ⟨0, _, by omega, by omega, hch0, hD, hE1⟩, ?_⟩
  rintro _ w2 ⟨n, R, rfl, hn, hC, hDR, hE2⟩
  refine ⟨fun hlt => ?_, fun hge => ?_⟩
  · obtain ⟨h1, h2⟩ := hC.step (by omega)
    have hq : (n : Int) + 1 - 1 = (n : Int) := by omega
    rw [hq]
    refine ⟨⟨by omega, by omega⟩, callOk (domInsert hDR (hA hE2.size) ((n : Int) + 1) n 0 2 [97] []) h1 (by simp) fun w3 hM3 hD3 => ⟨0, rfl, fun h => absurd rfl h, fun _ => ⟨⟨by omega, by omega⟩, ⟨n + 1, _, by omega, by omega, h2, hD3, fr hE2 hM3⟩, by dsimp only; omega⟩⟩⟩
  have hn59 : n = 59 := by omega
  subst hn59
  have hdeep : Deep R 60 := by
    obtain ⟨e, he, hd, _⟩ := hC.last
    exact ⟨e, (I.find_some he).1, hd⟩
  have hW0 : Wide R 60 [] := ⟨hC.okay, fun x => by rw [hC.ids]; omega, hC.len, hdeep, by rcases hC.first with h | h; cases h; exact h⟩
  have hE900 : insE R 900 59 0 3 [] [116] = 2 := by
    obtain ⟨e, he, hd, hk⟩ := hC.last
    have he' : R.find 59 = some e := he
    unfold insE
    rw [insBad_no (fun hm => by have := (hC.ids _).1 hm; omega) (by omega) (by omega) one_t, if_neg (by decide), if_neg (by rw [hC.len]; omega), he']
    simp only
    rw [if_neg (by rcases hk with hk | hk <;> rw [hk] <;> decide), if_neg (by omega), if_pos (by omega)]
  have hcall := callErr (domInsert hDR (hA hE2.size) 900 59 0 3 [] [116]) (by rw [hE900]; decide)
  rw [hE900] at hcall
  refine CallK.exact hcall fun w3 hE3 => ⟨2, rfl, ?_⟩
  refine ⟨fun i w' => ∃ (m : Nat) (R : I), i = (m : Int) ∧ 60 ≤ m ∧ m ≤ 300 ∧ Wide R m [] ∧ Dom (List.range w.heap.size) w' D R ∧ Ext w w', fun i _ => 300 - i.toNat, ⟨60, R, rfl, by omega, by omega, hW0, hDR.ext hE3, hE2.trans hE3⟩, ?_⟩
  rintro _ w4 ⟨m, R4, rfl, hm1, hm2, hW, hD4, hE4⟩
  refine ⟨fun hlt => ?_, fun hge => ?_⟩
  · obtain ⟨h1, h2⟩ := hW.step (by omega) (by omega)
    exact callOk (domInsert hD4 (hA hE4.size) m 0 0 4 [] []) h1 (by simp) fun w5 hM5 hD5 => ⟨0, rfl, fun h => absurd rfl h, fun _ => ⟨⟨by omega, by omega⟩, ⟨m + 1, _, by omega, by omega, by omega, h2, hD5, fr hE4 hM5⟩, by dsimp only; omega⟩⟩
  have hm300 : m = 300 := by omega
  subst hm300
  have hE901 : insE R4 901 0 0 4 [] [] = 2 := by
    unfold insE
    rw [insBad_no (fun hm => by have := (hW.ids _).1 hm; omega) (by omega) (by omega) one_c, if_neg (by decide), if_pos (by rw [hW.len]; omega)]
  have hcall := callErr (domInsert hD4 (hA hE4.size) 901 0 0 4 [] []) (by rw [hE901]; decide)
  rw [hE901] at hcall
  refine CallK.exact hcall fun w5 hE5 => ⟨2, rfl, ?_⟩
  refine ⟨fun i w' => ∃ (k : Nat) (R : I) (l : List (Str × Str)), i = (k : Int) ∧ k ≤ 12 ∧ Wide R 300 l ∧ Named l k ∧ Dom (List.range w.heap.size) w' D R ∧ Ext w w', fun i _ => 12 - i.toNat, ⟨0, R4, [], rfl, by omega, hW, ⟨rfl, fun i hi => by omega, fun n hn => by simp [hasA] at hn⟩, hD4.ext hE5, hE4.trans hE5⟩, ?_⟩
  rintro _ w6 ⟨k, R6, l, rfl, hk, hW6, hN6, hD6, hE6⟩
  refine ⟨fun hlt => ?_, fun hge => ?_⟩
  · have hk12 : k < 12 := by omega
    obtain ⟨h1, h2⟩ := hW6.set hN6 hk12
    have e1 : ((k : Int) + 1).toNat - (k : Int).toNat = 1 := by omega
    rw [e1, Int.toNat_natCast]
    refine ⟨⟨by omega, by omega⟩, ⟨by omega, by omega, by simp; omega⟩, by simp; omega, ?_⟩
    exact callOk (domSet hD6 (hA hE6.size) 1 (nameX k) [118]) h1 (by simp) fun w7 hM7 hD7 => ⟨0, rfl, fun h => absurd rfl h, fun _ => by
      obtain ⟨g1, g2⟩ := h2 hD7.okay
      exact ⟨⟨by omega, by omega⟩, ⟨k + 1, _, _, by omega, by omega, g1, g2, hD7, fr hE6 hM7⟩, by dsimp only; omega⟩⟩
  have hk12 : k = 12 := by omega
  subst hk12
  obtain ⟨ha1, ha2, e, he, hke, hea⟩ := hW6.attrs
  have hy : hasA l [121] = false := by
    cases hh : hasA l [121] with
    | false => rfl
    | true =>
      obtain ⟨i, hi, e⟩ := hN6.only _ hh
      exact absurd e.symm (nameX_y ⟨i, hi⟩)
  have hEy : setE R6 1 [121] [118] = 2 := by
    unfold setE
    rw [he]
    simp only
    rw [if_neg (by rw [hke]; decide), if_neg (by decide), if_pos (.inr ⟨by rw [hea]; exact hy, by rw [hea, hN6.len]; omega⟩)]
  have hcy := callErr (domSet hD6 (hA hE6.size) 1 [121] [118]) (by rw [hEy]; decide)
  rw [hEy] at hcy
  have hxa : hasA l [120, 97] = true := hN6.has 0 (by omega)
  have hEx : setE R6 1 [120, 97] [119] = 0 := by
    unfold setE
    rw [he]
    simp only
    rw [if_neg (by rw [hke]; decide), if_neg (by decide), if_neg (by rw [hea, hxa]; rintro (h | h); simp at h; cases h.1)]
  refine ⟨fun r w' => r = 2 ∧ Dom (List.range w.heap.size) w' D R6 ∧ Ext w w', fun _ => CallK.exact hcy fun w7 hE7 => ⟨2, rfl, rfl, hD6.ext hE7, hE6.trans hE7⟩, fun hno => absurd ⟨rfl, rfl⟩ hno, ?_⟩
  rintro _ w7 ⟨rfl, hD7, hE7⟩
  refine ⟨fun r w' => r = 0 ∧ Ext w w' ∧ ∃ R, Dom (List.range w.heap.size) w' D R ∧ R.ids.length = 300 ∧ Deep R 60, fun _ => ?_, fun hno => absurd ⟨⟨rfl, rfl⟩, rfl⟩ hno, ?_⟩
  · exact callOk (domSet hD7 (hA hE7.size) 1 [120, 97] [119]) hEx (by simp) fun w8 hM8 hD8 => ⟨0, rfl, rfl, fr hE7 hM8, _, hD8, (hW6.upd _ hD8.okay).len, (hW6.upd _ hD8.okay).deep⟩
  rintro _ w8 ⟨rfl, hE8, R8, hD8, hl8, hd8⟩
  have hlen := domLen hD8
  rw [hl8] at hlen
  have hR8 := hD8.okay
  have hdep : R8.toT.depth = 60 := by
    obtain ⟨d, hd, h60⟩ := hd8
    have h1 := I.depth_sub R8 (-1) 1 d hd
    have h2 := I.depth_pos d.1
    have h3 := (I.check_iff.1 hR8.check).2.2.1
    omega
  have hspan : R8.toT.span ≤ 1099511627776 := by have := check_span hR8; omega
  refine ⟨300, fun _ => hlen, fun w9 hE9 => ⟨fun kd n x a b w' => kd = R8.toT.kind ∧ n = R8.toT.name ∧ x = R8.toT.text ∧ RdT [] w' R8.toT a b, fun _ => ?_, fun kd n x a b w10 hE10 hV => ?_⟩⟩
  · refine Ret.mono (domTree (hD8.ext hE9)) ?_
    rintro v w' ⟨h1, sa, sk', h2, h3⟩
    exact ⟨h1, _, _, _, sa, sk', h2, rfl, rfl, rfl, h3.less (by simp)⟩
  obtain ⟨rfl, rfl, rfl, hrd⟩ := hV ⟨⟨⟨⟨rfl, rfl⟩, rfl⟩, rfl⟩, rfl⟩
  have hdc := treeDepthS R8.toT hspan hrd
  rw [hdep] at hdc
  refine ⟨60, fun _ => hdc, fun w11 hE11 => ⟨true, fun _ => domAwake w11, fun w12 hE12 => ⟨hE8.trans (((hE9.trans hE10).trans hE11).trans hE12), rfl⟩⟩⟩
end


end Go.Proofs.Ytghmgfkdnolcdaa
