/-
  What the proof of the statement leans on: texts one behind the other.
-/
import Derived.Test.YteacalmdpoblpaaGreatQCodecBase2
import Derived.Test.YteacalmdpoblpaaGreatQCodecBase1
import Derived.Test.YteacalmdpoblpaaGreatQCodecBaseGlaw24CodecBase
namespace Go.Proofs.YteacalmdpoblpaaGreat
section
open Go.RowKit
def look (L : List Rec) (x : Int) : Option Rec := L.find? fun r => decide (r.id = x)
namespace I
def find (s : I) (x : Int) : Option (I × Int × Nat) := (s.all (-1) 1).find? fun e => decide (e.1.id = x)
theorem find_some {s : I} {x : Int} {e : I × Int × Nat} (h : s.find x = some e) : e ∈ s.all (-1) 1 ∧ e.1.id = x :=
 ⟨List.mem_of_find?_eq_some h, by simpa using List.find?_some h⟩
theorem find_none {s : I} {x : Int} : s.find x = none ↔ x ∉ s.ids := by
 rw [← all_ids s (-1) 1]
 unfold find
 rw [List.find?_eq_none]
 simp
theorem find_of {s : I} (hn : s.ids.Nodup) {e : I × Int × Nat} (h : e ∈ s.all (-1) 1) : s.find e.1.id = some e := by
 cases hl : s.find e.1.id with
 |none => exact absurd (mem_all h) (find_none.1 hl)
 |some q =>
  obtain ⟨h1, h2⟩ := find_some hl
  rw [all_inj hn h1 h h2]
theorem all_self (s : I) (p : Int) (d : Nat) : (s, p, d) ∈ s.all p d := by rw [all_eq]; exact List.mem_cons_self ..
theorem all_sub : ∀ (s : I) (p : Int) (d : Nat), ∀ e ∈ s.all p d, ∀ f ∈ e.1.all e.2.1 e.2.2, f ∈ s.all p d := ind' fun s ih p d e he f hf => by
 rw [all_eq] at he
 rcases List.mem_cons.1 he with rfl | he
 ·exact hf
 ·obtain ⟨u, hu, heu⟩ := List.mem_flatMap.1 he
  rw [all_eq]
  exact List.mem_cons_of_mem _ (List.mem_flatMap.2 ⟨u, hu, ih u hu s.id (d + 1) e heu f hf⟩)
theorem all_kid {s : I} {p : Int} {d : Nat} {e : I × Int × Nat} (he : e ∈ s.all p d) {u : I} (hu : u ∈ e.1.kids) : (u, e.1.id, e.2.2 + 1) ∈ s.all p d := by
 refine all_sub s p d e he _ ?_
 rw [all_eq e.1]
 exact List.mem_cons_of_mem _ (List.mem_flatMap.2 ⟨u, hu, all_self _ _ _⟩)
theorem sub_ids {s : I} {p : Int} {d : Nat} {e : I × Int × Nat} (he : e ∈ s.all p d) : ∀ x ∈ e.1.ids, x ∈ s.ids := fun x hx => by
 obtain ⟨f, hf, rfl⟩ := all_mem hx e.2.1 e.2.2
 exact mem_all (all_sub s p d e he f hf)
theorem sub_nodup : ∀ (s : I), s.ids.Nodup → ∀ (p : Int) (d : Nat), ∀ e ∈ s.all p d, e.1.ids.Nodup := ind' fun s ih hn p d e he => by
 rw [all_eq] at he
 rcases List.mem_cons.1 he with rfl | he
 ·exact hn
 ·obtain ⟨u, hu, heu⟩ := List.mem_flatMap.1 he
  exact ih u hu (nodup_kid (nodup_kids hn).2 u hu) s.id (d + 1) e heu
theorem size_ids : ∀ s : I, s.toT.size = s.ids.length := ind' fun s ih => by
 rw [toT_eq, T.size_eq, ids_eq, List.length_cons, List.length_flatMap]
 simp only [T.kids, List.map_map]
 rw [show s.kids.map (T.size ∘ toT) = s.kids.map (fun u => u.ids.length) from List.map_congr_left fun u hu => ih u hu]
 omega
theorem toT_kind (s : I) : s.toT.kind = s.kind := by rw [toT_eq]; rfl
theorem toT_name (s : I) : s.toT.name = s.name := by rw [toT_eq]; rfl
theorem toT_text (s : I) : s.toT.text = s.text := by rw [toT_eq]; rfl
theorem toT_attrs (s : I) : s.toT.attrs = s.attrs := by rw [toT_eq]; rfl
theorem toT_kids (s : I) : s.toT.kids = s.kids.map toT := by rw [toT_eq]; rfl
theorem kidsOk_toT (s : I) : kidsOk s.toT = s.kids.all fun u => nodeOk u.toT && !(decide (u.kind = 5) && !(decide (s.kind = 1))) := by
 unfold kidsOk
 rw [toT_kids, List.all_map, toT_kind]
 congr 1
 funext u
 simp only [Function.comp_apply, toT_kind]
def nodes (s : I) : List I := (s.all 0 0).map fun e => e.1
theorem check_iff {s : I} : s.toT.check = true ↔ s.kind = 1 ∧ s.ids.length ≤ 300 ∧ s.toT.depth ≤ 60 ∧ s.name = [] ∧ s.text = [] ∧ s.attrs = [] ∧ ∀ u ∈ s.kids, nodeOk u.toT = true := by
 unfold T.check
 rw [kidsOk_toT, size_ids, toT_kind, toT_name, toT_text, toT_attrs]
 simp only [Bool.and_eq_true, decide_eq_true_eq, List.all_eq_true, List.isEmpty_iff]
 constructor
 ·rintro ⟨⟨⟨⟨⟨h1, h2⟩, h3⟩, h4, h5⟩, h6⟩, h7⟩
  exact ⟨h1, h2, h3, h4, h5, h6, fun u hu => (h7 u hu).1⟩
 ·rintro ⟨h1, h2, h3, h4, h5, h6, h7⟩
  exact ⟨⟨⟨⟨⟨h1, h2⟩, h3⟩, h4, h5⟩, h6⟩, fun u hu => ⟨h7 u hu, by simp [h1]⟩⟩
structure Okay (s : I) : Prop where
 check : s.toT.check = true
 nodup : s.ids.Nodup
 rng : ∀ x ∈ s.ids, 0 ≤ x ∧ x ≤ 1048576
 root : s.id = 0
def holds (a b : Int) : Bool := decide (a = 1) || (decide (a = 2) && !(decide (b = 5)))
mutual
def num : T → Nat → I
 |.node k n x a ks, i => .node (i : Int) k n x a (numL ks (i + 1))
def numL : List T → Nat → List I
 |[], _ => []
 |t :: r, i => num t i :: numL r (i + t.size)
end
theorem num_eq (t : T) (i : Nat) : num t i = .node (i : Int) t.kind t.name t.text t.attrs (numL t.kids (i + 1)) := by cases t; rw [num]; rfl
theorem num_id (t : T) (i : Nat) : (num t i).id = i := by rw [num_eq]; rfl
theorem numL_toT : ∀ (ks : List T), (∀ t ∈ ks, ∀ i, (num t i).toT = t) → ∀ i, (numL ks i).map toT = ks
 |[], _, i => by rw [numL]; rfl
 |t :: r, h, i => by
  rw [numL, List.map_cons, h t (by simp) i, numL_toT r (fun u hu => h u (by simp [hu])) (i + t.size)]
theorem num_toT : ∀ (t : T) (i : Nat), (num t i).toT = t := T.ind' fun t ih i => by
 rw [num_eq, toT_eq]
 simp only [mk_kind, mk_name, mk_text, mk_attrs, mk_kids]
 rw [numL_toT t.kids ih]
 cases t; rfl
theorem numL_ids : ∀ (ks : List T), (∀ t ∈ ks, ∀ i, (num t i).ids = (List.range' i t.size).map fun n : Nat => (n : Int)) → ∀ i, (numL ks i).flatMap ids = (List.range' i (ks.map T.size).sum).map fun n : Nat => (n : Int)
 |[], _, i => by rw [numL]; rfl
 |t :: r, h, i => by
  rw [numL, List.flatMap_cons, h t (by simp) i, numL_ids r (fun u hu => h u (by simp [hu])) (i + t.size), ← List.map_append, List.map_cons, List.sum_cons]
  rw [List.range'_append_1]
theorem num_ids : ∀ (t : T) (i : Nat), (num t i).ids = (List.range' i t.size).map fun n : Nat => (n : Int) := T.ind' fun t ih i => by
 rw [ids_eq, num_eq]
 simp only [mk_id, mk_kids]
 rw [numL_ids t.kids ih, T.size_eq t, Nat.add_comm 1, List.range'_succ, List.map_cons]
theorem num_okay {t : T} (h : t.check = true) : (num t 0).Okay := by
 have hs : t.size ≤ 300 := by
  unfold T.check at h
  simp only [Bool.and_eq_true, decide_eq_true_eq] at h
  exact h.1.1.1.1.2
 refine ⟨by rw [num_toT]; exact h, ?_, fun x hx => ?_, by rw [num_id]; rfl⟩
 ·rw [num_ids]
  exact List.Pairwise.map (fun n : Nat => (n : Int)) (fun a b (hab : a ≠ b) => show (a : Int) ≠ (b : Int) by omega) (show List.Pairwise (· ≠ ·) (List.range' 0 t.size) from List.nodup_range' 1)
 ·rw [num_ids] at hx
  obtain ⟨n, hn, rfl⟩ := List.mem_map.1 hx
  have := List.mem_range'_1.1 hn
  omega
end I
end
section
open Go.RowKit Go.MapKept
structure Nd where
 r : Rec
 sa : Sl
 sk : Sl
def ndc (x : Nd) : List Value := [.int .i64 x.r.id, .int .i64 x.r.par, .int .i64 x.r.kind, .string (Bs x.r.name), .string (Bs x.r.text), x.sa.v, Sl.nil.v, x.sk.v]
def numV (z : Int) : Value := .int .i64 z
theorem keyNum (z : Int) : IsKey (.int .i64) (numV z) := rfl
theorem numV_inj (x y : Int) (h : numV x = numV y) : x = y := by injection h
theorem tiNum : TI Tryz.prog 3 (.int .i64 0) 1 8 := TI.of (by kernel_rfl)
def findAt : List Nd → Int → Nat → Option Nat
 |[], _, _ => none
 |x :: r, k, i => if x.r.id = k then some i else findAt r k (i + 1)
theorem findAt_spec : ∀ (X : List Nd) (k : Int) (i : Nat), (findAt X k i = none ∧ ∀ x ∈ X, x.r.id ≠ k) ∨ ∃ j x, findAt X k i = some (i + j) ∧ X[j]? = some x ∧ x.r.id = k
 |[], k, i => .inl ⟨rfl, by simp⟩
 |y :: r, k, i => by
  rw [findAt]
  by_cases h : y.r.id = k
  ·rw [if_pos h]; exact .inr ⟨0, y, rfl, rfl, h⟩
  ·rw [if_neg h]
   rcases findAt_spec r k (i + 1) with ⟨h1, h2⟩ | ⟨j, x, h1, h2, h3⟩
   ·exact .inl ⟨h1, fun x hx => by rcases List.mem_cons.1 hx with rfl | hx; exact h; exact h2 x hx⟩
   ·exact .inr ⟨j + 1, x, by rw [h1]; congr 1; omega, by simpa using h2, h3⟩
structure Arena (A : List Nat) (w : World) (D : Nat) (l : Sl) (M : Nat) (m : List (Int × Value)) (X : List Nd) : Prop where
 box : Box w D 195 [l.v, .map (some M)]
 dA : D ∉ A
 mA : M ∉ A
 row : Own A w l 8 197 (X.map ndc)
 sa : ∀ x ∈ X, Own A w x.sa 2 91 (x.r.attrs.map ac)
 sk : ∀ x ∈ X, Own A w x.sk 1 3 (x.r.kids.map ic)
 apart : ∀ (i j : Nat) (x y : Nd), i ≠ j → X[i]? = some x → X[j]? = some y → (∀ b ∈ x.sa.blk, b ∉ y.sa.blk) ∧ ∀ b ∈ x.sk.blk, b ∉ y.sk.blk
 map : MapIs numV (.int .i64) w M m
 keys : ∀ k, mget m k = (findAt X k 0).map fun i => numV (i : Int)
 mkeys : (m.map fun p => p.1).Nodup
 nodup : (X.map fun x => x.r.id).Nodup
 few : X.length ≤ 1000000
 fit : ∀ x ∈ X, x.r.attrs.length ≤ 1000000 ∧ x.r.kids.length ≤ 1000000
theorem MapIs.box {κ : Type} {f : κ → Value} {d : TypeDesc} {w : World} {M B : Nat} {m : List (κ × Value)} {T : TypeId} {cs : List Value} (h : MapIs f d w M m) (hB : Box w B T cs) : M ≠ B := by
 obtain ⟨es, clock, h1, _⟩ := h.at_
 intro e
 unfold Box at hB
 rw [e, hB] at h1; cases h1
theorem Own.box {A : List Nat} {w : World} {s : Sl} {size : Nat} {T : TypeId} {vs : List (List Value)} (h : Own A w s size T vs) : s = Sl.nil ∨ ∃ g cur, s.a = some ⟨g, 0, none⟩ ∧ s.blk = [g] ∧ Box w g T cur := by
 rcases h.at_ with e | ⟨g, cur, h1, _, h3, _⟩
 ·exact .inl e
 ·exact .inr ⟨g, cur, h1, by simp [Sl.blk, h1], h3⟩
theorem Own.noMap {κ : Type} {A : List Nat} {w : World} {s : Sl} {size : Nat} {T : TypeId} {vs : List (List Value)} {f : κ → Value} {d : TypeDesc} {M : Nat} {m : List (κ × Value)} (h : Own A w s size T vs) (k : MapIs f d w M m) : M ∉ s.blk := by
 rcases h.box with e | ⟨g, cur, h1, h2, h3⟩
 ·rw [e]; simp [Sl.blk, Sl.nil]
 ·rw [h2]; simpa using k.box h3
section
variable {A : List Nat} {w w' : World} {D : Nat} {l : Sl} {M : Nat} {m : List (Int × Value)} {X : List Nd}
theorem Arena.chg {F : List Nat} (h : Arena A w D l M m X) (c : Chg F w w') (hF : ∀ b ∈ F, b ∈ A) : Arena A w' D l M m X :=
 ⟨h.box.keep c (fun hm => h.dA (hF _ hm)), h.dA, h.mA, h.row.chg c hF, fun x hx => (h.sa x hx).chg c hF, fun x hx => (h.sk x hx).chg c hF, h.apart, h.map.chg c (fun hm => h.mA (hF _ hm)), h.keys, h.mkeys, h.nodup, h.few, h.fit⟩
theorem Arena.ext (h : Arena A w D l M m X) (c : Ext w w') : Arena A w' D l M m X := h.chg c (by simp)
theorem Arena.wide {A' : List Nat} (h : Arena A w D l M m X) (hA : ∀ b ∈ A', b ∈ A ∨ w.heap.size ≤ b) : Arena A' w D l M m X := by
 have av : ∀ {s : Sl} {size : Nat} {T : TypeId} {vs : List (List Value)}, Own A w s size T vs → Own A' w s size T vs := fun ho => ho.avoid fun b hb hm => by
  have h2 := ho.blk b hb
  rcases hA b hm with h3 | h3
  ·exact h2.1 h3
  ·omega
 refine ⟨h.box, fun hm => ?_, fun hm => ?_, av h.row, fun x hx => av (h.sa x hx), fun x hx => av (h.sk x hx), h.apart, h.map, h.keys, h.mkeys, h.nodup, h.few, h.fit⟩
 ·rcases hA _ hm with h3 | h3
  ·exact h.dA h3
  ·have := h.box.lt; omega
 ·rcases hA _ hm with h3 | h3
  ·exact h.mA h3
  ·have := h.map.lt; omega
theorem Arena.at (h : Arena A w D l M m X) {i : Nat} {x : Nd} (hi : X[i]? = some x) : ∃ g, l.a = some ⟨g, 0, none⟩ ∧ l.blk = [g] ∧ Cells w ⟨g, i * 8, none⟩ (ndc x) := by
 obtain ⟨hil, _⟩ := List.getElem?_eq_some_iff.1 hi
 rcases h.row.box with e | ⟨g, cur, h1, h2, h3⟩
 ·have := h.row.len
  rw [e] at this; simp [Sl.nil] at this; omega
 ·refine ⟨g, h1, h2, ?_⟩
  have := h.row.row.cells1 (i := i) (by simpa using hil) h1
  rw [Addr.add_lit, Nat.zero_add] at this
  rwa [List.getD_eq_getElem?_getD, List.getElem?_map, hi] at this
theorem domNode (h : Arena A w D l M m X) (id : Int) :
  Calls Tryz.prog 140 #[.pointer (some ⟨D, 0, none⟩), .int .i64 id] w (Ret fun v w' => Ext w w' ∧ (((∀ x ∈ X, x.r.id ≠ id) ∧ v = .pointer none) ∨ ∃ i x g, X[i]? = some x ∧ x.r.id = id ∧ l.a = some ⟨g, 0, none⟩ ∧ v = .pointer (some ⟨g, i * 8, none⟩))) := by
 refine dom_Dom_node.ok _ _ ?_
 unfold dom_Dom_node.vc
 have hlk := (lookup_run keyNum numV_inj Tryz.underlying193 Tryz.underlying3 (tiNum.zeroValue w) h.map id).1
 rw [h.keys] at hlk
 have hc := h.box.cell
 rcases findAt_spec X id 0 with ⟨h1, h2⟩ | ⟨i, x, h1, h2, h3⟩
 ·rw [h1] at hlk
  exact ⟨some M, by rw [Addr.add_lit]; exact hc 1 _ rfl, 0, false, hlk, fun _ => ⟨Chg.refl _ _, .inl ⟨h2, rfl⟩⟩, fun hb => by cases hb⟩
 ·rw [h1, Nat.zero_add] at hlk
  obtain ⟨g, hg, _, _⟩ := h.at h2
  have hn := h.row.len
  rw [List.length_map] at hn
  obtain ⟨hil, _⟩ := List.getElem?_eq_some_iff.1 h2
  refine ⟨some M, by rw [Addr.add_lit]; exact hc 1 _ rfl, (i : Int), true, hlk, fun hb => (by cases hb), fun _ => ⟨l, by rw [Addr.add_lit]; exact hc 0 _ rfl, ⟨by omega, by omega⟩, ⟨g, 0, none⟩, hg, Chg.refl _ _, .inr ⟨i, x, g, h2, h3, hg, ?_⟩⟩⟩
  rw [Addr.add_lit, Nat.zero_add, Int.toNat_natCast]
end
def Dom (A : List Nat) (w : World) (D : Nat) (R : I) : Prop := ∃ l M m X, Arena A w D l M m X ∧ (X.map Nd.r).Perm (R.recs (-1)) ∧ R.Okay
section
variable {A : List Nat} {w w' : World} {D : Nat} {R : I}
theorem Dom.ext (h : Dom A w D R) (c : Ext w w') : Dom A w' D R := by
 obtain ⟨l, M, m, X, h1, h2⟩ := h; exact ⟨l, M, m, X, h1.ext c, h2⟩
theorem Dom.chg {F : List Nat} (h : Dom A w D R) (c : Chg F w w') (hF : ∀ b ∈ F, b ∈ A) : Dom A w' D R := by
 obtain ⟨l, M, m, X, h1, h2⟩ := h; exact ⟨l, M, m, X, h1.chg c hF, h2⟩
theorem Dom.wide {A' : List Nat} (h : Dom A w D R) (hA : ∀ b ∈ A', b ∈ A ∨ w.heap.size ≤ b) : Dom A' w D R := by
 obtain ⟨l, M, m, X, h1, h2⟩ := h; exact ⟨l, M, m, X, h1.wide hA, h2⟩
theorem Dom.okay (h : Dom A w D R) : R.Okay := by obtain ⟨l, M, m, X, h1, h2, h3⟩ := h; exact h3
theorem recOf {X : List Nd} (hp : (X.map Nd.r).Perm (R.recs (-1))) (hR : R.Okay) {i : Nat} {x : Nd} (hi : X[i]? = some x) : ∃ e, R.find x.r.id = some e ∧ x.r = e.1.rec0 e.2.1 := by
 have hm : x.r ∈ R.recs (-1) := hp.mem_iff.1 (List.mem_map_of_mem (List.mem_of_getElem? hi))
 unfold I.recs at hm
 obtain ⟨e, he, hx⟩ := List.mem_map.1 hm
 refine ⟨e, ?_, hx.symm⟩
 rw [← hx]
 exact I.find_of hR.nodup he
theorem recNone {X : List Nd} (hp : (X.map Nd.r).Perm (R.recs (-1))) {id : Int} (h : ∀ x ∈ X, x.r.id ≠ id) : R.find id = none := by
 rw [I.find_none, ← I.recs_id R (-1), ← (hp.map Rec.id).mem_iff, List.map_map]
 intro hm
 obtain ⟨x, hx, e⟩ := List.mem_map.1 hm
 exact h x hx e
end
end
section
open Go.RowKit Go.MapKept
section
variable {A : List Nat} {w w' : World} {D : Nat} {R : I}
theorem nodup_len : ∀ {l m : List Int}, l.Nodup → (∀ x ∈ l, x ∈ m) → l.length ≤ m.length
 |[], m, _, _ => Nat.zero_le _
 |a :: r, m, hn, hs => by
  obtain ⟨h1, h2⟩ := List.nodup_cons.1 hn
  have ha := hs a (by simp)
  have ih := nodup_len (l := r) (m := m.erase a) h2 fun x hx => (List.mem_erase_of_ne (fun e => h1 (by rw [← e]; exact hx))).2 (hs x (by simp [hx]))
  have := List.length_erase_of_mem ha
  have := List.length_pos_of_mem ha
  simp only [List.length_cons]; omega
theorem kids_few (hR : R.Okay) {e : I × Int × Nat} (he : e ∈ R.all (-1) 1) : e.1.kids.length ≤ 300 := by
 have h1 := (I.check_iff.1 hR.check).2.1
 have h2 : e.1.kids.length ≤ e.1.ids.length := by
  rw [I.ids_eq, List.length_cons, List.length_flatMap]
  have : ∀ l : List I, l.length ≤ (l.map fun a => a.ids.length).sum := fun l => by
   induction l with
   |nil => simp
   |cons a r ih =>
    have := List.length_pos_of_mem (I.id_mem a)
    simp only [List.map_cons, List.sum_cons, List.length_cons]; omega
  have := this e.1.kids; omega
 have h3 : e.1.ids.length ≤ R.ids.length := by
  have hs := I.sub_nodup R hR.nodup (-1) 1 e he
  have := I.sub_ids he
  exact nodup_len hs this
 omega
end
end
section
open Go.RowKit Go.MapKept
theorem takeI {l : List I} {k : Nat} (h : k < l.length) : l.take (k + 1) = l.take k ++ [l[k]] := List.take_succ_eq_append_getElem h
section
variable {A : List Nat} {D : Nat} {R : I}
theorem domSub : ∀ (s : I) {w : World}, Dom A w D R → ∀ (p : Int) (d : Nat), (s, p, d) ∈ R.all (-1) 1 → Calls Tryz.prog 116 #[.pointer (some ⟨D, 0, none⟩), .int .i64 s.id] w (Ret fun v w' => Ext w w' ∧ ∃ sa sk : Sl, v = tv s.toT sa sk ∧ RdT (List.range w.heap.size) w' s.toT sa sk) := I.ind' fun s ih w h p d hs => by
 have hR := h.okay
 have h0 := h
 obtain ⟨l, M, m, X, h1, h2, h3⟩ := h
 refine dom_Dom_tree.ok _ _ ?_
 unfold dom_Dom_tree.vc
 intro w1 B1 hN1 hE1
 have hb1 := hN1.ge
 refine CallK.ext (domNode (h1.ext hE1) s.id) ?_
 rintro v w2 hE2 (⟨hn, rfl⟩ | ⟨i, x, g, hi, hx, hg, rfl⟩)
 ·have := recNone h2 hn
  rw [I.find_of hR.nodup hs] at this; cases this
 obtain ⟨e, he, hr⟩ := recOf h2 h3 hi
 rw [hx, I.find_of hR.nodup hs] at he
 cases he
 have hE02 := hE1.trans hE2
 obtain ⟨g', hg', hgb, hc⟩ := (h1.ext hE02).at hi
 rw [hg] at hg'; cases hg'
 have hx' := List.mem_of_getElem? hi
 have hfit := h1.fit x hx'
 refine ⟨some ⟨g, i * 8, none⟩, rfl, _, rfl, x.r.kind, x.r.name, x.r.text, x.sa, Sl.nil, ?_, fun w3 B3 hN3 hE3 => ?_⟩
 ·intro j v hv
  rw [Addr.add_add]
  refine hc (2 + j) v ?_
  have e : ndc x = [.int .i64 x.r.id, .int .i64 x.r.par] ++ ([.int .i64 x.r.kind, .string (Bs x.r.name), .string (Bs x.r.text), x.sa.v, Sl.nil.v] ++ [x.sk.v]) := rfl
  rw [e, List.getElem?_append_right (by simp), List.length_cons, List.length_singleton, show 2 + j - (1 + 1) = j by omega, List.getElem?_append_left (List.getElem?_eq_some_iff.1 hv).1]
  exact hv
 have hb3 := hN3.ge
 have hE03 := hE02.trans hE3
 refine CallK.ext (cloneAttrs ((h1.ext hE03).sa x hx').row (by omega)) ?_
 rintro v w4 hE4 ⟨sa', rfl, hsa⟩
 refine ⟨sa', rfl, _, rfl, fun w5 hC5 => ?_⟩
 have hE04 := hE03.trans hE4
 have h5E : Ext w w5 := Chg.fresh hE04 hC5 (by simp only [List.mem_singleton]; rintro b rfl; have := hE02.size; omega)
 have h35 : w3.heap.size ≤ w5.heap.size := Nat.le_trans hE4.size hC5.size
 have hsa5 : Own (List.range w3.heap.size) w5 sa' 2 91 (s.attrs.map ac) := by
  have := hsa.chg hC5 fun b hb => by simp only [List.mem_singleton] at hb; subst hb; exact List.mem_range.2 hN3.lt
  rwa [hr] at this
 obtain ⟨g', hg', hgb, hc5⟩ := (h1.ext h5E).at hi
 rw [hg] at hg'; cases hg'
 have hk5 := (h1.ext h5E).sk x hx'
 have hkr : x.r.kids = s.kids.map I.id := by rw [hr]; rfl
 rw [hkr] at hk5
 have hkn := hk5.len
 simp only [List.length_map] at hkn
 have hkf := kids_few hR hs
 simp only at hkf
 refine ⟨x.sk, hc5 7 _ rfl, fun j c w' => ∃ k : Nat, j = (k : Int) ∧ k ≤ s.kids.length ∧ Nur (List.range w3.heap.size) w' c ((s.kids.take k).map I.toT) ∧ Own (List.range w3.heap.size) w' sa' 2 91 (s.attrs.map ac) ∧ (∀ b ∈ c.blk, b ∉ sa'.blk) ∧ w5.heap.size ≤ w'.heap.size ∧ Ext w w', fun j _ _ => s.kids.length - j.toNat, ⟨0, rfl, by omega, Nur.nil _ _, hsa5, by simp [Sl.blk], Nat.le_refl _, h5E⟩, ?_⟩
 rintro _ c w6 ⟨k, rfl, hk, hNur, hA6, hdis, hsz, hE6⟩
 rw [Int.toNat_natCast]
 refine ⟨fun hlt => ?_, fun hge w7 hC7 => ?_⟩
 ·have hk' : k < s.kids.length := by omega
  have hum : s.kids[k] ∈ s.kids := List.getElem_mem hk'
  have hgd : (s.kids.map I.id).getD k 0 = s.kids[k].id := by simp [List.getD_eq_getElem?_getD, hk']
  have hk6 := (h1.ext hE6).sk x hx'
  rw [hkr] at hk6
  obtain ⟨q, hq, hcq⟩ := hk6.row.int (k := k) (by simpa using hk')
  rw [hgd] at hcq
  refine ⟨⟨by omega, hlt⟩, q, hq, _, hcq, fun w7 hE7 => ⟨fun kd n t a b w' => kd = s.kids[k].toT.kind ∧ n = s.kids[k].toT.name ∧ t = s.kids[k].toT.text ∧ RdT (List.range w7.heap.size) w' s.kids[k].toT a b, fun _ _ _ _ _ w' w'' hE hv => ⟨hv.1, hv.2.1, hv.2.2.1, hv.2.2.2.ext hE⟩, fun w' hE => ?_, ?_⟩⟩
  ·refine Ret.mono (ih _ hum (h0.ext (hE6.trans (hE7.trans hE))) s.id (d + 1) (I.all_kid hs hum)) ?_
   rintro v w'' ⟨h1, a, b, rfl, h2⟩
   exact ⟨h1, _, _, _, a, b, rfl, rfl, rfl, rfl, h2.less fun b hb => List.mem_range.2 (Nat.lt_of_lt_of_le (List.mem_range.1 hb) hE.size)⟩
  rintro w8 _ _ _ a b B8 hE8 ⟨rfl, rfl, rfl, hV⟩ hB8 hbox8 _
  have hE68 : Ext w6 w8 := hE7.trans hE8
  have hA8 : ∀ b ∈ List.range w3.heap.size, b < w8.heap.size := fun b hb => by
   have := List.mem_range.1 hb; have := hE68.size; omega
  refine (hNur.ext hE68).push hA8 hbox8 ?_ (by simp; omega) ?_ fun s' w9 hN hC hbl => ⟨s', rfl, ⟨by omega, by omega⟩, fun w10 hC10 => ⟨⟨k + 1, by omega, by omega, ?_, ?_, ?_, ?_, ?_⟩, by dsimp only; omega⟩⟩
  ·refine hV.less fun y hy => List.mem_range.2 ?_
   have := hE7.size
   rcases List.mem_append.1 hy with hy | hy
   ·have := (hNur.own.2.2.2 y hy).2; omega
   ·have := List.mem_range.1 hy; omega
  ·intro b hb
   simp only [List.mem_cons, List.not_mem_nil, or_false] at hb
   rcases hb with rfl | rfl
   ·exact List.mem_range.2 (by have := hN1.lt; have := hE2.size; have := hE3.size; omega)
   ·exact List.mem_range.2 hN3.lt
  ·have hF : ∀ b ∈ [B3], b ∈ List.range w3.heap.size := by simp only [List.mem_singleton]; rintro b rfl; exact List.mem_range.2 hN3.lt
   rw [takeI hk', List.map_append]; exact hN.chg hC10 hF
  ·have hF : ∀ b ∈ [B3], b ∈ List.range w3.heap.size := by simp only [List.mem_singleton]; rintro b rfl; exact List.mem_range.2 hN3.lt
   have := (hA6.ext hE68)
   have h2 : Own (c.own ++ List.range w3.heap.size) w8 sa' 2 91 (s.attrs.map ac) := this.avoid fun b hb hm => by
    rcases List.mem_append.1 hm with hm | hm
    ·exact hdis b (Sl.own_blk hm) hb
    ·exact (this.blk b hb).1 hm
   exact (Own.less (A' := List.range w3.heap.size) (h2.chg hC (fun b hb => List.mem_append_left _ hb)) (fun b hb => List.mem_append_right _ hb)).chg hC10 hF
  ·intro b hb hm
   rcases hbl b hb with h | h
   ·exact hdis b (Sl.own_blk h) hm
   ·have := (hA6.blk b hm).2
    have := hE68.size; omega
  ·have h1 := hE68.size; have h2 := hC.size; have h3 := hC10.size; omega
  ·refine Chg.fresh (Chg.fresh (hE6.trans hE68) hC fun y hy => ?_) hC10 (by simp only [List.mem_singleton]; rintro b rfl; have := hE02.size; omega)
   have := (hNur.own.2.2.2 y (Sl.own_blk hy)).1
   have h2 := hE03.size
   simp at this; omega
 ·have hkl : k = s.kids.length := by omega
  subst hkl
  rw [List.take_length] at hNur
  have hF : ∀ b ∈ [B1], b ∈ List.range w3.heap.size := by simp only [List.mem_singleton]; rintro b rfl; exact List.mem_range.2 (by have := hN1.lt; have := hE2.size; have := hE3.size; omega)
  have hrd := (hNur.chg hC7 hF).rd (k := s.kind) (n := s.name) (x := s.text) (hA6.chg hC7 hF).row
  refine ⟨Chg.fresh hE6 hC7 (by simp only [List.mem_singleton]; rintro b rfl; omega), sa', c, ?_, ?_⟩
  ·rw [I.toT_eq, hr]; rfl
  ·rw [I.toT_eq]
   exact hrd.less fun b hb => List.mem_range.2 (Nat.lt_of_lt_of_le (List.mem_range.1 hb) hE03.size)
theorem domTree {w : World} (h : Dom A w D R) : Calls Tryz.prog 66 #[.pointer (some ⟨D, 0, none⟩)] w (Ret fun v w' => Ext w w' ∧ ∃ sa sk : Sl, v = tv R.toT sa sk ∧ RdT (List.range w.heap.size) w' R.toT sa sk) := by
 refine dom_Dom_Tree.ok _ ?_
 unfold dom_Dom_Tree.vc
 intro w1 B1 hN1 hE1
 have hs := domSub R (h.ext hE1) (-1) 1 (I.all_self R (-1) 1)
 rw [h.okay.root] at hs
 have hb1 := hN1.ge
 refine CallK.ext hs ?_
 rintro v w2 hE2 ⟨sa, sk, rfl, hrd⟩
 refine ⟨_, _, _, sa, sk, rfl, fun w3 hC3 => ⟨Chg.fresh (hE1.trans hE2) hC3 (by simpa using hb1), sa, sk, rfl, ?_⟩⟩
 have hF : ∀ b ∈ [B1], b ∈ List.range w1.heap.size := by simp only [List.mem_singleton]; rintro b rfl; exact List.mem_range.2 hN1.lt
 exact (hrd.chg hC3 hF).less fun b hb => List.mem_range.2 (Nat.lt_of_lt_of_le (List.mem_range.1 hb) hE1.size)
end
end
section
open Go.RowKit Go.MapKept
structure Mod (A : List Nat) (w w' : World) : Prop where
 os : w'.os = w.os
 tape : w'.tape = w.tape
 output : w'.output = w.output
 size : w.heap.size ≤ w'.heap.size
 block : ∀ k, k < w.heap.size → k ∈ A → w'.heap[k]? = w.heap[k]?
def Free (A : List Nat) (w : World) : List Nat := (List.range w.heap.size).filter fun b => !A.contains b
theorem mem_free {A : List Nat} {w : World} {b : Nat} : b ∈ Free A w ↔ b < w.heap.size ∧ b ∉ A := by simp [Free]
section
variable {A A' F : List Nat} {a b c w w' : World}
theorem Mod.of (h : Chg F a b) (hF : ∀ x ∈ F, x ∉ A) : Mod A a b := ⟨h.os, h.tape, h.output, h.size, fun k hk hA => h.block k hk fun hm => hF k hm hA⟩
theorem Mod.ext (h : Ext a b) : Mod A a b := Mod.of h (by simp)
theorem Mod.refl (A : List Nat) (w : World) : Mod A w w := Mod.ext (Chg.refl _ _)
theorem Mod.trans (h : Mod A a b) (k : Mod A b c) : Mod A a c := ⟨k.os.trans h.os, k.tape.trans h.tape, k.output.trans h.output, Nat.le_trans h.size k.size, fun i hi hA => (k.block i (Nat.lt_of_lt_of_le hi h.size) hA).trans (h.block i hi hA)⟩
theorem Mod.less (h : Mod A a b) (hA : ∀ x ∈ A', x ∈ A) : Mod A' a b := ⟨h.os, h.tape, h.output, h.size, fun k hk hm => h.block k hk (hA k hm)⟩
theorem Mod.chg (h : Mod A a b) : Chg (Free A a) a b := ⟨h.os, h.tape, h.output, h.size, fun k hk hm => h.block k hk (by
 by_cases hA : k ∈ A
 ·exact hA
 ·exact absurd (mem_free.2 ⟨hk, hA⟩) hm)⟩
theorem Mod.fresh (h : Ext a b) (k : Mod A b c) (hA : ∀ x, x < a.heap.size → x ∈ A) : Ext a c := ⟨k.os.trans h.os, k.tape.trans h.tape, k.output.trans h.output, Nat.le_trans h.size k.size, fun i hi _ => (k.block i (Nat.lt_of_lt_of_le hi h.size) (hA i hi)).trans (h.block i hi (by simp))⟩
theorem Own.mod {A0 : List Nat} {s : Sl} {size : Nat} {T : TypeId} {vs : List (List Value)} (h : Own A0 a s size T vs) (k : Mod A a b) (hs : ∀ x ∈ s.blk, x ∈ A) : Own A0 b s size T vs := h.keep k.chg fun x hx hm => (mem_free.1 hm).2 (hs x hx)
theorem Box.mod {B : Nat} {T : TypeId} {cs : List Value} (h : Box a B T cs) (k : Mod A a b) (hB : B ∈ A) : Box b B T cs := h.keep k.chg fun hm => (mem_free.1 hm).2 hB
theorem CallK.mod {P : Program} {f : FuncId} {args : Array Value} {bx : List Nat} {R K : Value → World → Prop}
  (h : Calls P f args w (Ret fun v w' => Mod A w w' ∧ R v w')) (hd : ∀ b ∈ bx, b ∈ A) (k : ∀ v w', Mod A w w' → R v w' → K v w') : CallK P f args w bx K :=
 Ret.mono h fun v w' ⟨he, hr⟩ => ⟨fun b hb hlt => he.block b hlt (hd b hb), he.size, k v w' he hr⟩
def Safe (A : List Nat) (w : World) (t : T) (sa sk : Sl) : Prop := RdT (Free A w) w t sa sk
theorem Safe.mod {t : T} {sa sk : Sl} (h : Safe A a t sa sk) (k : Mod A a b) : Safe A b t sa sk := by
 have h1 : RdT (Free A a) b t sa sk := RdT.chg k.chg (fun x hx => hx) h
 have h2 : RdT (Free A b) a t sa sk := RdT.wide h fun x hx => by
  have := mem_free.1 hx
  by_cases hlt : x < a.heap.size
  ·exact .inl (mem_free.2 ⟨hlt, this.2⟩)
  ·exact .inr (by omega)
 exact RdT.chg k.chg (fun x hx => by
  have h3 := mem_free.1 hx
  exact mem_free.2 ⟨Nat.lt_of_lt_of_le h3.1 k.size, h3.2⟩) h2
theorem Safe.of {X : List Nat} {t : T} {sa sk : Sl} (h : RdT X w t sa sk) (hA : ∀ x, x < w.heap.size → x ∈ A) : Safe A w t sa sk := RdT.wide h fun x hx => by
 have := mem_free.1 hx
 exact absurd (hA x this.1) this.2
theorem Safe.more {t : T} {sa sk : Sl} (h : Safe A w t sa sk) (hA : ∀ x ∈ A, x ∈ A') : Safe A' w t sa sk := RdT.less h fun x hx => by
 have := mem_free.1 hx
 exact mem_free.2 ⟨this.1, fun hm => this.2 (hA x hm)⟩
end
theorem findAt_congr : ∀ {X Y : List Nd}, (X.map fun x => x.r.id) = Y.map (fun x => x.r.id) → ∀ k i, findAt X k i = findAt Y k i
 |[], [], _, k, i => rfl
 |[], _ :: _, h, _, _ => by cases h
 |_ :: _, [], h, _, _ => by cases h
 |x :: r, y :: q, h, k, i => by
  simp only [List.map_cons, List.cons.injEq] at h
  rw [findAt, findAt, h.1, findAt_congr h.2]
theorem set_ids {X : List Nd} {i : Nat} {x x' : Nd} (hi : X[i]? = some x) (hid : x'.r.id = x.r.id) : ((X.set i x').map fun x => x.r.id) = X.map fun x => x.r.id := by
 apply List.ext_getElem?
 intro j
 rw [List.getElem?_map, List.getElem?_map, List.getElem?_set]
 by_cases h : i = j
 ·subst h
  obtain ⟨h1, _⟩ := List.getElem?_eq_some_iff.1 hi
  rw [if_pos rfl, if_pos h1, hi]
  simp [hid]
 ·rw [if_neg h]
theorem set_at {X : List Nd} {i : Nat} {x x' : Nd} (hi : X[i]? = some x) {j : Nat} {y : Nd} (hy : (X.set i x')[j]? = some y) : (j = i ∧ y = x') ∨ (j ≠ i ∧ X[j]? = some y) := by
 rw [List.getElem?_set] at hy
 by_cases h : i = j
 ·subst h
  obtain ⟨h1, _⟩ := List.getElem?_eq_some_iff.1 hi
  rw [if_pos rfl, if_pos h1] at hy
  exact .inl ⟨rfl, (Option.some.inj hy).symm⟩
 ·rw [if_neg h] at hy; exact .inr ⟨fun e => h e.symm, hy⟩
section
variable {A : List Nat} {w w1 w2 : World} {D : Nat} {l : Sl} {M : Nat} {m : List (Int × Value)} {X : List Nd}
theorem Arena.only (h : Arena A w D l M m X) {i : Nat} {x : Nd} (hi : X[i]? = some x) {b : Nat} (hb : b ∈ x.sa.blk ∨ b ∈ x.sk.blk) : b ∉ A ∧ b ≠ D ∧ b ≠ M ∧ b ∉ l.blk ∧ ∀ j y, j ≠ i → X[j]? = some y → b ∉ y.sa.blk ∧ b ∉ y.sk.blk := by
 have hx := List.mem_of_getElem? hi
 have ha := h.sa x hx
 have hk := h.sk x hx
 rcases hb with hb | hb
 ·refine ⟨(ha.blk b hb).1, fun e => (ha.other h.box (by decide)) (e ▸ hb), fun e => (ha.noMap h.map) (e ▸ hb), (ha.apart h.row (by decide)) b hb, fun j y hj hy => ⟨(h.apart i j x y (fun e => hj e.symm) hi hy).1 b hb, (ha.apart (h.sk y (List.mem_of_getElem? hy)) (by decide)) b hb⟩⟩
 ·refine ⟨(hk.blk b hb).1, fun e => (hk.other h.box (by decide)) (e ▸ hb), fun e => (hk.noMap h.map) (e ▸ hb), (hk.apart h.row (by decide)) b hb, fun j y hj hy => ⟨(hk.apart (h.sa y (List.mem_of_getElem? hy)) (by decide)) b hb, (h.apart i j x y (fun e => hj e.symm) hi hy).2 b hb⟩⟩
theorem Arena.upd (h : Arena A w D l M m X) {i : Nat} {x : Nd} (hi : X[i]? = some x) (x' : Nd) (hid : x'.r.id = x.r.id) {F : List Nat} (hC : Chg F w w1) (hF : ∀ b ∈ F, b ∈ x.sa.blk ∨ b ∈ x.sk.blk ∨ w.heap.size ≤ b)
  (hsa : Own A w1 x'.sa 2 91 (x'.r.attrs.map ac)) (hsk : Own A w1 x'.sk 1 3 (x'.r.kids.map ic)) (hba : ∀ b ∈ x'.sa.blk, b ∈ x.sa.blk ∨ w.heap.size ≤ b) (hbk : ∀ b ∈ x'.sk.blk, b ∈ x.sk.blk ∨ w.heap.size ≤ b) (hfit : x'.r.attrs.length ≤ 1000000 ∧ x'.r.kids.length ≤ 1000000)
  {g : Nat} {cur us : List Value} {o : Nat} (hg : l.a = some ⟨g, 0, none⟩) (hB : Box w1 g 197 cur) (hC2 : Chg [g] w1 w2) (hB2 : Box w2 g 197 (putAt cur (i * 8 + o) us)) (ho : o + us.length ≤ 8) (hput : putAt (ndc x) o us = ndc x') :
  Arena A w2 D l M m (X.set i x') ∧ Chg (g :: F) w w2 := by
 have hx := List.mem_of_getElem? hi
 have hgl : l.blk = [g] := by simp [Sl.blk, hg]
 have hgd : g ≠ D := fun e => (h.row.other h.box (by decide)) (by rw [hgl, e]; simp)
 have hgm : g ≠ M := fun e => (h.row.noMap h.map) (by rw [hgl, e]; simp)
 have hgA : g ∉ A := (h.row.blk g (by rw [hgl]; simp)).1
 have hglt : g < w.heap.size := (h.row.blk g (by rw [hgl]; simp)).2
 have hFn : ∀ {b : Nat}, b ∈ F → b < w.heap.size → b ∈ x.sa.blk ∨ b ∈ x.sk.blk := fun hb hlt => by
  rcases hF _ hb with h | h | h
  ·exact .inl h
  ·exact .inr h
  ·omega
 have hDF : D ∉ F := fun hm => (h.only hi (hFn hm h.box.lt)).2.1 rfl
 have hMF : M ∉ F := fun hm => (h.only hi (hFn hm h.map.lt)).2.2.1 rfl
 have hlF : ∀ b ∈ l.blk, b ∉ F := fun b hb hm => (h.only hi (hFn hm (h.row.blk b hb).2)).2.2.2.1 hb
 obtain ⟨hil, _⟩ := List.getElem?_eq_some_iff.1 hi
 have hil' : i < (X.map ndc).length := by simpa using hil
 have hgD : (X.map ndc).getD i [] = ndc x := by rw [List.getD_eq_getElem?_getD, List.getElem?_map, hi]; rfl
 have hrow := (h.row.keep hC hlF).put hg hB hil' ho hB2
 rw [hgD, hput, ← List.map_set] at hrow
 have oth : ∀ (j : Nat) (y : Nd), j ≠ i → X[j]? = some y → Own A w2 y.sa 2 91 (y.r.attrs.map ac) ∧ Own A w2 y.sk 1 3 (y.r.kids.map ic) := fun j y hj hy => by
  have hym := List.mem_of_getElem? hy
  have a1 := h.sa y hym
  have k1 := h.sk y hym
  refine ⟨(a1.keep hC fun b hb hm => ((h.only hi (hFn hm (a1.blk b hb).2)).2.2.2.2 j y hj hy).1 hb).keep hC2 fun b hb hm => ?_, (k1.keep hC fun b hb hm => ((h.only hi (hFn hm (k1.blk b hb).2)).2.2.2.2 j y hj hy).2 hb).keep hC2 fun b hb hm => ?_⟩
  ·simp at hm; exact (a1.apart h.row (by decide)) b hb (by rw [hgl, hm]; simp)
  ·simp at hm; exact (k1.apart h.row (by decide)) b hb (by rw [hgl, hm]; simp)
 have own : Own A w2 x'.sa 2 91 (x'.r.attrs.map ac) ∧ Own A w2 x'.sk 1 3 (x'.r.kids.map ic) := by
  refine ⟨hsa.keep hC2 fun b hb hm => ?_, hsk.keep hC2 fun b hb hm => ?_⟩
  ·simp at hm; exact (hsa.other hB (by decide)) (hm ▸ hb)
  ·simp at hm; exact (hsk.other hB (by decide)) (hm ▸ hb)
 have each : ∀ (j : Nat) (y : Nd), (X.set i x')[j]? = some y → Own A w2 y.sa 2 91 (y.r.attrs.map ac) ∧ Own A w2 y.sk 1 3 (y.r.kids.map ic) ∧ y.r.attrs.length ≤ 1000000 ∧ y.r.kids.length ≤ 1000000 := fun j y hy => by
  rcases set_at hi hy with ⟨_, rfl⟩ | ⟨hj, hy⟩
  ·exact ⟨own.1, own.2, hfit⟩
  ·exact ⟨(oth j y hj hy).1, (oth j y hj hy).2, h.fit y (List.mem_of_getElem? hy)⟩
 have eachM : ∀ y ∈ X.set i x', Own A w2 y.sa 2 91 (y.r.attrs.map ac) ∧ Own A w2 y.sk 1 3 (y.r.kids.map ic) ∧ y.r.attrs.length ≤ 1000000 ∧ y.r.kids.length ≤ 1000000 := fun y hy => by
  obtain ⟨j, hj, e⟩ := List.getElem_of_mem hy
  exact each j y (by rw [List.getElem?_eq_getElem hj, e])
 have newer : ∀ (j : Nat) (y : Nd), j ≠ i → X[j]? = some y → (∀ b ∈ x'.sa.blk, b ∉ y.sa.blk) ∧ ∀ b ∈ x'.sk.blk, b ∉ y.sk.blk := fun j y hj hy => by
  have hym := List.mem_of_getElem? hy
  refine ⟨fun b hb hm => ?_, fun b hb hm => ?_⟩
  ·rcases hba b hb with h1 | h1
   ·exact (h.apart i j x y (fun e => hj e.symm) hi hy).1 b h1 hm
   ·have := ((h.sa y hym).blk b hm).2; omega
  ·rcases hbk b hb with h1 | h1
   ·exact (h.apart i j x y (fun e => hj e.symm) hi hy).2 b h1 hm
   ·have := ((h.sk y hym).blk b hm).2; omega
 refine ⟨⟨(h.box.keep hC hDF).keep hC2 (by simpa using fun e => hgd e.symm), h.dA, h.mA, hrow, fun y hy => (eachM y hy).1, fun y hy => (eachM y hy).2.1, fun j k y z hjk hy hz => ?_, (h.map.chg hC hMF).chg hC2 (by simpa using fun e => hgm e.symm), fun k => ?_, h.mkeys, by rw [set_ids hi hid]; exact h.nodup, by rw [List.length_set]; exact h.few, fun y hy => (eachM y hy).2.2⟩, ?_⟩
 ·rcases set_at hi hy with ⟨e1, e2⟩ | ⟨hj, hy'⟩
  ·rcases set_at hi hz with ⟨e, _⟩ | ⟨hk, hz'⟩
   ·exact absurd (e1.trans e.symm) hjk
   ·rw [e2]; exact newer k z hk hz'
  ·rcases set_at hi hz with ⟨e1, e2⟩ | ⟨hk, hz'⟩
   ·have := newer j y hj hy'
    rw [e2]
    exact ⟨fun b hb hm => this.1 b hm hb, fun b hb hm => this.2 b hm hb⟩
   ·exact h.apart j k y z hjk hy' hz'
 ·rw [h.keys, findAt_congr (set_ids hi hid)]
 ·exact (hC.mono fun x hx => List.mem_cons_of_mem _ hx).trans (hC2.mono fun x hx => by simp only [List.mem_singleton] at hx; rw [hx]; exact List.mem_cons_self ..)
theorem mput_mem {κ : Type} [DecidableEq κ] {m : List (κ × Value)} {k : κ} {v : Value} {x : κ} : x ∈ (mput m k v).map (fun p => p.1) → x = k ∨ x ∈ m.map fun p => p.1 := by
 induction m with
 |nil => intro h; left; simpa [mput] using h
 |cons p r ih =>
  intro h
  by_cases hp : p.1 = k
  ·rw [mput, if_pos hp] at h
   rw [List.map_cons] at h
   rcases List.mem_cons.1 h with h | h
   ·exact .inl h
   ·exact .inr (by rw [List.map_cons]; exact List.mem_cons_of_mem _ h)
  ·rw [mput, if_neg hp, List.map_cons] at h
   rcases List.mem_cons.1 h with h | h
   ·exact .inr (by rw [List.map_cons, h]; exact List.mem_cons_self ..)
   ·exact (ih h).imp id fun h => by rw [List.map_cons]; exact List.mem_cons_of_mem _ h
theorem mput_keys {κ : Type} [DecidableEq κ] {m : List (κ × Value)} (k : κ) (v : Value) (h : (m.map fun p => p.1).Nodup) : ((mput m k v).map fun p => p.1).Nodup := by
 induction m with
 |nil => simp [mput]
 |cons p r ih =>
  rw [List.map_cons] at h
  obtain ⟨h1, h2⟩ := List.nodup_cons.1 h
  by_cases hp : p.1 = k
  ·rw [mput, if_pos hp, List.map_cons]
   exact List.nodup_cons.2 ⟨by rw [← hp]; exact h1, h2⟩
  ·rw [mput, if_neg hp, List.map_cons]
   refine List.nodup_cons.2 ⟨fun hm => ?_, ih h2⟩
   rcases mput_mem hm with e | hm
   ·exact hp e
   ·exact h1 hm
theorem Arena.push (h : Arena A w D l M m X) (x : Nd) (hid : ∀ y ∈ X, y.r.id ≠ x.r.id) {l' : Sl} {m' : List (Int × Value)} (hbox : Box w1 D 195 [l'.v, .map (some M)]) (hrow : Own A w1 l' 8 197 ((X ++ [x]).map ndc)) (hC : Mod A w w1)
  (oth : ∀ y ∈ X, Own A w1 y.sa 2 91 (y.r.attrs.map ac) ∧ Own A w1 y.sk 1 3 (y.r.kids.map ic)) (hsa : Own A w1 x.sa 2 91 (x.r.attrs.map ac)) (hsk : Own A w1 x.sk 1 3 (x.r.kids.map ic)) (hba : ∀ b ∈ x.sa.blk, w.heap.size ≤ b) (hbk : ∀ b ∈ x.sk.blk, w.heap.size ≤ b)
  (hfit : x.r.attrs.length ≤ 1000000 ∧ x.r.kids.length ≤ 1000000) (hmap : MapIs numV (.int .i64) w1 M m') (hm' : m' = mput m x.r.id (numV (X.length : Int))) (hfew : X.length + 1 ≤ 1000000) : Arena A w1 D l' M m' (X ++ [x]) := by
 have eachM : ∀ y ∈ X ++ [x], Own A w1 y.sa 2 91 (y.r.attrs.map ac) ∧ Own A w1 y.sk 1 3 (y.r.kids.map ic) ∧ y.r.attrs.length ≤ 1000000 ∧ y.r.kids.length ≤ 1000000 := fun y hy => by
  rcases List.mem_append.1 hy with hy | hy
  ·exact ⟨(oth y hy).1, (oth y hy).2, h.fit y hy⟩
  ·have : y = x := by simpa using hy
   subst this; exact ⟨hsa, hsk, hfit⟩
 have cases' : ∀ {j : Nat} {y : Nd}, (X ++ [x])[j]? = some y → (X[j]? = some y) ∨ (j = X.length ∧ y = x) := fun {j y} hy => by
  by_cases hj : j < X.length
  ·rw [List.getElem?_append_left hj] at hy; exact .inl hy
  ·rw [List.getElem?_append_right (by omega)] at hy
   have := (List.getElem?_eq_some_iff.1 hy).1
   have h0 : j - X.length = 0 := by simp at this; omega
   rw [h0] at hy
   exact .inr ⟨by omega, by simpa using hy.symm⟩
 have newer : ∀ y ∈ X, (∀ b ∈ x.sa.blk, b ∉ y.sa.blk) ∧ ∀ b ∈ x.sk.blk, b ∉ y.sk.blk := fun y hy =>
  ⟨fun b hb hm => by have := hba b hb; have := ((h.sa y hy).blk b hm).2; omega, fun b hb hm => by have := hbk b hb; have := ((h.sk y hy).blk b hm).2; omega⟩
 refine ⟨hbox, h.dA, h.mA, hrow, fun y hy => (eachM y hy).1, fun y hy => (eachM y hy).2.1, fun j k y z hjk hy hz => ?_, hmap, fun k => ?_, by rw [hm']; exact mput_keys _ _ h.mkeys, ?_, by rw [List.length_append]; exact hfew, fun y hy => (eachM y hy).2.2⟩
 ·rcases cases' hy with hy' | ⟨e1, e2⟩
  ·rcases cases' hz with hz' | ⟨_, e2⟩
   ·exact h.apart j k y z hjk hy' hz'
   ·have := newer y (List.mem_of_getElem? hy')
    rw [e2]
    exact ⟨fun b hb hm => this.1 b hm hb, fun b hb hm => this.2 b hm hb⟩
  ·rcases cases' hz with hz' | ⟨e3, _⟩
   ·rw [e2]; exact newer z (List.mem_of_getElem? hz')
   ·exact absurd (e1.trans e3.symm) hjk
 ·have hfa : ∀ (X : List Nd) (i : Nat), (∀ y ∈ X, y.r.id ≠ x.r.id) → findAt (X ++ [x]) k i = if k = x.r.id then some (i + X.length) else findAt X k i := fun X => by
   induction X with
   |nil =>
    intro i _
    show (if x.r.id = k then some i else none) = if k = x.r.id then some (i + 0) else none
    by_cases hk : k = x.r.id
    ·rw [if_pos hk, if_pos hk.symm]; rfl
    ·rw [if_neg hk, if_neg (fun e : x.r.id = k => hk e.symm)]
   |cons y r ih =>
    intro i hy
    rw [List.cons_append, findAt, ih (i + 1) fun z hz => hy z (by simp [hz])]
    by_cases hk : k = x.r.id
    ·rw [if_neg (fun e => hy y (by simp) (e.trans hk)), if_pos hk, if_pos hk, List.length_cons]
     congr 1; omega
    ·rw [if_neg hk, if_neg hk, findAt]
  rw [hm', mget_put, h.keys, hfa X 0 hid]
  by_cases hk : k = x.r.id
  ·rw [if_pos hk, if_pos hk, Nat.zero_add]; rfl
  ·rw [if_neg hk, if_neg hk]
 ·rw [List.map_append]
  refine List.nodup_append.2 ⟨h.nodup, by simp, fun a ha b hb e => ?_⟩
  simp only [List.map_cons, List.map_nil, List.mem_singleton] at hb
  obtain ⟨y, hy, rfl⟩ := List.mem_map.1 ha
  exact hid y hy (e.trans hb)
end
end
section
open Go.RowKit
namespace T
def span (t : T) : Nat := t.size + t.slots
theorem size_span (t : T) : t.size ≤ t.span := by unfold span; omega
theorem kid_span {t u : T} (h : u ∈ t.kids) : u.span < t.span := by
 unfold span
 rw [size_eq t, slots_eq t]
 have := mem_sum size h
 have := mem_sum slots h
 omega
theorem kids_span (t : T) : t.kids.length < t.span := by
 have h1 : t.kids.length ≤ (t.kids.map size).sum := by
  have h2 := sum_le (fun _ => 1) size t.kids fun u _ => by rw [size_eq]; omega
  have e : ∀ l : List T, (l.map fun _ => 1).sum = l.length := fun l => by induction l with
   |nil => rfl
   |cons a r ih => simp only [List.map_cons, List.sum_cons, ih, List.length_cons]; omega
  rw [e] at h2; exact h2
 unfold span
 rw [size_eq t]; omega
theorem attrs_span (t : T) : t.attrs.length ≤ t.span := by unfold span; rw [slots_eq]; omega
theorem span_bulk (t : T) : t.span ≤ 2 * t.bulk := by unfold span; have := size_bulk t; have := slots_bulk t; omega
end T
theorem treeSizeS {A : List Nat} : ∀ t : T, t.span ≤ 1099511627776 → ∀ {w : World} {sa sk : Sl}, RdT A w t sa sk →
  Calls Tryz.prog 59 #[tv t sa sk] w (Ret fun v w' => Ext w w' ∧ v = .int .i64 (t.size : Int)) := T.ind' fun t ih hb w sa sk h => by
 refine tree_Size.ok _ _ _ _ _ ?_
 unfold tree_Size.vc
 have hn := h.nkids
 have hcp := h.caps
 have hl := T.kids_span t
 intro w1 B1 _ hE1
 refine ⟨fun n i w2 => ∃ k : Nat, i = (k : Int) ∧ k ≤ t.kids.length ∧ n = ((1 + ((t.kids.take k).map T.size).sum : Nat) : Int) ∧ Ext w w2, fun _ i _ => t.kids.length - i.toNat, ⟨0, rfl, Nat.zero_le _, by simp, hE1⟩, ?_⟩
 rintro _ _ w2 ⟨k, rfl, hk, rfl, hE⟩
 refine ⟨fun hi => ?_, fun hi => ⟨hE, ?_⟩⟩
 ·have hk' : k < t.kids.length := by omega
  obtain ⟨p, sa', sk', hp, _, hc, hr⟩ := (h.ext hE).kid hk'
  rw [Int.toNat_natCast]
  have hm := getD_mem (d := T.nul) hk'
  have hs := sum_take T.size hk'
  have hsl := sum_take_le T.size t.kids (k + 1)
  have ht := T.size_eq t
  have htb := T.size_span t
  refine ⟨⟨by omega, hi⟩, p, hp, _, _, _, sa', sk', hc, fun w3 B3 _ hE3 => CallK.exact (ih _ hm (by have := T.kid_span hm; omega) (hr.ext hE3)) fun w4 hE4 => ⟨_, rfl, ⟨by omega, by omega⟩, ⟨by omega, by omega⟩, ⟨k + 1, by omega, by omega, by omega, (hE.trans hE3).trans hE4⟩, by dsimp only; omega⟩⟩
 ·have hkl : k = t.kids.length := by omega
  subst hkl
  rw [List.take_of_length_le (Nat.le_refl _), T.size_eq t]
theorem treeDepthS {A : List Nat} : ∀ t : T, t.span ≤ 1099511627776 → ∀ {w : World} {sa sk : Sl}, RdT A w t sa sk →
  Calls Tryz.prog 60 #[tv t sa sk] w (Ret fun v w' => Ext w w' ∧ v = .int .i64 (t.depth : Int)) := T.ind' fun t ih hb w sa sk h => by
 refine tree_Depth.ok _ _ _ _ _ ?_
 unfold tree_Depth.vc
 have hn := h.nkids
 have hcp := h.caps
 have hl := T.kids_span t
 intro w1 B1 _ hE1
 refine ⟨fun n i w2 => ∃ k : Nat, i = (k : Int) ∧ k ≤ t.kids.length ∧ n = ((((t.kids.take k).map T.depth).foldr max 0 : Nat) : Int) ∧ Ext w w2, fun _ i _ => t.kids.length - i.toNat, ⟨0, rfl, Nat.zero_le _, by simp, hE1⟩, ?_⟩
 rintro _ _ w2 ⟨k, rfl, hk, rfl, hE⟩
 refine ⟨fun hi => ?_, fun hi => ?_⟩
 ·have hk' : k < t.kids.length := by omega
  obtain ⟨p, sa', sk', hp, _, hc, hr⟩ := (h.ext hE).kid hk'
  rw [Int.toNat_natCast]
  have hm := getD_mem (d := T.nul) hk'
  have hs := max_take T.depth hk'
  refine ⟨⟨by omega, hi⟩, p, hp, _, _, _, sa', sk', hc, fun w3 B3 _ hE3 => CallK.exact (ih _ hm (by have := T.kid_span hm; omega) (hr.ext hE3)) fun w4 hE4 => ⟨_, rfl, ⟨by omega, by omega⟩, ⟨k + 1, by omega, by omega, by omega, (hE.trans hE3).trans hE4⟩, by dsimp only; omega⟩⟩
 ·have hkl : k = t.kids.length := by omega
  subst hkl
  have h1 := T.depth_eq t
  have h2 := T.depth_size t
  have h3 := T.size_span t
  rw [List.take_of_length_le (Nat.le_refl _)]
  refine ⟨⟨by omega, by omega⟩, hE, ?_⟩
  rw [h1]; congr 1; omega
theorem treeKidsS {A : List Nat} (t : T) (hb : t.span ≤ 1099511627776)
  (ih : ∀ u ∈ t.kids, ∀ {w : World} {sa sk : Sl}, RdT A w u sa sk → Calls Tryz.prog 112 #[tv u sa sk] w (Ret fun v w' => Ext w w' ∧ v = .bool (nodeOk u))) {w : World} {sa sk : Sl} (h : RdT A w t sa sk) :
  Calls Tryz.prog 62 #[tv t sa sk] w (Ret fun v w' => Ext w w' ∧ v = .bool (kidsOk t)) := by
 refine tree_kids.ok _ _ _ _ _ ?_
 unfold tree_kids.vc
 have hn := h.nkids
 have hcp := h.caps
 have hl := T.kids_span t
 intro w1 B1 _ hE1
 refine ⟨fun i w2 => ∃ k : Nat, i = (k : Int) ∧ k ≤ t.kids.length ∧ kidsOk t = (t.kids.drop k).all (fun u => nodeOk u && !(decide (u.kind = 5) && !(decide (t.kind = 1)))) ∧ Ext w w2, fun i _ => t.kids.length - i.toNat, ⟨0, rfl, Nat.zero_le _, rfl, hE1⟩, ?_⟩
 rintro _ w2 ⟨k, rfl, hk, heq, hE⟩
 refine ⟨fun hi => ?_, fun hi => ⟨hE, ?_⟩⟩
 ·have hk' : k < t.kids.length := by omega
  obtain ⟨p, sa', sk', hp, _, hc, hr⟩ := (h.ext hE).kid hk'
  rw [Int.toNat_natCast]
  have hm := getD_mem (d := T.nul) hk'
  rw [List.drop_eq_getElem_cons hk', List.all_cons, show t.kids[k] = t.kids.getD k T.nul by rw [List.getD_eq_getElem?_getD, List.getElem?_eq_getElem hk']; rfl] at heq
  refine ⟨⟨by omega, hi⟩, p, hp, _, _, _, sa', sk', hc, fun w3 B3 _ hE3 => CallK.exact (ih _ hm (hr.ext hE3)) fun w4 hE4 => ⟨_, rfl, fun hbad => ⟨(hE.trans hE3).trans hE4, ?_⟩, fun hgood => ⟨⟨by omega, by omega⟩, ⟨k + 1, by omega, by omega, ?_, (hE.trans hE3).trans hE4⟩, by dsimp only; omega⟩⟩⟩
  ·rw [heq]
   rcases hbad with hb | ⟨hb1, hb2⟩
   ·rw [hb]; rfl
   ·rw [decide_eq_true hb1, decide_eq_false hb2]; simp
  ·rw [heq, hgood.1]
   rcases hgood.2 with hb | hb
   ·rw [decide_eq_false hb]; simp
   ·rw [decide_eq_true (Classical.not_not.1 hb)]; simp
 ·have hkl : k = t.kids.length := by omega
  subst hkl
  rw [heq, List.drop_length]; rfl
theorem treeNodeS {A : List Nat} : ∀ t : T, t.span ≤ 1099511627776 → ∀ {w : World} {sa sk : Sl}, RdT A w t sa sk →
  Calls Tryz.prog 112 #[tv t sa sk] w (Ret fun v w' => Ext w w' ∧ v = .bool (nodeOk t)) := T.ind' fun t ih hb w sa sk h => by
 refine tree_node.ok _ _ _ _ _ ?_
 unfold tree_node.vc
 have hn := h.nkids
 have hna := h.nattrs
 refine ⟨fun h2 => ?_, fun h2 => ?_⟩
 ·rw [nodeOk_el h2]
  intro w1 B1 _ hE1
  refine CallK.exact (treeName t.name) fun w2 hE2 => ⟨_, rfl, _, fun _ => treeAttrs (h.attrs.ext (hE1.trans hE2)), fun w3 hE3 => ⟨kidsOk t, fun _ => treeKidsS t hb (fun u hu _ _ _ hr => ih u hu (by have := T.kid_span hu; omega) hr) (h.ext ((hE1.trans hE2).trans hE3)), fun w4 hE4 => ⟨((hE1.trans hE2).trans hE3).trans hE4, ?_⟩⟩⟩
  rw [isEmpty_dec]
 ·rw [nodeOk_ne h2]
  refine ⟨fun hbad w1 B1 _ hE1 => ⟨hE1, ?_⟩, fun hgood => ?_⟩
  ·have : (t.attrs.isEmpty && t.kids.isEmpty) = false := by
    rcases hbad with hb | hb
    ·have : t.attrs.isEmpty = false := by cases hx : t.attrs <;> simp_all
     rw [this]; rfl
    ·have : t.kids.isEmpty = false := by cases hx : t.kids <;> simp_all
     rw [this, Bool.and_false]
   rw [this, Bool.false_and]
  ·have ha : t.attrs.isEmpty = true := by cases hx : t.attrs <;> simp_all
   have hk : t.kids.isEmpty = true := by cases hx : t.kids <;> simp_all
   rw [ha, hk, Bool.true_and, Bool.true_and]
   have l4 := le_dec t.text 4096
   have l3 := le_dec t.name 32
   rw [show ((4096 : Nat) : Int) = 4096 from rfl] at l4
   rw [show ((32 : Nat) : Int) = 32 from rfl] at l3
   refine ⟨fun h3 w1 B1 _ hE1 => ⟨hE1, ?_⟩, fun h3 => ⟨fun h4 w1 B1 _ hE1 => ⟨hE1, ?_⟩, fun h4 => ⟨fun h5 w1 B1 _ hE1 => ⟨hE1, ?_⟩, fun h5 w1 B1 _ hE1 => ⟨hE1, ?_⟩⟩⟩⟩
   ·rw [if_pos h3, isEmpty_dec, isEmpty_ndec, l4]
   ·rw [if_neg h3, if_pos h4, isEmpty_dec, l4]
   ·rw [if_neg h3, if_neg h4, if_pos h5, isEmpty_dec, l3]
   ·rw [if_neg h3, if_neg h4, if_neg h5]
theorem treeCheckS {A : List Nat} (t : T) (hb : t.span ≤ 1099511627776) {w : World} {sa sk : Sl} (h : RdT A w t sa sk) :
  Calls Tryz.prog 35 #[tv t sa sk] w (Ret fun v w' => Ext w w' ∧ v = .bool t.check) := by
 refine tree_Check.ok _ _ _ _ _ ?_
 unfold tree_Check.vc
 have hna := h.nattrs
 intro w1 B1 _ hE1
 refine ⟨_, fun _ => treeSizeS t hb (h.ext hE1), fun w2 hE2 => ⟨_, fun _ => treeDepthS t hb (h.ext (hE1.trans hE2)), fun w3 hE3 w4 hE4 B4 _ hB4 => ?_⟩⟩
 have hE14 := ((hE1.trans hE2).trans hE3).trans hE4
 refine ⟨(t.name.isEmpty && t.text.isEmpty), fun hg => ?_, fun w5 hE5 => ⟨kidsOk t, fun _ => treeKidsS t hb (fun u hu _ _ _ hr => treeNodeS u (by have := T.kid_span hu; omega) hr) (h.ext (hE14.trans hE5)), fun w6 hE6 => ⟨(hE14.trans hE5).trans hE6, ?_⟩⟩⟩
 ·have := treeEmpty (Box.strs (l := [t.name, t.text]) (hB4 hg) (by simp))
  simpa using this
 ·unfold T.check
  have e1 : decide ((t.size : Int) ≤ 300) = decide (t.size ≤ 300) := by rw [Bool.eq_iff_iff]; simp; omega
  have e2 : decide ((t.depth : Int) ≤ 60) = decide (t.depth ≤ 60) := by rw [Bool.eq_iff_iff]; simp; omega
  have e3 : decide ((sa.n : Int) = 0) = t.attrs.isEmpty := by
   rw [hna]; cases t.attrs with
   |nil => rfl
   |cons a r => simp; omega
  rw [e1, e2, e3]
end
section
open Go.RowKit Go.MapKept
theorem ones_ndc (x : Nd) : ∀ u ∈ [ndc x].flatten, u.oneCell' = true := by intro u hu; simp [ndc] at hu; rcases hu with rfl | rfl | rfl | rfl | rfl | rfl | rfl | rfl <;> rfl
section
variable {A : List Nat} {w : World} {D : Nat} {l : Sl} {M : Nat} {m : List (Int × Value)} {X : List Nd}
theorem domPut {B : List Nat} {sa sk : Sl} {ats : List (Str × Str)} (h : Arena A w D l M m X) (hA : ∀ b ∈ A, b < w.heap.size) {id : Int} (hid : ∀ y ∈ X, y.r.id ≠ id) (ha : Row B w sa 2 (ats.map ac)) (hats : ats.length ≤ 1000000) (hX : X.length + 1 ≤ 1000000) (par kind : Int) (name text : Str) :
  Calls Tryz.prog 144 #[.pointer (some ⟨D, 0, none⟩), .int .i64 id, .int .i64 par, .agg #[.int .i64 kind, .string (Bs name), .string (Bs text), sa.v, sk.v]] w (Ret fun v w' => Mod A w w' ∧ v = .tuple #[] ∧ ∃ l' m' x, Arena A w' D l' M m' (X ++ [x]) ∧ x.r = ⟨id, par, kind, name, text, ats, []⟩) := by
 refine dom_Dom_put.ok _ _ _ _ _ _ _ _ ?_
 unfold dom_Dom_put.vc
 intro w1 B1 hN1 hE1
 have hb1 := hN1.ge
 have hDlt := h.box.lt
 have hMlt := h.map.lt
 have hn := h.row.len
 rw [List.length_map] at hn
 refine CallK.ext (cloneAttrs (ha.ext hE1) (by omega)) ?_
 rintro v w2 hE2 ⟨s, rfl, hs⟩
 refine ⟨s, rfl, fun w3 hC3 => ?_⟩
 have hE02 := hE1.trans hE2
 have hE03 : Ext w w3 := Chg.fresh hE02 hC3 (by simpa using hb1)
 have h3 := h.ext hE03
 have hs3 : Own (List.range w1.heap.size) w3 s 2 91 (ats.map ac) := hs.chg hC3 fun b hb => by simp only [List.mem_singleton] at hb; rw [hb]; exact List.mem_range.2 hN1.lt
 refine ⟨some M, by rw [Addr.add_lit]; exact h3.box.cell 1 _ rfl, l, by rw [Addr.add_lit]; exact h3.box.cell 0 _ rfl, fun w4 hE4 => ?_⟩
 have h4 := h3.ext hE4
 have hE04 := hE03.trans hE4
 have hMD : M ≠ D := h4.map.box h4.box
 refine mapUpdate_run keyNum numV_inj Tryz.underlying193 Tryz.underlying3 h4.map id (numV (l.n : Int)) (by simp; omega) fun w5 hC5 hM5 w6 hE6 => ?_
 have hM6 := hM5.ext hE6
 have hbox6 : Box w6 D 195 [l.v, .map (some M)] := (h4.box.keep hC5 (by simpa using hMD.symm)).ext hE6
 refine ⟨l, by rw [Addr.add_lit]; exact hbox6.cell 0 _ rfl, fun w7 B7 hE7 hB7 hbox7 _ => ?_⟩
 have hrow7 : Own (B1 :: A) w7 l 8 197 (X.map ndc) := (((h4.row.keep hC5 (fun b hb hm => h4.row.noMap h4.map (by simp only [List.mem_singleton] at hm; exact hm ▸ hb))).ext hE6).ext hE7).cons fun hm => by
  have := (h.row.blk _ hm).2; omega
 have hsz4 := hE04.size
 have hsz7 : w.heap.size ≤ w7.heap.size := Nat.le_trans (Nat.le_trans hE04.size hC5.size) (Nat.le_trans hE6.size hE7.size)
 have h17 : w1.heap.size ≤ w7.heap.size := by have := hE2.size; have := hC3.size; have := hE4.size; have := hC5.size; have := hE6.size; have := hE7.size; omega
 let x : Nd := ⟨⟨id, par, kind, name, text, ats, []⟩, s, Sl.nil⟩
 have hone : Own [] w7 (Sl.mk (some ⟨B7, 0, none⟩) 1 1) 8 197 [ndc x] := Own.one (A := []) (cs := ndc x) hbox7 (by simp)
 refine App.runK Tryz.underlying192 ti_197 rfl (by decide) (.inl hrow7) (fun b hb => ?_) hone.row (ones_ndc x) (by simp) (by simp only [maxLen, List.length_singleton]; omega) (by simp only [List.length_singleton]; omega) (by simp) fun l' w8 hrow8 hC8 hbl8 => ⟨l', rfl, fun w9 hE9 w10 hE10 => ?_⟩
 ·rcases List.mem_cons.1 hb with rfl | hb
  ·have := hN1.lt; omega
  ·have := hA b hb; omega
 have hE810 := hE9.trans hE10
 have hDl : D ∉ l.own := fun hm => (h.row.other h.box (by decide)) (Sl.own_blk hm)
 have hbox10 : Box w10 D 195 [l.v, .map (some M)] := ((hbox6.ext hE7).keep hC8 hDl).ext hE810
 refine ⟨D, 0, 195, _, by rw [Addr.add_lit], hbox10, by simp, by simp; omega, fun w11 hC11 hB11 => ?_⟩
 have hmod : Mod A w w11 := by
  have m1 : Mod A w w4 := Mod.ext hE04
  have m2 : Mod A w4 w5 := Mod.of hC5 (by simpa using h.mA)
  have m3 : Mod A w5 w7 := Mod.ext (hE6.trans hE7)
  have m4 : Mod A w7 w8 := Mod.of hC8 fun b hb => (h.row.blk b (Sl.own_blk hb)).1
  have m5 : Mod A w10 w11 := Mod.of hC11 (by simpa using h.dA)
  exact ((((m1.trans m2).trans m3).trans m4).trans (Mod.ext hE810)).trans m5
 have kp : ∀ {s : Sl} {size : Nat} {T : TypeId} {vs : List (List Value)}, T ≠ 195 → T ≠ 197 → Own A w s size T vs → Own A w11 s size T vs := fun {s size T vs} h1 h2 ho => by
  have a1 := ho.ext hE04
  have a2 := a1.keep hC5 fun b hb hm => a1.noMap h4.map (by simp only [List.mem_singleton] at hm; exact hm ▸ hb)
  have a3 := (a2.ext hE6).ext hE7
  have a4 := (a3.keep hC8 fun b hb hm => (a3.apart hrow7 h2) b hb (Sl.own_blk hm)).ext hE810
  exact a4.keep hC11 fun b hb hm => (a4.other hbox10 h1) (by simp only [List.mem_singleton] at hm; exact hm ▸ hb)
 have hs11 : Own A w11 s 2 91 (ats.map ac) := by
  have a1 := hs3.ext hE4
  have a2 := a1.keep hC5 fun b hb hm => a1.noMap h4.map (by simp only [List.mem_singleton] at hm; exact hm ▸ hb)
  have a3 := (a2.ext hE6).ext hE7
  have a4 := (a3.keep hC8 fun b hb hm => (a3.apart hrow7 (by decide)) b hb (Sl.own_blk hm)).ext hE810
  have a5 := a4.keep hC11 fun b hb hm => (a4.other hbox10 (by decide)) (by simp only [List.mem_singleton] at hm; exact hm ▸ hb)
  exact a5.less fun b hb => List.mem_range.2 (by have := hA b hb; have := hE1.size; omega)
 have hrow11 : Own A w11 l' 8 197 ((X ++ [x]).map ndc) := by
  have a1 := hrow8.ext hE810
  have a2 := a1.keep hC11 fun b hb hm => (a1.other hbox10 (by decide)) (by simp only [List.mem_singleton] at hm; exact hm ▸ hb)
  rw [List.map_append]
  exact a2.less fun b hb => List.mem_cons_of_mem _ hb
 have hM11 := (((hM6.ext hE7).chg hC8 (fun hm => h.row.noMap h.map (Sl.own_blk hm))).ext hE810).chg hC11 (by simpa using hMD)
 refine ⟨hmod, rfl, l', _, x, h.push x hid hB11 hrow11 hmod (fun y hy => ⟨kp (by decide) (by decide) (h.sa y hy), kp (by decide) (by decide) (h.sk y hy)⟩) hs11 (Own.nil _ _ _ _) (fun b hb => ?_) (by simp [x, Sl.blk]) ⟨hats, by simp [x]⟩ hM11 (by rw [hn]) hX, rfl⟩
 have := (hs.blk b hb).1
 have h1 := hE1.size
 simp at this; omega
end
theorem numL_append : ∀ (ks js : List T) (i : Nat), I.numL (ks ++ js) i = I.numL ks i ++ I.numL js (i + (ks.map T.size).sum)
 |[], js, i => by rw [List.nil_append, I.numL]; rfl
 |t :: r, js, i => by
  rw [List.cons_append, I.numL, I.numL, numL_append r js, List.cons_append, List.map_cons, List.sum_cons, Nat.add_assoc]
theorem numL_snoc {ks : List T} {k : Nat} (h : k < ks.length) (i : Nat) : I.numL (ks.take (k + 1)) i = I.numL (ks.take k) i ++ [I.num (ks.getD k T.nul) (i + ((ks.take k).map T.size).sum)] := by
 rw [take_getD h, numL_append, I.numL, I.numL]
theorem recs_len (u : I) (p : Int) : (u.recs p).length = u.toT.size := by rw [I.size_ids, ← I.recs_id u p, List.length_map]
theorem numL_len : ∀ (ks : List T) (i : Nat) (p : Int), ((I.numL ks i).flatMap fun u => u.recs p).length = (ks.map T.size).sum
 |[], i, p => by rw [I.numL]; rfl
 |t :: r, i, p => by
  rw [I.numL, List.flatMap_cons, List.length_append, numL_len r, recs_len, I.num_toT]; rfl
theorem domLay {D M : Nat} : ∀ (t : T), t.span ≤ 900000 → ∀ {A : List Nat} {w : World} {l : Sl} {m : List (Int × Value)} {X : List Nd} {sa sk : Sl} (par : Int), Arena A w D l M m X → (∀ b ∈ A, b < w.heap.size) → Safe A w t sa sk → (∀ y ∈ X, y.r.id < X.length) → X.length + t.size ≤ 300 →
  Calls Tryz.prog 158 #[.pointer (some ⟨D, 0, none⟩), tv t sa sk, .int .i64 par] w (Ret fun v w' => Mod A w w' ∧ v = .int .i64 (X.length : Int) ∧ ∃ l' m' Y, Arena A w' D l' M m' (X ++ Y) ∧ Y.map Nd.r = (I.num t X.length).recs par) := T.ind' fun t ih hb A w l m X sa sk par h hA hS hids hsz => by
 refine dom_Dom_lay.ok _ _ _ _ _ _ _ ?_
 unfold dom_Dom_lay.vc
 intro w1 B1 hN1 hE1
 have hb1 := hN1.ge
 have hn := h.row.len
 rw [List.length_map] at hn
 have hat : t.attrs.length ≤ 1000000 := by have := T.attrs_span t; omega
 have hkl := T.kids_span t
 have hts := T.size_eq t
 have hnk := hS.nkids
 have hA1 : ∀ b ∈ B1 :: A, b < w1.heap.size := fun b hb => by
  rcases List.mem_cons.1 hb with rfl | hb
  ·exact hN1.lt
  ·have := hA b hb; have := hE1.size; omega
 have h1 : Arena (B1 :: A) w1 D l M m X := (h.wide (A' := B1 :: A) fun b hb => by
  rcases List.mem_cons.1 hb with rfl | hb
  ·exact .inr hb1
  ·exact .inl hb).ext hE1
 have hS1 : Safe (B1 :: A) w1 t sa sk := (hS.mod (Mod.ext hE1)).more fun x hx => List.mem_cons_of_mem _ hx
 refine ⟨l, by rw [Addr.add_lit]; exact h1.box.cell 0 _ rfl, ?_⟩
 have hput := domPut (sk := sk) h1 hA1 (id := (l.n : Int)) (fun y hy => by have := hids y hy; omega) hS1.attrs hat (by omega) par t.kind t.name t.text
 refine CallK.mod hput (by simp) ?_
 rintro v w2 hM2 ⟨rfl, l2, m2, x0, h2, hx0⟩
 refine ⟨rfl, fun j w' => ∃ (k : Nat) (l' : Sl) (m' : List (Int × Value)) (x : Nd) (Y : List Nd), j = (k : Int) ∧ k ≤ t.kids.length ∧ Arena (B1 :: A) w' D l' M m' (X ++ x :: Y) ∧ x.r = ⟨(X.length : Int), par, t.kind, t.name, t.text, t.attrs, (I.numL (t.kids.take k) (X.length + 1)).map I.id⟩ ∧ Y.map Nd.r = (I.numL (t.kids.take k) (X.length + 1)).flatMap (fun u => u.recs (X.length : Int)) ∧ Mod (B1 :: A) w1 w', fun j _ => t.kids.length - j.toNat,
  ⟨0, l2, m2, x0, [], rfl, by omega, h2, by rw [hx0, hn]; simp [I.numL], by simp [I.numL], hM2⟩, ?_⟩
 rintro _ w3 ⟨k, l3, m3, x, Y, rfl, hk, h3, hx, hY, hM3⟩
 have hsz3 := hM3.size
 have hYl : Y.length = ((t.kids.take k).map T.size).sum := by rw [← List.length_map (f := Nd.r), hY, numL_len]
 have hsum : ((t.kids.take k).map T.size).sum ≤ (t.kids.map T.size).sum := sum_take_le T.size _ _
 have hidx : ∀ z ∈ X ++ x :: Y, z.r.id < ((X ++ x :: Y).length : Int) := fun z hz => by
  rw [List.length_append, List.length_cons]
  rcases List.mem_append.1 hz with hz | hz
  ·have := hids z hz; omega
  ·rcases List.mem_cons.1 hz with rfl | hz
   ·rw [hx]; simp only; omega
   ·have hm : z.r.id ∈ (Y.map Nd.r).map Rec.id := List.mem_map_of_mem (List.mem_map_of_mem hz)
    rw [hY, I.map_flatMap_congr (fun v _ => I.recs_id v _), I.numL_ids _ (fun u _ => I.num_ids u)] at hm
    obtain ⟨q, hq, e⟩ := List.mem_map.1 hm
    have := List.mem_range'_1.1 hq
    omega
 refine ⟨fun hlt => ?_, fun hge => ⟨?_, by rw [hn], l3, m3, x :: Y, h3.wide (fun b hb => .inl (List.mem_cons_of_mem _ hb)), ?_⟩⟩
 ·have hk' : k < t.kids.length := by omega
  have hS3 : Safe (B1 :: A) w3 t sa sk := hS1.mod hM3
  obtain ⟨p, sau, sku, hp, _, hc, hru⟩ := hS3.kid hk'
  rw [Int.toNat_natCast]
  have hm := getD_mem (d := T.nul) hk'
  have hsk := sum_take T.size hk'
  have hs2 : ((t.kids.take (k + 1)).map T.size).sum ≤ (t.kids.map T.size).sum := sum_take_le T.size _ _
  refine ⟨⟨by omega, hlt⟩, p, hp, _, _, _, sau, sku, hc, fun w4 B4 hN4 hE4 => ?_⟩
  have hb4 := hN4.ge
  have hA4 : ∀ b ∈ B4 :: B1 :: A, b < w4.heap.size := fun b hb => by
   rcases List.mem_cons.1 hb with rfl | hb
   ·exact hN4.lt
   ·have := hA1 b hb; have := hE4.size; omega
  have h4 : Arena (B4 :: B1 :: A) w4 D l3 M m3 (X ++ x :: Y) := (h3.wide (A' := B4 :: B1 :: A) fun b hb => by
   rcases List.mem_cons.1 hb with rfl | hb
   ·exact .inr hb4
   ·exact .inl hb).ext hE4
  have hSu : Safe (B4 :: B1 :: A) w4 (t.kids.getD k T.nul) sau sku := (Safe.mod (A := B1 :: A) hru (Mod.ext hE4)).more fun b hb => List.mem_cons_of_mem _ hb
  have hcall := ih _ hm (by have := T.kid_span hm; omega) (X.length : Int) h4 hA4 hSu hidx (by rw [List.length_append, List.length_cons]; omega)
  rw [hn]
  refine CallK.mod hcall (by simp) ?_
  rintro v w5 hM5 ⟨rfl, l5, m5, Y5, h5, hY5⟩
  have hlen : (X ++ x :: Y).length = X.length + 1 + ((t.kids.take k).map T.size).sum := by rw [List.length_append, List.length_cons, hYl]; omega
  refine ⟨_, rfl, fun w6 hE6 => ?_⟩
  have h6 := h5.ext hE6
  have hX6 : (X ++ x :: Y ++ Y5)[X.length]? = some x := by simp
  obtain ⟨g, hg, hgb, hcx⟩ := h6.at hX6
  have hxm := List.mem_of_getElem? hX6
  have hn5 := h6.row.len
  rw [List.length_map, List.length_append, hlen] at hn5
  refine ⟨l5, by rw [Addr.add_lit]; exact h6.box.cell 0 _ rfl, l5, by rw [Addr.add_lit]; exact h6.box.cell 0 _ rfl, ⟨g, 0, none⟩, ⟨⟨by omega, by omega⟩, hg⟩, x.sk, ?_, fun w7 B7 hE7 hB7 hbox7 _ => ?_⟩
  ·rw [Int.toNat_natCast, Addr.add_lit, Nat.zero_add]; exact hcx 7 _ rfl
  have h7 := h6.ext hE7
  have hk7 := h7.sk x hxm
  have hxk : x.r.kids.length ≤ 300 := by
   rw [hx]; simp only [List.length_map]
   have hnl : ∀ (ks : List T) (i : Nat), (I.numL ks i).length = ks.length := fun ks => by
    induction ks with
    |nil => intro i; rw [I.numL]; rfl
    |cons a r ih => intro i; rw [I.numL, List.length_cons, ih]; rfl
   rw [hnl, List.length_take]; have := len_sizes t.kids; omega
  have hkn := hk7.len
  rw [List.length_map] at hkn
  have hbox7' : Box w7 B7 3 (ic (((X ++ x :: Y).length : Nat) : Int)) := hbox7
  refine App.runK Tryz.underlying44 ti_3 rfl (by decide) (.inl hk7) (fun b hb => by have := hA4 b hb; have := hM5.size; have := hE6.size; have := hE7.size; omega) (Own.one (A := []) hbox7' (by simp)).row (ones_ics [_]) (by simp) (by simp only [maxLen, List.length_singleton]; omega) (by simp only [List.length_singleton]; omega) (by simp) fun r w8 ho8 hC8 hbl8 => ⟨r, rfl, ?_⟩
  have honly := fun b (hb : b ∈ x.sk.own) => h7.only hX6 (b := b) (.inr (Sl.own_blk hb))
  have hD8 : Box w8 D 195 [l5.v, .map (some M)] := h7.box.keep hC8 fun hm => (honly D hm).2.1 rfl
  obtain ⟨cur, hcur, hcurl⟩ : ∃ cur, Box w7 g 197 cur ∧ cur.length = l5.c * 8 := by
   rcases h7.row.at_ with e | ⟨g', cur, e1, _, e3, e4, _⟩
   ·rw [e] at hg; cases hg
   ·rw [hg] at e1; cases e1; exact ⟨cur, e3, e4⟩
  have hcur8 : Box w8 g 197 cur := hcur.keep hC8 fun hm => (honly g hm).2.2.2.1 (by rw [hgb]; simp)
  have hcx7 : Cells w7 ⟨g, X.length * 8, none⟩ (ndc x) := hcx.ext hE7
  have hcx8 : Cells w8 ⟨g, X.length * 8, none⟩ (ndc x) := hcx7.chg hC8 fun hm => (honly g hm).2.2.2.1 (by rw [hgb]; simp)
  refine ⟨by rw [Addr.add_lit]; exact hD8.cell 0 _ rfl, by rw [Addr.add_lit]; exact hD8.cell 0 _ rfl, by rw [Int.toNat_natCast, Addr.add_lit, Nat.zero_add]; exact hcx8 7 _ rfl, fun w9 hE9 => ⟨⟨g, 0, none⟩, ⟨⟨by omega, by omega⟩, hg⟩, fun w10 hE10 => ?_⟩⟩
  have hE810 := hE9.trans hE10
  have hcap := h7.row.cap
  have hroom : X.length * 8 + 7 + 1 ≤ cur.length := by rw [hcurl]; omega
  refine ⟨g, X.length * 8 + 7, 197, cur, by rw [Int.toNat_natCast, Addr.add_lit, Addr.add_lit, Nat.zero_add], hcur8.ext hE810, hroom, by simp, fun w11 hC11 hB11 => ⟨⟨by omega, by omega⟩, ?_, by dsimp only; omega⟩⟩
  let x' : Nd := ⟨{ x.r with kids := x.r.kids ++ [((X ++ x :: Y).length : Int)] }, x.sa, r⟩
  have hsa8 : Own (B4 :: B1 :: A) w10 x'.sa 2 91 (x'.r.attrs.map ac) := ((h7.sa x hxm).keep hC8 fun b hb hm => ((h7.sa x hxm).apart hk7 (by decide)) b hb (Sl.own_blk hm)).ext hE810
  have hsk8 : Own (B4 :: B1 :: A) w10 x'.sk 1 3 (x'.r.kids.map ic) := by
   show Own _ _ _ _ _ ((x.r.kids ++ [((X ++ x :: Y).length : Int)]).map ic)
   rw [List.map_append]
   exact ho8.ext hE810
  obtain ⟨hup, hupC⟩ := h7.upd hX6 x' rfl (hC8.trans (hE810.mono (by simp))) (fun b hb => .inr (.inl (Sl.own_blk hb))) hsa8 hsk8 (fun b hb => .inl hb) (fun b hb => (hbl8 b hb).imp Sl.own_blk id) ⟨(h7.fit x hxm).1, by simp only [x', List.length_append, List.length_singleton]; omega⟩ hg (hcur8.ext hE810) hC11 hB11 (by simp) rfl
  have hset : (X ++ x :: Y ++ Y5).set X.length x' = X ++ x' :: (Y ++ Y5) := by simp
  rw [hset] at hup
  refine ⟨k + 1, l5, m5, x', Y ++ Y5, by omega, by omega, hup.wide (fun b hb => .inl (List.mem_cons_of_mem _ hb)), ?_, ?_, ?_⟩
  ·show ({ x.r with kids := _ } : Rec) = _
   rw [hx, numL_snoc hk', List.map_append, hlen]
   simp only [List.map_cons, List.map_nil, I.num_id]
  ·rw [List.map_append, hY, hY5, numL_snoc hk', List.flatMap_append, hlen]
   simp
  ·have m1 : Mod (B1 :: A) w4 w5 := hM5.less fun b hb => List.mem_cons_of_mem _ hb
   have m2 : Mod (B1 :: A) w7 w11 := (Mod.of hupC fun b hb => by
    rcases List.mem_cons.1 hb with rfl | hb
    ·exact (h7.row.blk b (by rw [hgb]; simp)).1
    ·exact (honly b hb).1).less fun b hb => List.mem_cons_of_mem _ hb
   exact (((hM3.trans (Mod.ext hE4)).trans m1).trans (Mod.ext (hE6.trans hE7))).trans m2
 ·exact (Mod.ext hE1).trans (hM3.less fun b hb => List.mem_cons_of_mem _ hb)
 ·have hkl' : k = t.kids.length := by omega
  subst hkl'
  rw [List.take_length] at hx hY
  rw [List.map_cons, hY, I.recs_eq, hx, I.num_eq]
  rfl
theorem domNew {X0 : List Nat} {w : World} {t : T} {sa sk : Sl} (hr : RdT X0 w t sa sk) (hb : t.span ≤ 900000) :
  Calls Tryz.prog 115 #[tv t sa sk] w (Ret fun v w' => Ext w w' ∧ ((t.check = false ∧ v = .tuple #[.pointer none, .int .i64 1]) ∨ (t.check = true ∧ ∃ D, v = .tuple #[.pointer (some ⟨D, 0, none⟩), .int .i64 0] ∧ Dom (List.range w.heap.size) w' D (I.num t 0)))) := by
 refine dom_New.ok _ _ _ _ _ ?_
 unfold dom_New.vc
 intro w1 B1 hN1 hE1
 have hb1 := hN1.ge
 refine CallK.exact (treeCheckS (t := t) (by omega) (hr.ext hE1)) fun w2 hE2 => ⟨_, rfl, fun hf => ⟨hE1.trans hE2, .inl ⟨hf, rfl⟩⟩, fun ht => ?_⟩
 refine makeMap_run numV (.int .i64) fun M w3 hE3 hM3 hMap => ⟨some M, rfl, fun w4 D hN4 hE4 hbox => ?_⟩
 have hE14 := (hE2.trans hE3).trans hE4
 have hE04 := hE1.trans hE14
 have hD := hN4.ge
 have hsz12 := hE2.size
 have hsz3 := hE3.size
 have hA0 : ∀ b ∈ List.range w1.heap.size, b < w4.heap.size := fun b hb => by have := List.mem_range.1 hb; have := hE14.size; omega
 have hAr : Arena (List.range w1.heap.size) w4 D Sl.nil M [] [] := by
  refine ⟨hbox, fun hm => ?_, fun hm => ?_, Own.nil _ _ _ _, by simp, by simp, by simp, hMap.ext hE4, fun k => rfl, by simp, by simp, by simp, by simp⟩
  ·have := List.mem_range.1 hm; omega
  ·have := List.mem_range.1 hm; omega
 have hS : Safe (List.range w1.heap.size) w4 t sa sk := (Safe.of (hr.ext hE1) fun x hx => List.mem_range.2 hx).mod (Mod.ext hE14)
 have hs : t.size ≤ 300 := by
  unfold T.check at ht
  simp only [Bool.and_eq_true, decide_eq_true_eq] at ht
  exact ht.1.1.1.1.2
 refine CallK.mod (domLay t hb (-1) hAr hA0 hS (by simp) (by simpa using hs)) (fun b hb => ?_) ?_
 ·simp only [List.mem_singleton] at hb; subst hb; exact List.mem_range.2 hN1.lt
 rintro v w5 hM5 ⟨rfl, l', m', Y, h5, hY⟩
 refine ⟨_, rfl, Mod.fresh hE04 hM5 (fun x hx => List.mem_range.2 (by have := hE1.size; omega)), .inr ⟨ht, D, rfl, l', M, m', Y, ?_, by rw [hY]; exact List.Perm.refl _, I.num_okay ht⟩⟩
 rw [List.nil_append] at h5
 exact h5.wide fun b hb => .inl (List.mem_range.2 (by have := List.mem_range.1 hb; have := hE1.size; omega))
end
section
open Go.RowKit Go.MapKept Cdc
theorem applyNil {X : List Nat} {w : World} {t : T} {sa sk l : Sl} (hr : RdT X w t sa sk) (hb : t.span ≤ 900000) (hck : t.check = true) (hl : l.n = 0) :
  Calls Tryz.prog 37 #[tv t sa sk, l.v] w (Ret fun v w' => Ext w w' ∧ ∃ sa' sk' : Sl, v = .tuple #[tv t sa' sk', .int .i64 0, .int .i64 0] ∧ RdT (List.range w.heap.size) w' t sa' sk') := by
 refine apply_Apply.ok _ _ _ _ _ _ ?_
 unfold apply_Apply.vc
 intro w1 B1 B2 hN1 hN2 _ hE1
 have h2 := hN2.ge
 have hrun : ∀ {w : World}, RdT X w t sa sk → ∀ b, Calls Tryz.prog 64 #[tv t sa sk, l.v, b] w (Ret fun v w' => Ext w w' ∧ ∃ D, v = .tuple #[.pointer (some ⟨D, 0, none⟩), .int .i64 0, .int .i64 0] ∧ Dom (List.range w.heap.size) w' D (I.num t 0)) := by
  intro w hr b
  refine apply_run.ok _ _ _ _ _ _ _ ?_
  unfold apply_run.vc
  intro w1 B1 hN1 hE1
  refine CallK.ext (domNew (hr.ext hE1) hb) ?_
  rintro v w2 hE2 (⟨h, rfl⟩ | ⟨_, D, rfl, hD⟩)
  ·rw [hck] at h; cases h
  rw [hl]
  refine ⟨some ⟨D, 0, none⟩, 0, rfl, fun h => absurd rfl h, fun _ => ⟨fun h => absurd h (by decide), fun _ => CallK.exact (callsC w2) fun w3 hE3 => ⟨rfl, fun w4 B4 hN4 hE4 => ⟨fun x w' => x = 0 ∧ Ext w4 w', fun _ _ => 0, ⟨rfl, Chg.refl _ _⟩, ?_⟩⟩⟩⟩
  rintro _ w5 ⟨rfl, hE5⟩
  refine ⟨fun h => absurd h (by decide), fun _ => ⟨hE1.trans (hE2.trans (hE3.trans (hE4.trans hE5))), D, rfl, (hD.ext (hE3.trans (hE4.trans hE5))).wide fun b hb => .inl (List.mem_range.2 (Nat.lt_of_lt_of_le (List.mem_range.1 hb) hE1.size))⟩⟩
 refine CallK.ext (hrun (hr.ext hE1) _) ?_
 rintro v w2 hE2 ⟨D, rfl, hD⟩
 have hE02 := hE1.trans hE2
 have hfr : ∀ b ∈ [B2], w.heap.size ≤ b := by simpa using h2
 refine ⟨_, 0, 0, rfl, fun h => absurd rfl h, fun _ => CallK.ext (domTree hD) ?_⟩
 rintro v w3 hE3 ⟨sa', sk', rfl, hrd⟩
 rw [I.num_toT] at hrd ⊢
 refine ⟨_, _, _, sa', sk', rfl, fun w4 hC4 => ⟨Chg.fresh (hE02.trans hE3) hC4 hfr, sa', sk', rfl, ?_⟩⟩
 have h4 : RdT (List.range w2.heap.size) w4 t sa' sk' := hrd.chg hC4 (by simp only [List.mem_singleton]; rintro b rfl; exact List.mem_range.2 (Nat.lt_of_lt_of_le hN2.lt hE2.size))
 exact h4.less fun b hb => List.mem_range.2 (Nat.lt_of_lt_of_le (List.mem_range.1 hb) hE02.size)
def resP (t : T) (x y : Nat) : T × Int := if Hsh.hT t ≠ x then (zeroT, 12) else if Hsh.hT t ≠ y then (zeroT, 11) else (t, 0)
theorem patchNil {A B : List Nat} {w : World} {t : T} {sa sk p : Sl} {x y : Nat} (hx : x < 18446744073709551616) (hy : y < 18446744073709551616) (ht : RdT A w t sa sk) (hb : t.bulk ≤ 1000000000) (hs : t.span ≤ 900000) (hck : t.check = true) (hp : RdB B w p (enc x y []).1) :
  Calls Tryz.prog 12 #[tv t sa sk, p.v] w (Ret fun v w' => Ext w w' ∧ ∃ sa' sk' : Sl, v = .tuple #[tv (resP t x y).1 sa' sk', .int .i64 (resP t x y).2] ∧ RdT [] w' (resP t x y).1 sa' sk') := by
 refine codec_Patch.ok _ _ _ _ _ _ ?_
 unfold codec_Patch.vc
 intro w1 B1 B2 hN1 hN2 _ hE1
 have h2 := hN2.ge
 have hfr : ∀ b ∈ [B2], w.heap.size ≤ b := by simpa using h2
 refine CallK.exact (treeCheck t (by omega) (ht.ext hE1)) fun w2 hE2 => ⟨t.check, rfl, fun h => absurd h (by rw [hck]; decide), fun _ => ?_⟩
 refine CallK.ext (decode (hp.ext (hE1.trans hE2))) ?_
 rintro v w3 hE3 ⟨l, rfl, hl, _⟩
 have hd := dec_enc (x := x) (y := y) (ops := []) hx hy (by simp) (enc_nil_len x y).2
 have hln := hl.len
 rw [hd] at hln ⊢
 simp only [List.map_nil, List.length_nil] at hln
 have hE03 := hE1.trans (hE2.trans hE3)
 refine ⟨_, _, l, _, rfl, fun h => absurd rfl h, fun _ => CallK.exact (hashOf hb (ht.ext hE03)) fun w4 hE4 => ⟨_, rfl, fun hne w5 hC5 => ?_, fun heq => ?_⟩⟩
 ·have hne' : Hsh.hT t ≠ x := fun h => hne (by simp [h])
  have e : resP t x y = (zeroT, 12) := if_pos hne'
  rw [e]
  exact ⟨Chg.fresh (hE03.trans hE4) hC5 hfr, Sl.nil, Sl.nil, rfl, RdT.nil _ _ _ _ _⟩
 have hxe : ¬ Hsh.hT t ≠ x := fun h => heq (fun h2 => h (Int.ofNat.inj h2))
 have hE04 := hE03.trans hE4
 refine CallK.ext (applyNil (ht.ext hE04) hs hck hln) ?_
 rintro v w5 hE5 ⟨sa', sk', rfl, hr5⟩
 refine ⟨_, _, _, sa', sk', _, _, rfl, fun h => absurd rfl h, fun _ w6 B6 hN6 hE6 => CallK.exact (hashOf hb (hr5.ext hE6)) fun w7 hE7 => ⟨_, rfl, fun hne w8 hC8 => ?_, fun heq2 w8 hC8 => ?_⟩⟩
 ·have hne' : Hsh.hT t ≠ y := fun h => hne (by simp [h])
  have e : resP t x y = (zeroT, 11) := by unfold resP; rw [if_neg hxe, if_pos hne']
  rw [e]
  exact ⟨Chg.fresh (hE04.trans (hE5.trans (hE6.trans hE7))) hC8 hfr, Sl.nil, Sl.nil, rfl, RdT.nil _ _ _ _ _⟩
 ·have hye : ¬ Hsh.hT t ≠ y := fun h => heq2 (fun h2 => h (Int.ofNat.inj h2))
  have e : resP t x y = (t, 0) := by unfold resP; rw [if_neg hxe, if_neg hye]
  rw [e]
  refine ⟨Chg.fresh (hE04.trans (hE5.trans (hE6.trans hE7))) hC8 hfr, sa', sk', rfl, ?_⟩
  have h7 := hr5.ext (hE6.trans hE7)
  have h8 : RdT (List.range w4.heap.size) w8 t sa' sk' := h7.chg hC8 (by simp only [List.mem_singleton]; rintro b rfl; exact List.mem_range.2 (Nat.lt_of_lt_of_le hN2.lt (Nat.le_trans hE2.size (Nat.le_trans hE3.size hE4.size))))
  exact h8.less (by simp)
theorem low8n (x : Nat) {n : Nat} (h : n < 8) : (lowB 8 x).take (n + 1) = (lowB 8 x).take n ++ [UInt8.ofNat (x / 2 ^ (8 * n))] := by
 have hn : n = 0 ∨ n = 1 ∨ n = 2 ∨ n = 3 ∨ n = 4 ∨ n = 5 ∨ n = 6 ∨ n = 7 := by omega
 rcases hn with rfl | rfl | rfl | rfl | rfl | rfl | rfl | rfl <;> simp [lowB, Nat.div_div_eq_div_mul]
theorem refEight (x : Nat) {w : World} : Calls Tryz.prog 23 #[.int .u64 (x : Int)] w (Ret fun v w' => Ext w w' ∧ ∃ s : Sl, v = s.v ∧ OwnB [] w' s 5 (lowB 8 x)) := by
 refine ref01_Eight.ok _ ?_
 unfold ref01_Eight.vc
 refine ⟨fun s i w' => ∃ n : Nat, n ≤ 8 ∧ i = (n : Int) ∧ OwnB [] w' s 5 ((lowB 8 x).take n) ∧ Ext w w' ∧ ∀ b ∈ s.blk, w.heap.size ≤ b, fun _ i _ => 8 - i.toNat, ⟨0, by omega, rfl, Own.nil _ _ _ _, Chg.refl _ _, by simp [Sl.blk]⟩, ?_⟩
 rintro s _ w2 ⟨n, hn, rfl, hO, hE2, hbl⟩
 have e0 : IntKind.u64.wrap (8 * (n : Int)) = 8 * (n : Int) := by rw [IntKind.wrap_u64]; omega
 rw [e0]
 refine ⟨fun hlt => ⟨⟨by omega, by omega⟩, ⟨by omega, by omega⟩, fun w3 B hN hE3 hB => ?_⟩, fun hge => ⟨hE2, s, rfl, ?_⟩⟩
 ·have hv : IntKind.u8.wrap ((x : Int) / 2 ^ (8 * (n : Int)).toNat) = (((UInt8.ofNat (x / 2 ^ (8 * n))).toNat : Nat) : Int) := by
   rw [show (8 * (n : Int)).toNat = 8 * n by omega, divPow, IntKind.wrap_u8]
   simp
  obtain ⟨s', w4, hr, ho, hsz, hc, hb4⟩ := appendOne _ hO.app hE3 hB hv (by rw [List.length_take]; omega)
  refine ⟨_, _, hr, (fun _ hb => by cases hb), hsz, s', rfl, ⟨by omega, by omega⟩, ⟨n + 1, by omega, by omega, ?_, Chg.fresh hE2 hc (fun b hb => hbl b (Sl.own_blk hb)), fun b hb => (hb4 b hb).elim (fun h => hbl b (Sl.own_blk h)) (fun h => Nat.le_trans hE2.size h)⟩, by dsimp only; omega⟩
  rw [low8n x (by omega)]; exact ho
 ·have hn8 : n = 8 := by omega
  rw [hn8, List.take_of_length_le (by rw [lowB_len]; exact Nat.le_refl _)] at hO
  exact hO
theorem codecBaseLaw {w : World} {l : Sl} {zs : List Int} (hl : Row [] w l 1 (zs.map ic)) (x y : Nat) (hx : x < 18446744073709551616) (hy : y < 18446744073709551616) :
  Calls Tryz.prog 5 #[l.v, .int .u64 (x : Int), .int .u64 (y : Int)] w (Ret fun v w' => Ext w w' ∧ v = .bool true) := by
 refine law24_CodecBase.ok _ _ _ ?_
 unfold law24_CodecBase.vc
 refine CallK.ext (lawGrownT hl) ?_
 rintro v w1 hE1 ⟨us, sk, rfl, hN, hG⟩
 have hbulk := hG.bulk
 have hchk := hG.check
 have hrd : RdT [] w1 (grownT us) Sl.nil sk := (hN.less (by simp)).rd (k := 1) (n := []) (x := []) (ats := []) (Row.nil _ _ _)
 have hspan := T.span_bulk (grownT us)
 generalize grownT us = t at hbulk hchk hrd hspan
 clear hN hG
 refine ⟨t.kind, t.name, t.text, Sl.nil, sk, rfl, fun w2 B2 hN2 hE2 => ?_⟩
 have hH := Hsh.hT_lt t
 refine CallK.exact (ref18Of t (by omega) (hrd.ext hE2)) fun w3 hE3 => ⟨_, rfl, ?_⟩
 have hres : ∀ {x y : Nat}, resP t x y = if Hsh.hT t ≠ x then (zeroT, 12) else if Hsh.hT t ≠ y then (zeroT, 11) else (t, 0) := rfl
 refine CallK.ext (encNil x y) ?_
 rintro v w4 hE4 ⟨p, rfl, hp, _⟩
 refine ⟨p, _, rfl, CallK.ext (encNil (Hsh.hT t) y) ?_⟩
 rintro v w5 hE5 ⟨q, rfl, hq, _⟩
 refine ⟨q, _, rfl, CallK.ext (encNil (Hsh.hT t) (Hsh.hT t)) ?_⟩
 rintro v w6 hE6 ⟨r, rfl, hr, _⟩
 have hE26 := hE3.trans (hE4.trans (hE5.trans hE6))
 have hr6 := (hrd.ext hE2).ext hE26
 refine ⟨r, _, rfl, CallK.ext (patchNil hx hy hr6 (by omega) (by omega) hchk (RdB.ext hp.rd (hE5.trans hE6))) ?_⟩
 rintro v w7 hE7 ⟨a1, a2, rfl, ha⟩
 refine ⟨_, _, _, a1, a2, _, rfl, fun w8 B8 hN8 hE8 => CallK.ext (patchNil hH hy (hr6.ext (hE7.trans hE8)) (by omega) (by omega) hchk (RdB.ext hq.rd (hE6.trans (hE7.trans hE8)))) ?_⟩
 rintro v w9 hE9 ⟨b1, b2, rfl, hb⟩
 refine ⟨_, _, _, b1, b2, _, rfl, fun w10 B10 hN10 hE10 => CallK.ext (patchNil hH hH (hr6.ext (hE7.trans (hE8.trans (hE9.trans hE10)))) (by omega) (by omega) hchk (RdB.ext hr.rd (hE7.trans (hE8.trans (hE9.trans hE10))))) ?_⟩
 rintro v w11 hE11 ⟨c1, c2, rfl, hc⟩
 have hE06 := hE1.trans (hE2.trans hE26)
 have hE7_11 := hE7.trans (hE8.trans (hE9.trans (hE10.trans hE11)))
 have e1 := (enc_nil_len x y).2
 have e2 := (enc_nil_len (Hsh.hT t) y).2
 have e3 := (enc_nil_len (Hsh.hT t) (Hsh.hT t)).2
 have ec : resP t (Hsh.hT t) (Hsh.hT t) = (t, 0) := by rw [hres, if_neg (by simp), if_neg (by simp)]
 rw [ec] at hc ⊢
 rw [e1, e2, e3]
 have eb : ((resP t (Hsh.hT t) y).2 = 0 ∧ Hsh.hT t = y) ∨ (resP t (Hsh.hT t) y = (zeroT, 11) ∧ Hsh.hT t ≠ y) := by
  by_cases h : Hsh.hT t = y
  ·left; rw [hres, if_neg (by simp), if_neg (by simp [h])]; exact ⟨rfl, h⟩
  ·right; rw [hres, if_neg (by simp), if_pos h]; exact ⟨rfl, h⟩
 have ea : ((resP t x y).2 = 0 ∧ Hsh.hT t = x) ∨ (resP t x y = (zeroT, 12) ∧ Hsh.hT t ≠ x) ∨ (resP t x y = (zeroT, 11) ∧ Hsh.hT t = x) := by
  by_cases h : Hsh.hT t = x
  ·by_cases h2 : Hsh.hT t = y
   ·left; rw [hres, if_neg (by simp [h]), if_neg (by simp [h2])]; exact ⟨rfl, h⟩
   ·right; right; rw [hres, if_neg (by simp [h]), if_pos h2]; exact ⟨rfl, h⟩
  ·right; left; rw [hres, if_pos h]; exact ⟨rfl, h⟩
 generalize resP t (Hsh.hT t) y = rb at hb eb
 generalize resP t x y = ra at ha ea
 have c1' : (decide (ra.2 = 12) == decide ((x : Int) ≠ ((Hsh.hT t : Nat) : Int))) = true := by
  rcases ea with ⟨h, h2⟩ | ⟨h, h2⟩ | ⟨h, h2⟩
  ·rw [h, h2]; simp
  ·rw [h]; have : ¬ (x : Int) = ((Hsh.hT t : Nat) : Int) := fun e => h2 (by omega)
   simp [this]
  ·rw [h, h2]; simp
 have c2' : (decide (rb.2 = 0) == decide ((y : Int) = ((Hsh.hT t : Nat) : Int))) = true := by
  rcases eb with ⟨h, h2⟩ | ⟨h, h2⟩
  ·rw [h, h2]; simp
  ·rw [h]; have : ¬ (y : Int) = ((Hsh.hT t : Nat) : Int) := fun e => h2 (by omega)
   simp [this]
 have c3' : rb.2 = 0 ∨ rb.2 = 11 := by
  rcases eb with ⟨h, _⟩ | ⟨h, _⟩
  ·exact .inl h
  ·exact .inr (by rw [h])
 refine ⟨_, _, _, c1, c2, _, rfl, fun hbad => ?_, fun _ w12 B12 hN12 hE12 => ?_⟩
 ·exfalso
  rcases hbad with ((((h | h) | h) | h) | h) | h
  ·exact h rfl
  ·exact h rfl
  ·exact h rfl
  ·rw [c1'] at h; cases h
  ·rw [c2'] at h; cases h
  ·rcases c3' with h' | h'
   ·exact h.1 h'
   ·exact h.2 h'
 have hE6_12 := hE7_11.trans hE12
 have same : ∀ {w' : World} {u v : T} {s1 s2 s3 s4 : Sl}, u = v → RdT [] w' u s1 s2 → RdT [] w' v s3 s4 → Calls Tryz.prog 13 #[tv u s1 s2, tv v s3 s4] w' (Ret fun b w'' => Ext w' w'' ∧ b = .bool true) := by
  intro w' u v s1 s2 s3 s4 e h1 h2
  have := refSame u v h1 h2
  rw [decide_eq_true ((T.cmp_zero u v).2 e)] at this
  exact this
 refine ⟨true, fun _ => same rfl (hc.ext hE12) (hr6.ext hE6_12), fun w13 hE13 => ⟨true, fun h => ?_, fun w14 hE14 => ⟨true, fun h => ?_, fun w15 hE15 => ?_⟩⟩⟩
 ·have hz : ra.1 = zeroT := by
   rcases ea with ⟨e, _⟩ | ⟨e, _⟩ | ⟨e, _⟩
   ·exact absurd e h.2
   ·rw [e]
   ·rw [e]
  have hz0 : RdT [] w13 zeroT Sl.nil Sl.nil := RdT.nil [] w13 0 [] []
  have := same hz (ha.ext (hE8.trans (hE9.trans (hE10.trans (hE11.trans (hE12.trans hE13)))))) hz0
  exact this
 ·have hz : rb.1 = zeroT := by
   rcases eb with ⟨e, _⟩ | ⟨e, _⟩
   ·exact absurd e h.2
   ·rw [e]
  have hz0 : RdT [] w14 zeroT Sl.nil Sl.nil := RdT.nil [] w14 0 [] []
  have := same hz (hb.ext (hE10.trans (hE11.trans (hE12.trans (hE13.trans hE14))))) hz0
  exact this
 refine ⟨fun s w' => OwnB [] w' s 5 (lowB 8 (Hsh.hT t)), fun _ => Ret.mono (refEight (Hsh.hT t)) fun v w' ⟨h1, s, h2, h3⟩ => ⟨h1, s, h2, h3⟩, fun s w16 hE16 hV => ?_⟩
 have hval : val ((lowB 8 (Hsh.hT t)).map fun b => b.toNat) = Hsh.hT t := by rw [val_low]; exact Nat.mod_eq_of_lt (by omega)
 refine ⟨((Hsh.hT t : Nat) : Int), fun h => ?_, fun w17 hE17 => ⟨true, fun _ => cdcAwake w17, fun w18 hE18 => ⟨hE06.trans (hE6_12.trans (hE13.trans (hE14.trans (hE15.trans (hE16.trans (hE17.trans hE18)))))), ?_⟩⟩⟩
 ·have := refOf (OwnB.rd (hV h)) (by rw [lowB_len]; exact Nat.le_refl _)
  rw [hval] at this
  exact this
 ·simp
end
end Go.Proofs.YteacalmdpoblpaaGreat
