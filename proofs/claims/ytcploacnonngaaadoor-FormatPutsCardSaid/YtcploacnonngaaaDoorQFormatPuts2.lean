/-
  What the proof of the statement leans on: texts one behind the other.
-/
import Derived.Test.YtcploacnonngaaaDoorQFormatPuts0
import Derived.Test.YtcploacnonngaaaDoorQFormatPutsGlaw00
import Derived.Test.YtcploacnonngaaaDoorQFormatPutsGlib
import Derived.Test.YtcploacnonngaaaDoorQFormatPutsGformat
import Derived.Test.YtcploacnonngaaaDoorQFormatPutsGT
import Derived.Test.YtcploacnonngaaaDoorQFormatPutsGlaw13awake
import Derived.Lib.AppendZerosOnto
import Derived.Lib.Overlaps
import Derived.Lib.Bytealg
import Derived.MapKept
namespace Go.Proofs.YtcploacnonngaaaDoor
section
open Go.RowKit

def byteOk (c : UInt8) : Bool := !(c.toNat == 9 || c.toNat == 10 || c.toNat == 12 || c.toNat == 32 || c.toNat == 0 || c.toNat == 34 || c.toNat == 39 || c.toNat == 62 || c.toNat == 47 || c.toNat == 61 || c.toNat == 60) && !(decide (65 ≤ c.toNat) && decide (c.toNat ≤ 90))

def nameOk (s : Str) : Bool := !(s.isEmpty) && decide (s.length ≤ 32) && s.all byteOk

def attrsOk : Str → List (Str × Str) → Bool
  | _, [] => true
  | last, p :: r => !(Op.bytesLess p.1 last) && !(decide (p.1 = last)) && nameOk p.1 && decide (p.2.length ≤ 4096) && attrsOk p.1 r

def nodeOk : T → Bool
  | .node k n x ats ks => if k = 2 then nameOk n && x.isEmpty && (decide (ats.length ≤ 12) && attrsOk [] ats) && ((ks.attach.map fun ⟨t, _⟩ => nodeOk t && !(decide (t.kind = 5))).all id)
    else ats.isEmpty && ks.isEmpty && (if k = 3 then n.isEmpty && !x.isEmpty && decide (x.length ≤ 4096) else if k = 4 then n.isEmpty && decide (x.length ≤ 4096) else if k = 5 then x.isEmpty && decide (n.length ≤ 32) else false)

def kidsOk (t : T) : Bool := t.kids.all fun u => nodeOk u && !(decide (u.kind = 5) && !(decide (t.kind = 1)))

def T.check (t : T) : Bool := decide (t.kind = 1) && decide (t.size ≤ 300) && decide (t.depth ≤ 60) && (t.name.isEmpty && t.text.isEmpty) && t.attrs.isEmpty && kidsOk t

theorem nodeOk_el {t : T} (h : t.kind = 2) : nodeOk t = (nameOk t.name && t.text.isEmpty && (decide (t.attrs.length ≤ 12) && attrsOk [] t.attrs) && kidsOk t) := by
  cases t with
  | node k n x ats ks =>
    have h : k = 2 := h
    subst h
    have e : (ks.attach.map fun (x : { x // x ∈ ks }) => nodeOk x.1 && !(decide (T.kind x.1 = 5))) = ks.map fun u => nodeOk u && !(decide (T.kind u = 5)) := List.attach_map_val (f := fun u => nodeOk u && !(decide (T.kind u = 5)))
    have e2 : kidsOk (.node 2 n x ats ks) = (ks.map fun u => nodeOk u && !(decide (T.kind u = 5))).all id := by
      unfold kidsOk; rw [List.all_map]; simp [T.kind, T.kids, Function.comp_def]
    rw [nodeOk, if_pos rfl, e2, ← e]; rfl

theorem nodeOk_ne {t : T} (h : t.kind ≠ 2) : nodeOk t = (t.attrs.isEmpty && t.kids.isEmpty && (if t.kind = 3 then t.name.isEmpty && !t.text.isEmpty && decide (t.text.length ≤ 4096) else if t.kind = 4 then t.name.isEmpty && decide (t.text.length ≤ 4096) else if t.kind = 5 then t.text.isEmpty && decide (t.name.length ≤ 32) else false)) := by
  cases t with
  | node k n x ats ks =>
    have h : k ≠ 2 := h
    rw [nodeOk, if_neg h]; rfl
end

section
open Go.RowKit

theorem App.runK {P : Program} {A bx : List Nat} {w : World} {s x : Sl} {size bytes : Nat} {t ty T : TypeId} {z : Value} {vs us : List (List Value)} {K : Value → World → Prop} (ht : P.underlying t = some (.slice T)) (hi : TI P T z size bytes) (hzs : z.cells.size = size) (hsz : 0 < size)
    (h : App A w s size T vs) (hA : ∀ b ∈ A, b < w.heap.size) (hx : Row [] w x size us) (h1 : ∀ u ∈ us.flatten, u.oneCell' = true) (hu : us ≠ [])
    (h63 : s.n + us.length ≤ maxLen) (hbytes : (s.n + us.length) * bytes ≤ 140737488355328) (hbx : ∀ b ∈ bx, b ∈ A)
    (k : ∀ s' w', Own A w' s' size T (vs ++ us) → Chg s.own w w' → (∀ b ∈ s'.blk, b ∈ s.own ∨ w.heap.size ≤ b) → K s'.v w') :
    RunK P (Builtin.append_ #[t, t] ty #[s.v, x.v]) w bx K := by
  obtain ⟨s', w', hr, ho, hc, hb⟩ := append_app (ty := ty) ht hi hzs hsz h hA hx h1 hu h63 hbytes
  refine ⟨_, _, hr, hc.noTouch _ (fun b hb hm => ?_), hc.size, k s' w' ho (hc.mono fun b hb => (List.mem_filter.1 hb).1) hb⟩
  have := (List.mem_filter.1 hm).2
  have := hbx b hb
  simp_all

theorem Own.avoid {A A' : List Nat} {w : World} {s : Sl} {size : Nat} {T : TypeId} {vs : List (List Value)} (h : Own A w s size T vs) (hA : ∀ b ∈ s.blk, b ∉ A') : Own A' w s size T vs :=
  ⟨h.len, h.cap, h.most, h.each, h.at_.imp_right fun ⟨g, cur, h1, _, h3⟩ => ⟨g, cur, h1, hA g (by simp [Sl.blk, h1]), h3⟩⟩

theorem Own.less {A A' : List Nat} {w : World} {s : Sl} {size : Nat} {T : TypeId} {vs : List (List Value)} (h : Own A w s size T vs) (hA : ∀ b ∈ A', b ∈ A) : Own A' w s size T vs :=
  h.avoid fun b hb hm => (h.blk b hb).1 (hA b hm)

theorem Own.other {A : List Nat} {w : World} {s : Sl} {size : Nat} {T S : TypeId} {vs : List (List Value)} (h : Own A w s size T vs) {B : Nat} {cs : List Value} (hB : Box w B S cs) (hne : T ≠ S) : B ∉ s.blk := by
  intro hm
  rcases h.at_ with e | ⟨g, cur, h1, _, h3, _⟩
  · rw [e] at hm; simp [Sl.blk, Sl.nil] at hm
  · simp [Sl.blk, h1] at hm; subst hm
    unfold Box at h3 hB; rw [h3] at hB; simp at hB; exact hne hB.2

theorem Own.cons {A : List Nat} {w : World} {s : Sl} {size : Nat} {T : TypeId} {vs : List (List Value)} (h : Own A w s size T vs) {B : Nat} (hB : B ∉ s.blk) : Own (B :: A) w s size T vs :=
  h.avoid fun b hb hm => by
    rcases List.mem_cons.1 hm with e | hm
    · subst e; exact hB hb
    · exact (h.blk b hb).1 hm

theorem Own.keep {A F : List Nat} {w w' : World} {s : Sl} {size : Nat} {T : TypeId} {vs : List (List Value)} (h : Own A w s size T vs) (c : Chg F w w') (hF : ∀ b ∈ s.blk, b ∉ F) : Own A w' s size T vs :=
  ⟨h.len, h.cap, h.most, h.each, h.at_.imp_right fun ⟨g, cur, h1, h2, h3, h4⟩ => ⟨g, cur, h1, h2, h3.keep c (hF g (by simp [Sl.blk, h1])), h4⟩⟩

theorem Row.keep {A F : List Nat} {w w' : World} {s : Sl} {size : Nat} {vs : List (List Value)} (h : Row A w s size vs) (c : Chg F w w') (hF : ∀ b ∈ s.blk, b ∉ F) : Row A w' s size vs :=
  ⟨h.len, h.cap, h.most, fun i hi => by
    obtain ⟨p, h1, h2, h3, h4⟩ := h.at_ i hi
    exact ⟨p, h1, h2, h3.chg c (by rw [Addr.add_block]; exact hF _ (by simp [Sl.blk, h1])), h4⟩⟩
end

section
open Go.RowKit

theorem ones_ac (p : Str × Str) : ∀ u ∈ [ac p].flatten, u.oneCell' = true := by intro u hu; simp [ac] at hu; rcases hu with rfl | rfl <;> rfl

theorem ones_acs (l : List (Str × Str)) : ∀ u ∈ (l.map ac).flatten, u.oneCell' = true := by
  intro u hu
  obtain ⟨c, hc, hu⟩ := List.mem_flatten.1 hu
  obtain ⟨p, _, rfl⟩ := List.mem_map.1 hc
  exact ones_ac p u (by simpa using hu)
end

section
open Go.RowKit

theorem Row.one {A : List Nat} {w : World} {B : Nat} {S : TypeId} {cs : List Value} (h : Box w B S cs) (hA : B ∉ A) : Row A w (Sl.mk (some ⟨B, 0, none⟩) 1 1) cs.length [cs] :=
  ⟨rfl, Nat.le_refl _, by simp [maxLen], fun i hi => by
    have : i = 0 := by simpa using hi
    subst this
    exact ⟨_, rfl, hA, by rw [Nat.zero_mul, Addr.add_zero']; exact h.cells, rfl⟩⟩
end

section
open Go.RowKit

theorem place {w : World} (v n : Int) (hn : 0 < n) (hn63 : n ≤ 9223372036854775807) : Calls Tryd.prog 7 #[.int .i64 v, .int .i64 n] w (Ret fun u w' => Ext w w' ∧ u = .int .i64 (v.emod n)) := by
  refine law00_Place.ok _ _ ?_
  unfold law00_Place.vc
  have h1 := Int.tmod_eq_emod (a := v) (b := n)
  have h2 := Int.emod_nonneg v (show n ≠ 0 by omega)
  have h3 := Int.emod_lt_of_pos v hn
  have h4 : (((if 0 ≤ v ∨ n ∣ v then 0 else n.natAbs : Nat)) : Int) = 0 ∨ (((if 0 ≤ v ∨ n ∣ v then 0 else n.natAbs : Nat)) : Int) = n := by
    split
    · exact .inl rfl
    · right; omega
  generalize (((if 0 ≤ v ∨ n ∣ v then 0 else n.natAbs : Nat)) : Int) = q at h1 h4
  refine ⟨by omega, fun h => ⟨⟨by omega, by omega⟩, Chg.refl _ _, ?_⟩, fun h => ⟨Chg.refl _ _, ?_⟩⟩
  · show Value.int .i64 _ = Value.int .i64 (v % n)
    rw [show v.tmod n + n = v % n by omega]
  · show Value.int .i64 _ = Value.int .i64 (v % n)
    rw [show v.tmod n = v % n by omega]
end

section
open Go.RowKit

def ic (z : Int) : List Value := [.int .i64 z]

/-- No attribute has this name. -/
inductive Calm : T → Prop where
  | node (k : Int) (n x : Str) (ats : List (Str × Str)) (ks : List T) : (∀ p ∈ ats, p.1 ≠ [122, 122]) → (∀ u ∈ ks, Calm u) → Calm (.node k n x ats ks)

/-- What may be said of a node that is grown. -/
structure Sprout (d : Nat) (t : T) : Prop where
  ok : nodeOk t = true
  kind : 2 ≤ t.kind ∧ t.kind ≤ 4
  deep : t.depth ≤ d
  few : t.bulk ≤ 15 * t.size
  calm : Calm t

theorem Sprout.up {d e : Nat} {t : T} (h : Sprout d t) (he : d ≤ e) : Sprout e t := ⟨h.ok, h.kind, Nat.le_trans h.deep he, h.few, h.calm⟩
end

section
open Go.RowKit

/-- What may be said of the kids of a tree that is grown. -/
structure Grove (us : List T) : Prop where
  ne : us ≠ []
  each : ∀ u ∈ us, Sprout 6 u
  few : (us.map T.size).sum ≤ 40

def grownT (us : List T) : T := .node 1 [] [] [] us

theorem Grove.check {us : List T} (h : Grove us) : (grownT us).check = true := by
  have hs : (grownT us).size ≤ 41 := by rw [T.size_eq]; have := h.few; simp only [grownT, T.kids]; omega
  have hd : (grownT us).depth ≤ 7 := by
    rw [T.depth_eq]
    have : ((grownT us).kids.map T.depth).foldr max 0 ≤ 6 := T.foldr_max_le fun x hx => by
      obtain ⟨u, hm, rfl⟩ := List.mem_map.1 hx
      exact (h.each u hm).deep
    omega
  have hk : kidsOk (grownT us) = true := by
    unfold kidsOk
    rw [List.all_eq_true]
    intro u hm
    have := h.each u hm
    have h3 := this.kind
    rw [this.ok, decide_eq_false (by omega : ¬ u.kind = 5)]; rfl
  unfold T.check
  rw [hk, decide_eq_true (show (grownT us).size ≤ 300 by omega), decide_eq_true (show (grownT us).depth ≤ 60 by omega)]; rfl
end

section
open Go.RowKit

theorem putAt_right (us : List Value) : ∀ (l m : List Value) (o : Nat), putAt (l ++ m) (l.length + o) us = l ++ putAt m o us := by
  induction us with
  | nil => intro l m o; rfl
  | cons u us ih =>
    intro l m o
    rw [putAt, putAt, List.set_append_right _ _ (by omega), show l.length + o - l.length = o by omega, Nat.add_assoc, ih]

theorem putAt_left (us : List Value) : ∀ (v m : List Value) (o : Nat), o + us.length ≤ v.length → putAt (v ++ m) o us = putAt v o us ++ m := by
  induction us with
  | nil => intro v m o _; rfl
  | cons u us ih =>
    intro v m o h
    simp only [List.length_cons] at h
    rw [putAt, putAt, List.set_append_left _ _ (by omega), ih _ _ _ (by simp; omega)]

theorem putAt_len (us : List Value) : ∀ (v : List Value) (o : Nat), (putAt v o us).length = v.length := by
  induction us with
  | nil => intro v o; rfl
  | cons u us ih => intro v o; rw [putAt, ih, List.length_set]

/-- One group of an own row is written, or a part of it. -/
theorem Own.put {A : List Nat} {w w' : World} {s : Sl} {size g o j : Nat} {T : TypeId} {vs : List (List Value)} {cur us : List Value} (h : Own A w s size T vs) (ha : s.a = some ⟨g, 0, none⟩) (hb : Box w g T cur) (hj : j < vs.length) (ho : o + us.length ≤ size) (hb' : Box w' g T (putAt cur (j * size + o) us)) :
    Own A w' s size T (vs.set j (putAt (vs.getD j []) o us)) := by
  have hl := h.len
  have hv : (vs.getD j []).length = size := h.each _ (by rw [List.getD_eq_getElem?_getD, List.getElem?_eq_getElem hj]; exact List.getElem_mem hj)
  refine ⟨by rw [List.length_set]; exact hl, h.cap, h.most, fun u hu => ?_, .inr ⟨g, putAt cur (j * size + o) us, ha, ?_, hb', ?_, ?_⟩⟩
  · rcases List.mem_or_eq_of_mem_set hu with hu | hu
    · exact h.each u hu
    · rw [hu, putAt_len]; exact hv
  · rcases h.at_ with e | ⟨g', cur', h1, h2, _⟩
    · rw [e] at ha; cases ha
    · rw [ha] at h1; cases h1; exact h2
  all_goals
    rcases h.at_ with e | ⟨g', cur', h1, h2, h3, h4, h5⟩
    · rw [e] at ha; cases ha
    · rw [ha] at h1
      cases h1
      have e : cur = cur' := by unfold Box at hb h3; rw [hb] at h3; simpa using h3
      subst e
      first
      | rw [putAt_len]; exact h4
      | have hsplit : vs = vs.take j ++ vs.getD j [] :: vs.drop (j + 1) := by
          rw [List.getD_eq_getElem?_getD, List.getElem?_eq_getElem hj]
          exact (List.take_append_drop j vs).symm.trans (by rw [List.drop_eq_getElem_cons hj]; rfl)
        have hset : vs.set j (putAt (vs.getD j []) o us) = vs.take j ++ putAt (vs.getD j []) o us :: vs.drop (j + 1) := by
          rw [List.set_eq_take_append_cons_drop, if_pos hj]
        have hcur : cur = vs.flatten ++ cur.drop (s.n * size) := by rw [← h5, List.take_append_drop]
        have hjl : (vs.take j).flatten.length = j * size := by
          rw [flatten_len (vs.take j) (fun u hu => h.each u (List.mem_of_mem_take hu)), List.length_take, Nat.min_eq_left (by omega)]
        have hfl : vs.flatten = (vs.take j).flatten ++ (vs.getD j [] ++ (vs.drop (j + 1)).flatten) := by
          conv => lhs; rw [hsplit]
          rw [List.flatten_append, List.flatten_cons]
        have hlen : vs.flatten.length = s.n * size := by rw [flatten_len vs h.each, hl]
        have e1 : cur = (vs.take j).flatten ++ (vs.getD j [] ++ ((vs.drop (j + 1)).flatten ++ cur.drop (s.n * size))) := by
          conv => lhs; rw [hcur, hfl]
          simp only [List.append_assoc]
        have e2 : putAt cur (j * size + o) us = (vs.take j).flatten ++ (putAt (vs.getD j []) o us ++ ((vs.drop (j + 1)).flatten ++ cur.drop (s.n * size))) := by
          conv => lhs; rw [e1]
          rw [← hjl, putAt_right, putAt_left _ _ _ _ (by omega)]
        generalize cur.drop (s.n * size) = rest at e2
        rw [e2, hset, List.flatten_append, List.flatten_cons]
        have e3 : ((vs.take j).flatten ++ (putAt (vs.getD j []) o us ++ (vs.drop (j + 1)).flatten)).length = s.n * size := by
          rw [← hlen, hfl]; simp only [List.length_append, putAt_len]
        have e4 : (vs.take j).flatten ++ (putAt (vs.getD j []) o us ++ ((vs.drop (j + 1)).flatten ++ rest)) = ((vs.take j).flatten ++ (putAt (vs.getD j []) o us ++ (vs.drop (j + 1)).flatten)) ++ rest := by simp only [List.append_assoc]
        rw [← e3, e4, List.take_left]
end

section
open Go.RowKit

theorem putAt_eq (us : List Value) : ∀ (cs : List Value) (o : Nat), o + us.length ≤ cs.length → putAt cs o us = cs.take o ++ us ++ cs.drop (o + us.length) := fun cs o h => by
  have e : cs = cs.take o ++ cs.drop o := (List.take_append_drop o cs).symm
  have hl : (cs.take o).length = o := by rw [List.length_take]; omega
  have h1 := putAt_right us (cs.take o) (cs.drop o) 0
  rw [hl, Nat.add_zero, ← e] at h1
  have e2 : cs.drop o = (cs.drop o).take us.length ++ cs.drop (o + us.length) := by
    rw [← List.drop_drop, List.take_append_drop]
  have hl2 : ((cs.drop o).take us.length).length = us.length := by rw [List.length_take, List.length_drop]; omega
  have h2 := putAt_left us ((cs.drop o).take us.length) (cs.drop (o + us.length)) 0 (by omega)
  rw [← e2] at h2
  have h3 : ∀ (us v : List Value), v.length = us.length → putAt v 0 us = us := by
    have key : ∀ (us l v : List Value), v.length = us.length → putAt (l ++ v) l.length us = l ++ us := by
      intro us
      induction us with
      | nil => intro l v hv; rw [List.length_eq_zero_iff.1 hv]; rfl
      | cons u us ih =>
        intro l v hv
        cases v with
        | nil => simp at hv
        | cons x v =>
          rw [putAt]
          have e3 : (l ++ x :: v).set l.length u = (l ++ [u]) ++ v := by simp
          rw [e3]
          have := ih (l ++ [u]) v (by simpa using hv)
          simp only [List.length_append, List.length_singleton] at this
          rw [this]; simp
    intro us v hv
    exact key us [] v hv
  rw [h1, h2, h3 us _ hl2, List.append_assoc]

theorem copyK {P : Program} {w : World} {bx : List Nat} {t ty T : TypeId} {z : Value} {size bytes : Nat} {d s : Sl} {g o : Nat} {cur vs : List Value} {ps : Addr} {K : Value → World → Prop} (ht : P.underlying t = some (.slice T)) (hi : TI P T z size bytes) (hd : d.a = some ⟨g, o, none⟩) (hB : Box w g T cur) (hs : s.a = some ps)
    (hlen : vs.length = min s.n d.n * size) (hfit : o + vs.length ≤ cur.length) (hsrc : Cells w ps vs) (h1 : ∀ v ∈ vs, v.oneCell' = true) (hbx : g ∉ bx)
    (k : ∀ w', Chg [g] w w' → Box w' g T (putAt cur o vs) → K (.int .i64 ((min s.n d.n : Nat) : Int)) w') : RunK P (Builtin.copy_ #[t, t] ty #[d.v, s.v]) w bx K := by
  have hl := run_loadCells_list (P := P) w ps vs hsrc
  have hst := run_storeCells_box (P := P) o vs 0 hB (by simpa using hfit) h1
  have hc := setCells_chg g vs w o
  refine ⟨_, _, ?_, hc.noTouch _ (fun b hb hm => by simp at hm; exact hbx (hm ▸ hb)), hc.size, k (setCells w g o vs) hc (setCells_box vs hB)⟩
  unfold Sl.v
  rw [hd, hs]
  rw [hlen] at hl
  have hm : Nat.min s.n d.n = min s.n d.n := rfl
  rw [Nat.add_zero] at hst
  simp [Builtin.copy_, run_underlying ht, Builtin.lenOf, Builtin.firstCells, hi.sizeOf, hm, hl, hst, goInt, Result.andThen]

theorem zerosK {P : Program} {w : World} {bx : List Nat} {t tn ty T : TypeId} {z : Value} {size bytes : Nat} {s : Sl} {olds : List Value} {ps : Addr} {n : Nat} {K : Value → World → Prop} (ht : P.underlying t = some (.slice T)) (htn : P.underlying tn = some (.int .i64)) (hi : TI P T z size bytes) (hsz : 0 < size) (hzs : z.cells.size = size)
    (hs : s.a = some ps) (hold : Cells w ps olds) (hol : olds.length = s.n * size) (hn : 0 < n) (hg : s.c < s.n + n) (h63 : s.n + n ≤ maxLen) (hbytes : (s.n + n) * bytes ≤ 140737488355328)
    (k : ∀ G w' zz, s.n + n ≤ G → G ≤ maxLen → Ext w w' → zz.length = (G - s.n) * size → Box w' w.heap.size T (olds ++ zz) → K (Sl.mk (some ⟨w.heap.size, 0, none⟩) (s.n + n) G).v w') : RunK P (Builtin.append_ #[t, tn] ty #[s.v, .int .i64 (n : Int)]) w bx K := by
  obtain ⟨i, h1, h2, h3, h4⟩ := hi
  subst h3 h4
  have hsmall : s.n + n ≤ 9223372036854775807 := by simp only [maxLen] at h63; omega
  have hfirst : (Builtin.firstCells i.size s.n (.slice (some ps) s.n s.c)).run P w.drew = .ok olds.toArray w.drew := by
    have := run_loadCells_list (P := P) w.drew ps olds hold
    rw [hol] at this
    simpa [Builtin.firstCells] using this
  have hr := Lib.run_append_grow_zeros (P := P) w t tn ty T i z .i64 .i64 ht htn h1 h2 (some ps) s.n s.c olds hfirst n hn hsz hg (by omega) (by have := hbytes; rw [Nat.add_mul] at this; omega) (growslice_fits hg hbytes)
  have hE : Ext w (w.drew.alloc (.cells (olds.toArray ++ Builtin.zeroCells z.cells n ++ Builtin.zeroCells z.cells (grownCap w (s.n + n) s.c T - (s.n + n))) T)) := ((Chg.refl [] w).drew).trans (Ext.alloc _ _)
  have hge := grownCap_ge w (s.n + n) s.c T
  have hcm : grownCap w (s.n + n) s.c T ≤ maxLen := grownCap_le_maxLen w (s.n + n) s.c T h63
  refine ⟨_, _, ?_, hE.noTouch _, hE.size, k (grownCap w (s.n + n) s.c T) _ ((Builtin.zeroCells z.cells n).toList ++ (Builtin.zeroCells z.cells (grownCap w (s.n + n) s.c T - (s.n + n))).toList) hge hcm hE ?_ ?_⟩
  · unfold Sl.v; rw [hs]; exact hr
  · simp only [List.length_append, Array.length_toList, size_zeroCells, hzs, ← Nat.add_mul]
    congr 1; omega
  · unfold Box
    have := heap_alloc_new w.drew (.cells (olds.toArray ++ Builtin.zeroCells z.cells n ++ Builtin.zeroCells z.cells (grownCap w (s.n + n) s.c T - (s.n + n))) T)
    rw [show w.drew.heap.size = w.heap.size from rfl] at this
    rw [this]
    simp

theorem shape_box {w : World} {B : Nat} {T : TypeId} {cs : List Value} (h : Box w B T cs) : w.shape? B = some (T, cs.length) := by
  unfold Box at h; simp [World.shape?, h]
end

section
open Go.RowKit

structure En where
  par : Int
  dep : Nat
  pl : Nat
  t : T

def goE : List (Nat × (Nat → Int → Nat → Nat → List En)) → Nat → Int → Nat → Nat → List En
  | [], _, _, _, _ => []
  | (s, f) :: r, nx, p, d, i => f nx p d i ++ goE r (nx + s) p d (i + 1)

def T.ents : T → Nat → Int → Nat → Nat → List En
  | .node k n x ats ks, id, p, d, pl => ⟨p, d, pl, .node k n x ats ks⟩ :: goE (ks.attach.map fun ⟨t, _⟩ => (t.size, ents t)) (id + 1) id (d + 1) 0

/-- All nodes of a tree, in order. -/
def T.flat (t : T) : List En := t.ents 0 (-1) 0 0

/-- What is still to come, when these stand on the stack (the next one first). -/
def rem : List (T × Int × Nat × Nat) → Nat → List En
  | [], _ => []
  | (t, p, d, pl) :: r, id => t.ents id p d pl ++ rem r (id + t.size)
end

section
open Go.RowKit

theorem Own.one {A : List Nat} {w : World} {B : Nat} {S : TypeId} {cs : List Value} (h : Box w B S cs) (hA : B ∉ A) : Own A w (Sl.mk (some ⟨B, 0, none⟩) 1 1) cs.length S [cs] :=
  ⟨rfl, Nat.le_refl _, by simp [maxLen], by simp, .inr ⟨B, cs, rfl, hA, h, by simp, by simp⟩⟩

/-- A node stands there, with all in it. -/
def AtT (A : List Nat) (w : World) (p : Addr) (t : T) : Prop := p.block ∉ A ∧ ∃ sa sk : Sl, Cells w p (tc t (sa, sk)) ∧ RdT A w t sa sk

theorem AtT.chg {A F : List Nat} {w w' : World} {p : Addr} {t : T} (h : AtT A w p t) (c : Chg F w w') (hF : ∀ b ∈ F, b ∈ A) : AtT A w' p t := by
  obtain ⟨h1, sa, sk, h2, h3⟩ := h
  exact ⟨h1, sa, sk, h2.chg c fun hm => h1 (hF _ hm), RdT.chg c hF h3⟩

theorem AtT.ext {A : List Nat} {w w' : World} {p : Addr} {t : T} (h : AtT A w p t) (c : Ext w w') : AtT A w' p t := h.chg c (by simp)

theorem AtT.less {A A' : List Nat} {w : World} {p : Addr} {t : T} (h : AtT A w p t) (hA : ∀ b ∈ A', b ∈ A) : AtT A' w p t := by
  obtain ⟨h1, sa, sk, h2, h3⟩ := h
  exact ⟨fun hm => h1 (hA _ hm), sa, sk, h2, h3.less hA⟩

theorem AtT.lt {A : List Nat} {w : World} {p : Addr} {t : T} (h : AtT A w p t) : p.block < w.heap.size := by
  obtain ⟨_, sa, sk, h2, _⟩ := h
  have := World.block_lt_of_cell? w _ (h2 0 _ rfl)
  simpa [Addr.add_block] using this

/-- More blocks that are not read: such as were to be avoided, or are newer. -/
theorem RdT.wide {A A' : List Nat} {w : World} {t : T} {sa sk : Sl} (h : RdT A w t sa sk) (hA : ∀ b ∈ A', b ∈ A ∨ w.heap.size ≤ b) : RdT A' w t sa sk := by
  have h2 : ∀ L : List Nat, (∀ b ∈ L, b ∈ A ∨ w.heap.size ≤ b) → RdT (L ++ A) w t sa sk := fun L => by
    induction L with
    | nil => intro _; exact h
    | cons b L ih =>
      intro hL
      have h3 := ih (fun b hb => hL b (List.mem_cons_of_mem _ hb))
      rcases hL b (List.mem_cons_self ..) with hm | hm
      · refine h3.less fun x hx => ?_
        rcases List.mem_append.1 hx with hx | hx
        · rcases List.mem_cons.1 hx with e | hx
          · subst e; exact List.mem_append_right _ hm
          · exact List.mem_append_left _ hx
        · exact List.mem_append_right _ hx
      · exact h3.fresh hm
  exact (h2 A' hA).less fun b hb => List.mem_append_left _ hb

theorem AtT.wide {A A' : List Nat} {w : World} {p : Addr} {t : T} (h : AtT A w p t) (hA : ∀ b ∈ A', b ∈ A ∨ w.heap.size ≤ b) : AtT A' w p t := by
  have hl := h.lt
  obtain ⟨h1, sa, sk, h2, h3⟩ := h
  exact ⟨fun hm => (hA _ hm).elim h1 (fun h => by omega), sa, sk, h2, h3.wide hA⟩

theorem cloneAttrs {A : List Nat} {w : World} {s : Sl} {l : List (Str × Str)} (h : Row A w s 2 (l.map ac)) (hb : l.length ≤ 1099511627776) :
    Calls Tryd.prog 32 #[s.v] w (Ret fun v w' => Ext w w' ∧ ∃ s' : Sl, v = s'.v ∧ Own (List.range w.heap.size) w' s' 2 28 (l.map ac)) := by
  refine slices_Clone__api_Attr_api_Attr_.ok _ ?_
  unfold slices_Clone__api_Attr_api_Attr_.vc
  have hl := h.len
  simp only [List.length_map] at hl
  refine ⟨fun hn => ⟨Chg.refl _ _, Sl.nil, rfl, ?_⟩, fun hn w1 B hN hE hB => ?_⟩
  · have : l = [] := by
      cases l with
      | nil => rfl
      | cons x r =>
        obtain ⟨p, hp, _⟩ := h.at_ 0 (by simp)
        rw [hp] at hn; simp at hn
    subst this; exact Own.nil _ _ _ _
  · have hown : Own (List.range w.heap.size) w1 (Sl.mk (some ⟨B, 0, none⟩) 0 0) 2 28 [] :=
      ⟨rfl, Nat.le_refl _, by simp, by simp, .inr ⟨B, [], rfl, by have := hN.ge; simp; omega, hB, by simp, by simp⟩⟩
    cases hx : l with
    | nil =>
      have e := append_none (P := Tryd.prog) (w := w1) (s := Sl.mk (some ⟨B, 0, none⟩) 0 0) (x := s) (t := 29) (ty := 29) Tryd.underlying29 ti_28 (Nat.le_refl _) (by rw [hl, hx]; rfl)
      exact ⟨_, _, e, fun b hb => by simp at hb, Nat.le_refl _, _, rfl, hE, _, rfl, hown⟩
    | cons x r =>
      rw [← hx]
      refine App.runK Tryd.underlying29 ti_28 rfl (by decide) (.inl hown) (fun b hb => Nat.lt_of_lt_of_le (List.mem_range.1 hb) hE.size) ((h.ext hE).less (by simp)) (ones_acs l) (by rw [hx]; simp) (by simp [maxLen]; omega) (by simp; omega) (by simp) fun s' w' ho hc hb => ⟨s', rfl, ?_, s', rfl, by simpa using ho⟩
      exact hE.more (hc.mono (by simp [Sl.own]))

def T.hAt (t : T) (i : Nat) : Nat := (t.flat.getD i ⟨0, 0, 0, T.nul⟩).t.depth
end

section
open Go.RowKit

theorem T.ext {t u : T} (h1 : t.kind = u.kind) (h2 : t.name = u.name) (h3 : t.text = u.text) (h4 : t.attrs = u.attrs) (h5 : t.kids = u.kids) : t = u := by
  cases t; cases u; cases h1; cases h2; cases h3; cases h4; cases h5; rfl
end

section
open Go.RowKit

theorem drop_at {α : Type} (l : List α) (d : α) {k : Nat} (h : k < l.length) : l.drop k = l.getD k d :: l.drop (k + 1) := by
  rw [List.drop_eq_getElem_cons h, List.getD_eq_getElem?_getD, List.getElem?_eq_getElem h]; rfl
end

section
open Go.RowKit

theorem Row.int {A : List Nat} {w : World} {s : Sl} {l : List Int} (h : Row A w s 1 (l.map ic)) {k : Nat} (hk : k < l.length) : ∃ p, s.a = some p ∧ w.cell? (p.add (k * 1)) = some (.int .i64 (l.getD k 0)) := by
  obtain ⟨p, hp, _, hc, _⟩ := h.at_ k (by simpa using hk)
  refine ⟨p, hp, ?_⟩
  have e : (l.map ic).getD k [] = ic (l.getD k 0) := by simp [List.getD_eq_getElem?_getD, hk]
  rw [e] at hc
  have := hc 0 _ rfl
  rwa [Addr.add_zero'] at this

theorem Row.attr {A : List Nat} {w : World} {s : Sl} {l : List (Str × Str)} (h : Row A w s 2 (l.map ac)) {k : Nat} (hk : k < l.length) : ∃ p, s.a = some p ∧ Cells w (p.add (k * 2)) (ac (l.getD k ([], []))) := by
  obtain ⟨p, hp, _, hc, _⟩ := h.at_ k (by simpa using hk)
  refine ⟨p, hp, ?_⟩
  have e : (l.map ac).getD k [] = ac (l.getD k ([], [])) := by simp [List.getD_eq_getElem?_getD, hk]
  rwa [e] at hc

theorem clearK {P : Program} {w : World} {bx : List Nat} {t ty T : TypeId} {z : Value} {size bytes : Nat} {s : Sl} {g o : Nat} {cur : List Value} {K : World → Prop} (ht : P.underlying t = some (.slice T)) (hi : TI P T z size bytes) (hzs : z.cells.size = size) (hs : s.a = some ⟨g, o, none⟩) (hB : Box w g T cur) (hfit : o + s.n * size ≤ cur.length) (hz1 : ∀ v ∈ (Builtin.zeroCells z.cells s.n).toList, v.oneCell' = true) (hbx : g ∉ bx)
    (k : ∀ w' zz, Chg [g] w w' → zz.length = s.n * size → Box w' g T (putAt cur o zz) → K w') : RunN P (Builtin.clear_ #[t] ty #[s.v]) w bx K := by
  have hzl : (Builtin.zeroCells z.cells s.n).toList.length = s.n * size := by rw [Array.length_toList, size_zeroCells, hzs]
  have hst := run_storeCells_box (P := P) o (Builtin.zeroCells z.cells s.n).toList 0 hB (by rw [hzl]; simpa using hfit) hz1
  have hc := setCells_chg g (Builtin.zeroCells z.cells s.n).toList w o
  rw [Nat.add_zero] at hst
  refine ⟨setCells w g o (Builtin.zeroCells z.cells s.n).toList, ?_, hc.noTouch _ (fun b hb hm => by simp at hm; exact hbx (hm ▸ hb)), hc.size, k _ _ hc hzl (setCells_box _ hB)⟩
  unfold Sl.v
  rw [hs]
  cases hn : s.n with
  | zero =>
    have e : (Builtin.zeroCells z.cells 0).toList = [] := by simp [Builtin.zeroCells]
    rw [e]
    simp [Builtin.clear_, run_underlying ht, setCells]
  | succ n =>
    rw [hn] at hst
    simp [Builtin.clear_, run_underlying ht, hi.zeroValue, hst, Result.andThen]
end

section
open Go.RowKit Go.MapKept

/-- Block B is a map that holds this. -/
structure MapIs {κ : Type} (f : κ → Value) (d : TypeDesc) (w : World) (B : Nat) (m : List (κ × Value)) : Prop where
  at_ : ∃ es clock, w.heap[B]? = some (.map es clock) ∧ es.toList.map (fun e => (e.key, e.val)) = m.map fun p => (f p.1, p.2)

theorem MapIs.lt {κ : Type} {f : κ → Value} {d : TypeDesc} {w : World} {B : Nat} {m : List (κ × Value)} (h : MapIs f d w B m) : B < w.heap.size := by
  obtain ⟨es, clock, h1, _⟩ := h.at_
  exact (Array.getElem?_eq_some_iff.1 h1).1

theorem MapIs.chg {κ : Type} {f : κ → Value} {d : TypeDesc} {w w' : World} {F : List Nat} {B : Nat} {m : List (κ × Value)} (h : MapIs f d w B m) (c : Chg F w w') (hB : B ∉ F) : MapIs f d w' B m := by
  have hl := h.lt
  obtain ⟨es, clock, h1, h2⟩ := h.at_
  exact ⟨es, clock, by rw [c.block B hl hB]; exact h1, h2⟩

theorem MapIs.ext {κ : Type} {f : κ → Value} {d : TypeDesc} {w w' : World} {B : Nat} {m : List (κ × Value)} (h : MapIs f d w B m) (c : Ext w w') : MapIs f d w' B m := h.chg c (by simp)

variable {κ : Type} [DecidableEq κ]

def mget (m : List (κ × Value)) (k : κ) : Option Value := (m.find? fun p => decide (p.1 = k)).map (·.2)

def mput (m : List (κ × Value)) (k : κ) (v : Value) : List (κ × Value) :=
  match m with
  | [] => [(k, v)]
  | p :: r => if p.1 = k then (k, v) :: r else p :: mput r k v

theorem find_of {f : κ → Value} {d : TypeDesc} (hf : ∀ x, IsKey d (f x)) (hi : ∀ x y, f x = f y → x = y) (k : κ) : ∀ (es : List MapEntry) (m : List (κ × Value)) (i : Nat), es.map (fun e => (e.key, e.val)) = m.map (fun p => (f p.1, p.2)) →
    (Instr.findNow d (f k) es i = some none ∧ mget m k = none ∧ (∀ v, m ++ [(k, v)] = mput m k v)) ∨ ∃ j v, Instr.findNow d (f k) es i = some (some (i + j, v)) ∧ mget m k = some v ∧ j < es.length ∧ (∃ e, es[j]? = some e ∧ e.key = f k) ∧ ∀ u, (es.modify j fun e => { e with key := f k, val := u }).map (fun e => (e.key, e.val)) = (mput m k u).map fun p => (f p.1, p.2)
  | [], [], i, _ => .inl ⟨rfl, rfl, fun _ => rfl⟩
  | [], _ :: _, i, h => by cases h
  | _ :: _, [], i, h => by cases h
  | e :: es, p :: m, i, h => by
    simp only [List.map_cons, List.cons.injEq, Prod.mk.injEq] at h
    obtain ⟨⟨hk, hv⟩, hr⟩ := h
    obtain ⟨r, hs, hiff⟩ := sameNow_of_keys (hf k) (hk ▸ hf p.1 : IsKey d e.key)
    cases r with
    | true =>
      have e1 : p.1 = k := hi _ _ (by rw [← hk]; exact (hiff.1 rfl).symm)
      refine .inr ⟨0, e.val, by simp [Instr.findNow, hs], by simp [mget, e1, hv], by simp, ⟨e, rfl, by rw [hk, e1]⟩, fun u => ?_⟩
      simp [mput, e1, hr]
    | false =>
      have e1 : ¬ p.1 = k := fun q => by have := hiff.2 (by rw [hk, q]); cases this
      rcases find_of hf hi k es m (i + 1) hr with ⟨h1, h2, h3⟩ | ⟨j, v, h1, h2, h3, h4, h5⟩
      · refine .inl ⟨by simp [Instr.findNow, hs, h1], ?_, fun v => ?_⟩
        · have : mget (p :: m) k = mget m k := by simp [mget, e1]
          rw [this, h2]
        · rw [mput, if_neg e1, ← h3 v]; rfl
      · refine .inr ⟨j + 1, v, by simp [Instr.findNow, hs, h1]; omega, ?_, by simp; omega, by simpa using h4, fun u => ?_⟩
        · have : mget (p :: m) k = mget m k := by simp [mget, e1]
          rw [this, h2]
        · rw [mput, if_neg e1]
          simp only [List.modify_succ_cons, List.map_cons]
          rw [h5 u, hk, hv]
end

section
open Go.RowKit

def insAt {α : Type} (i : Nat) (u : α) (l : List α) : List α := l.take i ++ u :: l.drop i

theorem insAt_perm {α : Type} (i : Nat) (u : α) (l : List α) : (insAt i u l).Perm (u :: l) := by
  unfold insAt
  refine List.perm_middle.trans ?_
  rw [List.take_append_drop]

theorem insAt_map {α β : Type} (f : α → β) (i : Nat) (u : α) (l : List α) : (insAt i u l).map f = insAt i (f u) (l.map f) := by
  simp [insAt, List.map_take, List.map_drop]

theorem insAt_mem {α : Type} {i : Nat} {u x : α} {l : List α} : x ∈ insAt i u l ↔ x = u ∨ x ∈ l := by
  rw [(insAt_perm i u l).mem_iff, List.mem_cons]

theorem insAt_len {α : Type} (i : Nat) (u : α) (l : List α) : (insAt i u l).length = l.length + 1 := by
  rw [(insAt_perm i u l).length_eq]; rfl

theorem insAt_flatMap {α β : Type} (f : α → List β) (i : Nat) (u : α) (l : List α) : ((insAt i u l).flatMap f).Perm (l.flatMap f ++ f u) := by
  unfold insAt
  rw [List.flatMap_append, List.flatMap_cons]
  have e : l.flatMap f = (l.take i).flatMap f ++ (l.drop i).flatMap f := by rw [← List.flatMap_append, List.take_append_drop]
  rw [e, List.append_assoc]
  exact List.Perm.append_left _ List.perm_append_comm

inductive I where
  | node (id kind : Int) (name text : Str) (attrs : List (Str × Str)) (kids : List I)

structure Rec where
  id : Int
  par : Int
  kind : Int
  name : Str
  text : Str
  attrs : List (Str × Str)
  kids : List Int

theorem inj_of_nodup {α β : Type} {f : α → β} : ∀ {l : List α}, (l.map f).Nodup → ∀ {x y : α}, x ∈ l → y ∈ l → f x = f y → x = y
  | [], _, _, _, h, _, _ => by cases h
  | a :: r, hn, x, y, hx, hy, e => by
    rw [List.map_cons] at hn
    obtain ⟨h1, h2⟩ := List.nodup_cons.1 hn
    rcases List.mem_cons.1 hx with hx | hx
    · rcases List.mem_cons.1 hy with hy | hy
      · rw [hx, hy]
      · exact absurd (by rw [← hx, e]; exact List.mem_map_of_mem hy) h1
    · rcases List.mem_cons.1 hy with hy | hy
      · exact absurd (by rw [← hy, ← e]; exact List.mem_map_of_mem hx) h1
      · exact inj_of_nodup h2 hx hy e

namespace I

def id : I → Int | .node i _ _ _ _ _ => i

def kind : I → Int | .node _ k _ _ _ _ => k

def name : I → Str | .node _ _ n _ _ _ => n

def text : I → Str | .node _ _ _ x _ _ => x

def attrs : I → List (Str × Str) | .node _ _ _ _ a _ => a

def kids : I → List I | .node _ _ _ _ _ ks => ks

theorem ind {P : I → Prop} (h : ∀ i k n x ats ks, (∀ t ∈ ks, P t) → P (.node i k n x ats ks)) : ∀ t, P t
  | .node i k n x ats ks => h i k n x ats ks fun t _ => ind h t

theorem ind' {P : I → Prop} (h : ∀ t, (∀ u ∈ t.kids, P u) → P t) : ∀ t, P t := ind fun _ _ _ _ _ _ ih => h _ ih

theorem mk_id (i k : Int) (n x : Str) (a : List (Str × Str)) (ks : List I) : (node i k n x a ks).id = i := rfl

theorem mk_kind (i k : Int) (n x : Str) (a : List (Str × Str)) (ks : List I) : (node i k n x a ks).kind = k := rfl

theorem mk_name (i k : Int) (n x : Str) (a : List (Str × Str)) (ks : List I) : (node i k n x a ks).name = n := rfl

theorem mk_text (i k : Int) (n x : Str) (a : List (Str × Str)) (ks : List I) : (node i k n x a ks).text = x := rfl

theorem mk_attrs (i k : Int) (n x : Str) (a : List (Str × Str)) (ks : List I) : (node i k n x a ks).attrs = a := rfl

theorem mk_kids (i k : Int) (n x : Str) (a : List (Str × Str)) (ks : List I) : (node i k n x a ks).kids = ks := rfl

def toT : I → T | .node _ k n x a ks => .node k n x a (ks.attach.map fun ⟨u, _⟩ => toT u)

theorem toT_eq (s : I) : s.toT = .node s.kind s.name s.text s.attrs (s.kids.map toT) := by cases s; rw [toT]; simp [kind, name, text, attrs, kids]

def rec0 (s : I) (p : Int) : Rec := ⟨s.id, p, s.kind, s.name, s.text, s.attrs, s.kids.map I.id⟩

/-- All nodes: each with what is in it, its parent's number, its level. -/
def all : I → Int → Nat → List (I × Int × Nat) | .node i k n x a ks, p, d => (.node i k n x a ks, p, d) :: (ks.attach.map fun ⟨u, _⟩ => all u i (d + 1)).flatten

theorem all_eq (s : I) (p : Int) (d : Nat) : s.all p d = (s, p, d) :: s.kids.flatMap fun u => u.all s.id (d + 1) := by
  cases s with
  | node i k n x a ks =>
    rw [all, List.flatMap]
    congr 2
    exact List.attach_map_val (f := fun u => all u i (d + 1))

def recs (s : I) (p : Int) : List Rec := (s.all p 1).map fun e => e.1.rec0 e.2.1

theorem map_flatMap_congr {α β γ : Type} {f : β → γ} {g : α → List β} {h : α → List γ} : ∀ {l : List α}, (∀ x ∈ l, (g x).map f = h x) → (l.flatMap g).map f = l.flatMap h
  | [], _ => rfl
  | x :: r, e => by
    rw [List.flatMap_cons, List.flatMap_cons, List.map_append, e x (by simp), map_flatMap_congr (fun y hy => e y (by simp [hy]))]

theorem all_recs : ∀ (s : I) (p : Int) (d : Nat), ((s.all p d).map fun e => e.1.rec0 e.2.1) = s.recs p := ind' fun s ih p d => by
  unfold recs
  rw [all_eq, all_eq s p 1, List.map_cons, List.map_cons, map_flatMap_congr (fun u hu => ih u hu s.id (d + 1)), map_flatMap_congr (fun u hu => ih u hu s.id (1 + 1))]

theorem recs_eq (s : I) (p : Int) : s.recs p = s.rec0 p :: s.kids.flatMap fun u => u.recs s.id := by
  unfold recs
  rw [all_eq, List.map_cons, map_flatMap_congr (fun u _ => all_recs u s.id (1 + 1))]; rfl

def ids (s : I) : List Int := (s.recs 0).map Rec.id

theorem recs_ids : ∀ (s : I) (p q : Int), (s.recs p).map Rec.id = (s.recs q).map Rec.id := fun s p q => by
  rw [recs_eq, recs_eq, List.map_cons, List.map_cons]; rfl

theorem ids_eq (s : I) : s.ids = s.id :: s.kids.flatMap ids := by
  unfold ids
  rw [recs_eq, List.map_cons, map_flatMap_congr (fun u _ => recs_ids u s.id 0)]; rfl

theorem recs_id (s : I) (p : Int) : (s.recs p).map Rec.id = s.ids := recs_ids s p 0

theorem kid_ids {s u : I} (h : u ∈ s.kids) {x : Int} (hx : x ∈ u.ids) : x ∈ s.ids := by
  rw [ids_eq]; exact List.mem_cons_of_mem _ (List.mem_flatMap.2 ⟨u, h, hx⟩)

def ins : I → Int → Nat → I → I | .node id k n x a ks, p, i, u => if id = p then .node id k n x a (insAt i u ks) else .node id k n x a (ks.attach.map fun ⟨v, _⟩ => ins v p i u)

theorem ins_here {s : I} {p : Int} (i : Nat) (u : I) (h : s.id = p) : s.ins p i u = .node s.id s.kind s.name s.text s.attrs (insAt i u s.kids) := by
  cases s with
  | node i' k n x a ks => rw [ins, if_pos (show i' = p from h)]; rfl

theorem ins_deep {s : I} {p : Int} (i : Nat) (u : I) (h : s.id ≠ p) : s.ins p i u = .node s.id s.kind s.name s.text s.attrs (s.kids.map (fun v => v.ins p i u)) := by
  cases s with
  | node i' k n x a ks =>
    rw [ins, if_neg (show i' ≠ p from h)]
    congr 1
    exact List.attach_map_val (f := fun v => ins v p i u)

theorem ins_id (s : I) (p : Int) (i : Nat) (u : I) : (s.ins p i u).id = s.id := by
  by_cases h : s.id = p
  · rw [ins_here i u h]; rfl
  · rw [ins_deep i u h]; rfl

theorem ins_kind (s : I) (p : Int) (i : Nat) (u : I) : (s.ins p i u).kind = s.kind := by
  by_cases h : s.id = p
  · rw [ins_here i u h]; rfl
  · rw [ins_deep i u h]; rfl

theorem map_self {α : Type} {f : α → α} {l : List α} (h : ∀ x ∈ l, f x = x) : l.map f = l := by
  have e := List.map_congr_left (g := fun x => x) h
  rw [e, List.map_id']

theorem eta (s : I) : I.node s.id s.kind s.name s.text s.attrs s.kids = s := by cases s; rfl

theorem ins_none : ∀ (s : I) {p : Int} (i : Nat) (u : I), p ∉ s.ids → s.ins p i u = s := ind' fun s ih p i u h => by
  rw [ids_eq] at h
  have h1 : s.id ≠ p := fun e => h (by simp [e])
  have h2 : s.kids.map (fun v => v.ins p i u) = s.kids := map_self fun v hv => ih v hv i u fun hm => h (List.mem_cons_of_mem _ (List.mem_flatMap.2 ⟨v, hv, hm⟩))
  rw [ins_deep i u h1, h2, eta]

def insK (p : Int) (i : Nat) (k : Int) (r : Rec) : Rec := if r.id = p then { r with kids := insAt i k r.kids } else r

theorem insK_id (p : Int) (i : Nat) (k : Int) (r : Rec) : (insK p i k r).id = r.id := by unfold insK; split <;> rfl

theorem rec0_ins (s : I) (p : Int) (i : Nat) (u : I) (q : Int) : (s.ins p i u).rec0 q = insK p i u.id (s.rec0 q) := by
  by_cases h : s.id = p
  · rw [ins_here i u h]
    unfold insK
    rw [if_pos (show (s.rec0 q).id = p from h)]
    simp only [rec0, mk_id, mk_kind, mk_name, mk_text, mk_attrs, mk_kids, insAt_map]
  · rw [ins_deep i u h]
    unfold insK
    rw [if_neg (show (s.rec0 q).id ≠ p from h)]
    simp only [rec0, mk_id, mk_kind, mk_name, mk_text, mk_attrs, mk_kids, List.map_map]
    congr 1
    exact List.map_congr_left fun v _ => ins_id v p i u

theorem all_ids (s : I) (p : Int) (d : Nat) : (s.all p d).map (fun e => e.1.id) = s.ids := by
  rw [← recs_id s p, ← all_recs s p d, List.map_map]; rfl

def insE (p : Int) (i : Nat) (u : I) (e : I × Int × Nat) : I × Int × Nat := (e.1.ins p i u, e.2)

theorem insE_none {p : Int} {i : Nat} {u s : I} (h : p ∉ s.ids) : ∀ (q : Int) (d : Nat), (s.all q d).map (insE p i u) = s.all q d := by
  have key : ∀ (s : I) (q : Int) (d : Nat), p ∉ s.ids → (s.all q d).map (insE p i u) = s.all q d := ind' fun s ih q d h => by
    have hk : ∀ v ∈ s.kids, p ∉ v.ids := fun v hv hm => h (kid_ids hv hm)
    rw [all_eq, List.map_cons, map_flatMap_congr (fun v hv => ih v hv s.id (d + 1) (hk v hv))]
    unfold insE
    rw [ins_none s i u h]
  exact fun q d => key s q d h

theorem nodup_kids {s : I} (h : s.ids.Nodup) : s.id ∉ s.kids.flatMap ids ∧ (s.kids.flatMap ids).Nodup := by
  rw [ids_eq] at h; exact List.nodup_cons.1 h

theorem insE_kids {ks : List I} {p : Int} {i : Nat} {u : I} (h : p ∉ ks.flatMap ids) (q : Int) (d : Nat) : (ks.flatMap fun v => v.all q d).map (insE p i u) = ks.flatMap fun v => v.all q d :=
  map_flatMap_congr fun v hv => insE_none (fun hm => h (List.mem_flatMap.2 ⟨v, hv, hm⟩)) q d

theorem ins_kids (p : Int) (i : Nat) (u : I) (q : Int) (d dp : Nat) : ∀ (ks : List I), (∀ v ∈ ks, v.ids.Nodup → p ∈ v.ids → (∀ f ∈ v.all q d, f.1.id = p → f.2.2 = dp) → ((v.ins p i u).all q d).Perm ((v.all q d).map (insE p i u) ++ u.all p (dp + 1))) → (ks.flatMap ids).Nodup → p ∈ ks.flatMap ids → (∀ v ∈ ks, ∀ f ∈ v.all q d, f.1.id = p → f.2.2 = dp) →
    ((ks.map (fun v => v.ins p i u)).flatMap fun v => v.all q d).Perm ((ks.flatMap fun v => v.all q d).map (insE p i u) ++ u.all p (dp + 1))
  | [], _, _, h, _ => by cases h
  | v :: r, ih, hn, hm, hd => by
    rw [List.flatMap_cons] at hn hm
    obtain ⟨n1, n2, n3⟩ := List.nodup_append.1 hn
    rw [List.map_cons, List.flatMap_cons, List.flatMap_cons, List.map_append]
    rcases List.mem_append.1 hm with h | h
    · have hr : p ∉ r.flatMap ids := fun hx => n3 p h p hx rfl
      have e1 : r.map (fun v => v.ins p i u) = r := map_self fun x hx => ins_none x i u fun hy => hr (List.mem_flatMap.2 ⟨x, hx, hy⟩)
      rw [e1, insE_kids hr q d]
      refine ((ih v (by simp) n1 h (hd v (by simp))).append_right _).trans ?_
      rw [List.append_assoc, List.append_assoc]
      exact List.Perm.append_left _ List.perm_append_comm
    · have hv : p ∉ v.ids := fun hx => n3 p hx p h rfl
      rw [ins_none v i u hv, insE_none hv q d, List.append_assoc]
      exact List.Perm.append_left _ (ins_kids p i u q d dp r (fun x hx => ih x (by simp [hx])) n2 h fun x hx => hd x (by simp [hx]))

/-- All nodes where one was put in. -/
theorem ins_all : ∀ (s : I) {p : Int} (i : Nat) (u : I) (q : Int) (d dp : Nat), s.ids.Nodup → p ∈ s.ids → (∀ f ∈ s.all q d, f.1.id = p → f.2.2 = dp) → ((s.ins p i u).all q d).Perm ((s.all q d).map (insE p i u) ++ u.all p (dp + 1)) := ind' fun s ih p i u q d dp hn hm hd => by
  obtain ⟨h1, h2⟩ := nodup_kids hn
  rw [all_eq, all_eq s, List.map_cons, List.cons_append, ins_id]
  rw [all_eq] at hd
  refine List.Perm.cons _ ?_
  by_cases h : s.id = p
  · have hk : (s.ins p i u).kids = insAt i u s.kids := by rw [ins_here i u h]; rfl
    have hdp : d = dp := hd _ (List.mem_cons_self ..) h
    rw [hk, insE_kids (by rw [← h]; exact h1), ← h, ← hdp]
    exact insAt_flatMap _ _ _ _
  · have hk : (s.ins p i u).kids = s.kids.map (fun v => v.ins p i u) := by rw [ins_deep i u h]; rfl
    rw [hk]
    refine ins_kids p i u s.id (d + 1) dp s.kids (fun v hv hvn hvm hvd => ih v hv i u s.id (d + 1) dp hvn hvm hvd) h2 ?_ fun v hv f hf => hd f (List.mem_cons_of_mem _ (List.mem_flatMap.2 ⟨v, hv, hf⟩))
    rw [ids_eq] at hm
    rcases List.mem_cons.1 hm with e | hm
    · exact absurd e.symm h
    · exact hm

/-- A number stands for one node. -/
theorem all_inj {s : I} {p : Int} {d : Nat} (hn : s.ids.Nodup) {e f : I × Int × Nat} (he : e ∈ s.all p d) (hf : f ∈ s.all p d) (h : e.1.id = f.1.id) : e = f := by
  rw [← all_ids s p d] at hn
  exact inj_of_nodup hn he hf h

theorem all_mem {s : I} {x : Int} (h : x ∈ s.ids) (p : Int) (d : Nat) : ∃ e ∈ s.all p d, e.1.id = x := by
  rw [← all_ids s p d] at h
  exact List.mem_map.1 h

theorem mem_all {s : I} {p : Int} {d : Nat} {e : I × Int × Nat} (h : e ∈ s.all p d) : e.1.id ∈ s.ids := by
  rw [← all_ids s p d]; exact List.mem_map_of_mem (f := fun e : I × Int × Nat => e.1.id) h

theorem ins_recs (s : I) {p : Int} (i : Nat) (u : I) (q : Int) (hn : s.ids.Nodup) (hm : p ∈ s.ids) : ((s.ins p i u).recs q).Perm ((s.recs q).map (insK p i u.id) ++ u.recs p) := by
  obtain ⟨f, hf, hfp⟩ := all_mem hm q 1
  have h := (ins_all s i u q 1 f.2.2 hn hm fun g hg hgp => by rw [all_inj hn hg hf (hgp.trans hfp.symm)]).map fun e => e.1.rec0 e.2.1
  rw [List.map_append, List.map_map, all_recs, all_recs] at h
  rw [show ((fun e : I × Int × Nat => e.1.rec0 e.2.1) ∘ insE p i u) = (insK p i u.id) ∘ (fun e : I × Int × Nat => e.1.rec0 e.2.1) from funext fun e => rec0_ins e.1 p i u e.2.1, ← List.map_map, all_recs] at h
  exact h

theorem ins_ids {s : I} {p : Int} (i : Nat) (u : I) (hn : s.ids.Nodup) (hm : p ∈ s.ids) : (s.ins p i u).ids.Perm (s.ids ++ u.ids) := by
  have h := (ins_recs s i u 0 hn hm).map Rec.id
  rw [List.map_append, List.map_map] at h
  rw [show (Rec.id ∘ insK p i u.id) = Rec.id from funext fun r => insK_id p i u.id r] at h
  rw [recs_id, recs_id, recs_id] at h
  exact h

end I
end

section
open Go.RowKit

def look (L : List Rec) (x : Int) : Option Rec := L.find? fun r => decide (r.id = x)

namespace I

def find (s : I) (x : Int) : Option (I × Int × Nat) := (s.all (-1) 1).find? fun e => decide (e.1.id = x)

theorem find_some {s : I} {x : Int} {e : I × Int × Nat} (h : s.find x = some e) : e ∈ s.all (-1) 1 ∧ e.1.id = x :=
  ⟨List.mem_of_find?_eq_some h, by simpa using List.find?_some h⟩

theorem find_none {s : I} {x : Int} : s.find x = none ↔ x ∉ s.ids := by
  rw [← all_ids s (-1) 1]
  unfold find
  rw [List.find?_eq_none]
  simp

theorem find_of {s : I} (hn : s.ids.Nodup) {e : I × Int × Nat} (h : e ∈ s.all (-1) 1) : s.find e.1.id = some e := by
  cases hl : s.find e.1.id with
  | none => exact absurd (mem_all h) (find_none.1 hl)
  | some q =>
    obtain ⟨h1, h2⟩ := find_some hl
    rw [all_inj hn h1 h h2]

theorem all_up : ∀ (s : I) (p : Int) (d : Nat), ∀ e ∈ s.all p d, e = (s, p, d) ∨ ∃ f ∈ s.all p d, f.1.id = e.2.1 ∧ f.2.2 + 1 = e.2.2 ∧ e.1 ∈ f.1.kids := ind' fun s ih p d e he => by
  rw [all_eq] at he ⊢
  rcases List.mem_cons.1 he with rfl | he
  · exact .inl rfl
  · right
    obtain ⟨u, hu, heu⟩ := List.mem_flatMap.1 he
    rcases ih u hu s.id (d + 1) e heu with rfl | ⟨f, hf, h⟩
    · exact ⟨(s, p, d), List.mem_cons_self .., rfl, rfl, hu⟩
    · exact ⟨f, List.mem_cons_of_mem _ (List.mem_flatMap.2 ⟨u, hu, hf⟩), h⟩

theorem all_self (s : I) (p : Int) (d : Nat) : (s, p, d) ∈ s.all p d := by rw [all_eq]; exact List.mem_cons_self ..

theorem size_ids : ∀ s : I, s.toT.size = s.ids.length := ind' fun s ih => by
  rw [toT_eq, T.size_eq, ids_eq, List.length_cons, List.length_flatMap]
  simp only [T.kids, List.map_map]
  rw [show s.kids.map (T.size ∘ toT) = s.kids.map (fun u => u.ids.length) from List.map_congr_left fun u hu => ih u hu]
  omega

theorem kid_depth {s u : I} (h : u ∈ s.kids) : u.toT.depth + 1 ≤ s.toT.depth := by
  have e : s.toT.depth = 1 + ((s.kids.map toT).map T.depth).foldr max 0 := by rw [toT_eq s, T.depth_eq]; rfl
  rw [e]
  have : u.toT.depth ≤ ((s.kids.map toT).map T.depth).foldr max 0 := by
    have key : ∀ (l : List Nat) (x : Nat), x ∈ l → x ≤ l.foldr max 0 := fun l x hx => by
      induction l with
      | nil => cases hx
      | cons a r ih =>
        simp only [List.foldr_cons]
        rcases List.mem_cons.1 hx with rfl | hx
        · omega
        · have := ih hx; omega
    exact key _ _ (List.mem_map_of_mem (List.mem_map_of_mem h))
  omega

theorem depth_sub : ∀ (s : I) (p : Int) (d : Nat), ∀ e ∈ s.all p d, e.2.2 + e.1.toT.depth ≤ d + s.toT.depth := ind' fun s ih p d e he => by
  rw [all_eq] at he
  rcases List.mem_cons.1 he with rfl | he
  · exact Nat.le_refl _
  · obtain ⟨u, hu, heu⟩ := List.mem_flatMap.1 he
    have h1 := ih u hu s.id (d + 1) e heu
    have h2 := kid_depth hu
    omega

theorem depth_pos (s : I) : 1 ≤ s.toT.depth := by rw [T.depth_eq]; omega

theorem depth_le : ∀ (s : I) (p : Int) (d B : Nat), (∀ e ∈ s.all p d, e.2.2 ≤ B) → d + s.toT.depth ≤ B + 1 := ind' fun s ih p d B h => by
  have h0 : d ≤ B := h _ (all_self s p d)
  have e : s.toT.depth = 1 + ((s.kids.map toT).map T.depth).foldr max 0 := by rw [toT_eq s, T.depth_eq]; rfl
  rw [e]
  have : ((s.kids.map toT).map T.depth).foldr max 0 ≤ B - d := T.foldr_max_le fun x hx => by
    obtain ⟨t, ht, rfl⟩ := List.mem_map.1 hx
    obtain ⟨u, hu, rfl⟩ := List.mem_map.1 ht
    have := ih u hu s.id (d + 1) B fun e he => h e (by rw [all_eq]; exact List.mem_cons_of_mem _ (List.mem_flatMap.2 ⟨u, hu, he⟩))
    omega
  omega

theorem depth_ins {s u : I} {p : Int} (i : Nat) {f : I × Int × Nat} {B : Nat} (hn : s.ids.Nodup) (hf : f ∈ s.all (-1) 1) (hp : f.1.id = p) (h1 : s.toT.depth ≤ B) (h2 : f.2.2 + u.toT.depth ≤ B) : (s.ins p i u).toT.depth ≤ B := by
  have hm : p ∈ s.ids := hp ▸ mem_all hf
  have hperm := ins_all s i u (-1) 1 f.2.2 hn hm fun g hg hgp => by rw [all_inj hn hg hf (hgp.trans hp.symm)]
  have := depth_le (s.ins p i u) (-1) 1 B fun e he => by
    rcases List.mem_append.1 (hperm.mem_iff.1 he) with h | h
    · obtain ⟨g, hg, rfl⟩ := List.mem_map.1 h
      have := depth_sub s (-1) 1 g hg
      have := depth_pos g.1
      show g.2.2 ≤ B
      omega
    · have := depth_sub u p (f.2.2 + 1) e h
      have := depth_pos e.1
      omega
  omega

theorem depth_out {s u : I} {p : Int} (i : Nat) (hn : s.ids.Nodup) (hm : p ∈ s.ids) : s.toT.depth ≤ (s.ins p i u).toT.depth := by
  obtain ⟨f, hf, hp⟩ := all_mem hm (-1) 1
  have hperm := ins_all s i u (-1) 1 f.2.2 hn hm fun g hg hgp => by rw [all_inj hn hg hf (hgp.trans hp.symm)]
  have := depth_le s (-1) 1 (s.ins p i u).toT.depth fun e he => by
    have h1 : insE p i u e ∈ (s.ins p i u).all (-1) 1 := hperm.mem_iff.2 (List.mem_append_left _ (List.mem_map_of_mem he))
    have := depth_sub (s.ins p i u) (-1) 1 _ h1
    have := depth_pos (insE p i u e).1
    have e2 : (insE p i u e).2.2 = e.2.2 := rfl
    omega
  omega

theorem toT_kind (s : I) : s.toT.kind = s.kind := by rw [toT_eq]; rfl

theorem toT_name (s : I) : s.toT.name = s.name := by rw [toT_eq]; rfl

theorem toT_text (s : I) : s.toT.text = s.text := by rw [toT_eq]; rfl

theorem toT_attrs (s : I) : s.toT.attrs = s.attrs := by rw [toT_eq]; rfl

theorem toT_kids (s : I) : s.toT.kids = s.kids.map toT := by rw [toT_eq]; rfl

theorem kidsOk_toT (s : I) : kidsOk s.toT = s.kids.all fun u => nodeOk u.toT && !(decide (u.kind = 5) && !(decide (s.kind = 1))) := by
  unfold kidsOk
  rw [toT_kids, List.all_map, toT_kind]
  congr 1
  funext u
  simp only [Function.comp_apply, toT_kind]

def nodes (s : I) : List I := (s.all 0 0).map fun e => e.1

theorem all_nodes : ∀ (s : I) (p : Int) (d : Nat), (s.all p d).map (fun e => e.1) = s.nodes := ind' fun s ih p d => by
  unfold nodes
  rw [all_eq, all_eq s 0 0, List.map_cons, List.map_cons, map_flatMap_congr (fun u hu => ih u hu s.id (d + 1)), map_flatMap_congr (fun u hu => ih u hu s.id (0 + 1))]

theorem nodes_eq (s : I) : s.nodes = s :: s.kids.flatMap nodes := by
  unfold nodes
  rw [all_eq, List.map_cons, map_flatMap_congr (fun u _ => all_nodes u s.id (0 + 1))]; rfl

theorem mem_nodes {s : I} {p : Int} {d : Nat} {e : I × Int × Nat} (h : e ∈ s.all p d) : e.1 ∈ s.nodes := by
  rw [← all_nodes s p d]; exact List.mem_map_of_mem (f := fun e : I × Int × Nat => e.1) h

theorem nodes_all {s v : I} (h : v ∈ s.nodes) (p : Int) (d : Nat) : ∃ e ∈ s.all p d, e.1 = v := by
  rw [← all_nodes s p d] at h
  exact List.mem_map.1 h

theorem kid_nodes {s u v : I} (h : u ∈ s.kids) (hv : v ∈ u.nodes) : v ∈ s.nodes := by
  rw [nodes_eq]; exact List.mem_cons_of_mem _ (List.mem_flatMap.2 ⟨u, h, hv⟩)

theorem self_nodes (s : I) : s ∈ s.nodes := by rw [nodes_eq]; exact List.mem_cons_self ..

theorem node_el {s : I} (h : s.kind = 2) : nodeOk s.toT = true ↔ (nameOk s.name && s.text.isEmpty && (decide (s.attrs.length ≤ 12) && attrsOk [] s.attrs)) = true ∧ ∀ u ∈ s.kids, nodeOk u.toT = true ∧ u.kind ≠ 5 := by
  rw [nodeOk_el (by rw [toT_kind]; exact h), kidsOk_toT, toT_name, toT_text, toT_attrs, Bool.and_eq_true, List.all_eq_true]
  refine and_congr Iff.rfl (forall_congr' fun u => imp_congr Iff.rfl ?_)
  simp [h]

theorem node_ne {s : I} (h : s.kind ≠ 2) : nodeOk s.toT = true → s.kids = [] := fun hk => by
  rw [nodeOk_ne (by rw [toT_kind]; exact h)] at hk
  simp only [Bool.and_eq_true] at hk
  have := hk.1.2
  rw [toT_kids] at this
  simpa using this

theorem ins_ok : ∀ (s : I) {p : Int} (i : Nat) (u : I), (∀ v ∈ s.nodes, v.id = p → v.kind = 2) → u.kind ≠ 5 → nodeOk u.toT = true → nodeOk s.toT = true → nodeOk (s.ins p i u).toT = true := ind' fun s ih p i u hp hu5 hu hs => by
  by_cases h2 : s.kind = 2
  · obtain ⟨h3, h4⟩ := (node_el h2).1 hs
    by_cases h : s.id = p
    · rw [ins_here i u h]
      refine (node_el (s := .node s.id s.kind s.name s.text s.attrs (insAt i u s.kids)) h2).2 ⟨h3, fun v hv => ?_⟩
      rw [mk_kids] at hv
      rcases insAt_mem.1 hv with rfl | hv
      · exact ⟨hu, hu5⟩
      · exact h4 v hv
    · rw [ins_deep i u h]
      refine (node_el (s := .node s.id s.kind s.name s.text s.attrs (s.kids.map fun v => v.ins p i u)) h2).2 ⟨h3, fun v hv => ?_⟩
      rw [mk_kids] at hv
      obtain ⟨v', hv', rfl⟩ := List.mem_map.1 hv
      exact ⟨ih v' hv' i u (fun v hvn => hp v (kid_nodes hv' hvn)) hu5 hu (h4 v' hv').1, by rw [ins_kind]; exact (h4 v' hv').2⟩
  · have hk := node_ne h2 hs
    have h : s.id ≠ p := fun e => h2 (hp s (self_nodes s) e)
    rw [ins_deep i u h, hk]
    have e : I.node s.id s.kind s.name s.text s.attrs (([] : List I).map fun v => v.ins p i u) = s := by rw [List.map_nil, ← hk, eta]
    rw [e]; exact hs

theorem ins_out : ∀ (s : I) {p : Int} (i : Nat) (u : I), nodeOk (s.ins p i u).toT = true → nodeOk s.toT = true := ind' fun s ih p i u hs => by
  by_cases h : s.id = p
  · rw [ins_here i u h] at hs
    by_cases h2 : s.kind = 2
    · obtain ⟨h3, h4⟩ := (node_el (s := .node s.id s.kind s.name s.text s.attrs (insAt i u s.kids)) h2).1 hs
      exact (node_el h2).2 ⟨h3, fun v hv => h4 v (by rw [mk_kids]; exact insAt_mem.2 (.inr hv))⟩
    · have hk := node_ne (s := .node s.id s.kind s.name s.text s.attrs (insAt i u s.kids)) h2 hs
      rw [mk_kids] at hk
      have := insAt_len i u s.kids
      rw [hk] at this
      simp at this
  · rw [ins_deep i u h] at hs
    by_cases h2 : s.kind = 2
    · obtain ⟨h3, h4⟩ := (node_el (s := .node s.id s.kind s.name s.text s.attrs (s.kids.map fun v => v.ins p i u)) h2).1 hs
      rw [mk_kids] at h4
      refine (node_el h2).2 ⟨h3, fun v hv => ?_⟩
      have := h4 _ (List.mem_map_of_mem hv)
      exact ⟨ih v hv i u this.1, by have := this.2; rwa [ins_kind] at this⟩
    · have hk := node_ne (s := .node s.id s.kind s.name s.text s.attrs (s.kids.map fun v => v.ins p i u)) h2 hs
      rw [mk_kids] at hk
      have hk' : s.kids = [] := by simpa using hk
      rw [hk'] at hs
      have e : I.node s.id s.kind s.name s.text s.attrs (([] : List I).map fun v => v.ins p i u) = s := by rw [List.map_nil, ← hk', eta]
      rw [e] at hs; exact hs

theorem sub_ok : ∀ (s : I), nodeOk s.toT = true → ∀ v ∈ s.nodes, nodeOk v.toT = true ∧ (v ≠ s → v.kind ≠ 5) := ind' fun s ih hs v hv => by
  rw [nodes_eq] at hv
  rcases List.mem_cons.1 hv with rfl | hv
  · exact ⟨hs, fun h => absurd rfl h⟩
  · obtain ⟨u, hu, hvu⟩ := List.mem_flatMap.1 hv
    by_cases h2 : s.kind = 2
    · obtain ⟨_, h4⟩ := (node_el h2).1 hs
      have := ih u hu (h4 u hu).1 v hvu
      refine ⟨this.1, fun _ => ?_⟩
      by_cases e : v = u
      · rw [e]; exact (h4 u hu).2
      · exact this.2 e
    · rw [node_ne h2 hs] at hu; cases hu

theorem check_iff {s : I} : s.toT.check = true ↔ s.kind = 1 ∧ s.ids.length ≤ 300 ∧ s.toT.depth ≤ 60 ∧ s.name = [] ∧ s.text = [] ∧ s.attrs = [] ∧ ∀ u ∈ s.kids, nodeOk u.toT = true := by
  unfold T.check
  rw [kidsOk_toT, size_ids, toT_kind, toT_name, toT_text, toT_attrs]
  simp only [Bool.and_eq_true, decide_eq_true_eq, List.all_eq_true, List.isEmpty_iff]
  constructor
  · rintro ⟨⟨⟨⟨⟨h1, h2⟩, h3⟩, h4, h5⟩, h6⟩, h7⟩
    exact ⟨h1, h2, h3, h4, h5, h6, fun u hu => (h7 u hu).1⟩
  · rintro ⟨h1, h2, h3, h4, h5, h6, h7⟩
    exact ⟨⟨⟨⟨⟨h1, h2⟩, h3⟩, h4, h5⟩, h6⟩, fun u hu => ⟨h7 u hu, by simp [h1]⟩⟩

/-- A tree with numbers that may be. -/
structure Okay (s : I) : Prop where
  check : s.toT.check = true
  nodup : s.ids.Nodup
  rng : ∀ x ∈ s.ids, 0 ≤ x ∧ x ≤ 1048576
  root : s.id = 0

/-- May a node of a kind be a kid of another one's? -/
def holds (a b : Int) : Bool := decide (a = 1) || (decide (a = 2) && !(decide (b = 5)))

theorem root_kind {s : I} (h : s.Okay) : ∀ f ∈ s.all (-1) 1, f.1.kind = 1 → f.1 = s := fun f hf hk => by
  obtain ⟨h1, _, _, _, _, _, h7⟩ := check_iff.1 h.check
  rw [all_eq] at hf
  rcases List.mem_cons.1 hf with rfl | hf
  · rfl
  · obtain ⟨u, hu, hfu⟩ := List.mem_flatMap.1 hf
    have h8 := sub_ok u (h7 u hu) f.1 (mem_nodes hfu)
    have h9 := h8.1
    rw [nodeOk_ne (by rw [toT_kind, hk]; decide), toT_kind, hk] at h9
    simp at h9

theorem Okay.ins {s u : I} {p : Int} (i : Nat) {f : I × Int × Nat} (h : s.Okay) (hf : f ∈ s.all (-1) 1) (hp : f.1.id = p) (hh : holds f.1.kind u.kind = true) (hu : nodeOk u.toT = true) (hun : (s.ids ++ u.ids).Nodup) (hur : ∀ x ∈ u.ids, 0 ≤ x ∧ x ≤ 1048576) (hsz : s.ids.length + u.ids.length ≤ 300) (hd : f.2.2 + u.toT.depth ≤ 60) : (s.ins p i u).Okay := by
  have hm : p ∈ s.ids := hp ▸ mem_all hf
  have hperm := ins_ids i u h.nodup hm
  obtain ⟨h1, h2, h3, h4, h5, h6, h7⟩ := check_iff.1 h.check
  have hx : ∀ t : I, (t.ins p i u).name = t.name ∧ (t.ins p i u).text = t.text ∧ (t.ins p i u).attrs = t.attrs := fun t => by
    by_cases e : t.id = p
    · rw [ins_here i u e]; exact ⟨rfl, rfl, rfl⟩
    · rw [ins_deep i u e]; exact ⟨rfl, rfl, rfl⟩
  refine ⟨check_iff.2 ⟨by rw [ins_kind]; exact h1, by rw [hperm.length_eq, List.length_append]; exact hsz, depth_ins i h.nodup hf hp h3 hd, by rw [(hx s).1]; exact h4, by rw [(hx s).2.1]; exact h5, by rw [(hx s).2.2]; exact h6, fun v hv => ?_⟩, hperm.nodup_iff.2 hun, fun x hx => ?_, by rw [ins_id]; exact h.root⟩
  · by_cases e : s.id = p
    · rw [ins_here i u e, mk_kids] at hv
      rcases insAt_mem.1 hv with rfl | hv
      · exact hu
      · exact h7 v hv
    · rw [ins_deep i u e, mk_kids] at hv
      obtain ⟨v', hv', rfl⟩ := List.mem_map.1 hv
      have hf2 : f.1.kind = 2 ∧ u.kind ≠ 5 := by
        unfold holds at hh
        by_cases hk : f.1.kind = 1
        · exact absurd (by rw [← hp, root_kind h f hf hk]) e
        · simp [hk] at hh; exact hh
      refine ins_ok v' i u (fun g hg hgp => ?_) hf2.2 hu (h7 v' hv')
      obtain ⟨k, hk, rfl⟩ := nodes_all (kid_nodes hv' hg) (-1) 1
      rw [all_inj h.nodup hk hf (hgp.trans hp.symm)]
      exact hf2.1
  · rcases List.mem_append.1 (hperm.mem_iff.1 hx) with hx | hx
    · exact h.rng x hx
    · exact hur x hx

theorem Okay.out {s u : I} {p : Int} (i : Nat) (h : (s.ins p i u).Okay) (hn : s.ids.Nodup) (hm : p ∈ s.ids) : s.Okay := by
  have hperm := ins_ids i u hn hm
  obtain ⟨h1, h2, h3, h4, h5, h6, h7⟩ := check_iff.1 h.check
  have hx : ∀ t : I, (t.ins p i u).name = t.name ∧ (t.ins p i u).text = t.text ∧ (t.ins p i u).attrs = t.attrs := fun t => by
    by_cases e : t.id = p
    · rw [ins_here i u e]; exact ⟨rfl, rfl, rfl⟩
    · rw [ins_deep i u e]; exact ⟨rfl, rfl, rfl⟩
  rw [hperm.length_eq, List.length_append] at h2
  refine ⟨check_iff.2 ⟨by rwa [ins_kind] at h1, by omega, by have := depth_out (u := u) i hn hm; omega, by rwa [(hx s).1] at h4, by rwa [(hx s).2.1] at h5, by rwa [(hx s).2.2] at h6, fun v hv => ?_⟩, hn, fun x hx => h.rng x (hperm.mem_iff.2 (List.mem_append_left _ hx)), by have := h.root; rwa [ins_id] at this⟩
  by_cases e : s.id = p
  · exact h7 v (by rw [ins_here i u e, mk_kids]; exact insAt_mem.2 (.inr hv))
  · exact ins_out v i u (h7 _ (by rw [ins_deep i u e, mk_kids]; exact List.mem_map_of_mem hv))

end I
end

section
open Go.RowKit Go.MapKept

/-- A node, and where its attributes and its kids' numbers stand. -/
structure Nd where
  r : Rec
  sa : Sl
  sk : Sl

theorem MapIs.box {κ : Type} {f : κ → Value} {d : TypeDesc} {w : World} {M B : Nat} {m : List (κ × Value)} {T : TypeId} {cs : List Value} (h : MapIs f d w M m) (hB : Box w B T cs) : M ≠ B := by
  obtain ⟨es, clock, h1, _⟩ := h.at_
  intro e
  unfold Box at hB
  rw [e, hB] at h1; cases h1

theorem Own.box {A : List Nat} {w : World} {s : Sl} {size : Nat} {T : TypeId} {vs : List (List Value)} (h : Own A w s size T vs) : s = Sl.nil ∨ ∃ g cur, s.a = some ⟨g, 0, none⟩ ∧ s.blk = [g] ∧ Box w g T cur := by
  rcases h.at_ with e | ⟨g, cur, h1, _, h3, _⟩
  · exact .inl e
  · exact .inr ⟨g, cur, h1, by simp [Sl.blk, h1], h3⟩

section

variable {A : List Nat} {w w' : World} {D : Nat} {l : Sl} {M : Nat} {m : List (Int × Value)} {X : List Nd}

end

section

variable {A : List Nat} {w w' : World} {D : Nat} {R : I}

end
end

section
open Go.RowKit Go.MapKept

/-- A node's parent is there, one level above, and has it; or it is the first one. -/
theorem up {R : I} (hR : R.Okay) {e : I × Int × Nat} (he : e ∈ R.all (-1) 1) : (e = (R, -1, 1)) ∨ ∃ f, R.find e.2.1 = some f ∧ f.1.id = e.2.1 ∧ f.2.2 + 1 = e.2.2 ∧ e.1 ∈ f.1.kids := by
  rcases I.all_up R (-1) 1 e he with h | ⟨f, hf, h1, h2, h3⟩
  · exact .inl h
  · exact .inr ⟨f, by rw [← h1]; exact I.find_of hR.nodup hf, h1, h2, h3⟩

section

variable {A : List Nat} {w w' : World} {D : Nat} {R : I}

end
end

section
open Go.RowKit Go.MapKept

structure Mod (A : List Nat) (w w' : World) : Prop where
  os : w'.os = w.os
  tape : w'.tape = w.tape
  output : w'.output = w.output
  size : w.heap.size ≤ w'.heap.size
  block : ∀ k, k < w.heap.size → k ∈ A → w'.heap[k]? = w.heap[k]?

def Free (A : List Nat) (w : World) : List Nat := (List.range w.heap.size).filter fun b => !A.contains b

theorem mem_free {A : List Nat} {w : World} {b : Nat} : b ∈ Free A w ↔ b < w.heap.size ∧ b ∉ A := by simp [Free]

section

variable {A A' F : List Nat} {a b c w w' : World}

theorem Mod.of (h : Chg F a b) (hF : ∀ x ∈ F, x ∉ A) : Mod A a b := ⟨h.os, h.tape, h.output, h.size, fun k hk hA => h.block k hk fun hm => hF k hm hA⟩

theorem Mod.ext (h : Ext a b) : Mod A a b := Mod.of h (by simp)

theorem Mod.refl (A : List Nat) (w : World) : Mod A w w := Mod.ext (Chg.refl _ _)

theorem Mod.trans (h : Mod A a b) (k : Mod A b c) : Mod A a c := ⟨k.os.trans h.os, k.tape.trans h.tape, k.output.trans h.output, Nat.le_trans h.size k.size, fun i hi hA => (k.block i (Nat.lt_of_lt_of_le hi h.size) hA).trans (h.block i hi hA)⟩

theorem Mod.less (h : Mod A a b) (hA : ∀ x ∈ A', x ∈ A) : Mod A' a b := ⟨h.os, h.tape, h.output, h.size, fun k hk hm => h.block k hk (hA k hm)⟩

theorem Mod.chg (h : Mod A a b) : Chg (Free A a) a b := ⟨h.os, h.tape, h.output, h.size, fun k hk hm => h.block k hk (by
  by_cases hA : k ∈ A
  · exact hA
  · exact absurd (mem_free.2 ⟨hk, hA⟩) hm)⟩

theorem Mod.fresh (h : Ext a b) (k : Mod A b c) (hA : ∀ x, x < a.heap.size → x ∈ A) : Ext a c := ⟨k.os.trans h.os, k.tape.trans h.tape, k.output.trans h.output, Nat.le_trans h.size k.size, fun i hi _ => (k.block i (Nat.lt_of_lt_of_le hi h.size) (hA i hi)).trans (h.block i hi (by simp))⟩

theorem Own.mod {A0 : List Nat} {s : Sl} {size : Nat} {T : TypeId} {vs : List (List Value)} (h : Own A0 a s size T vs) (k : Mod A a b) (hs : ∀ x ∈ s.blk, x ∈ A) : Own A0 b s size T vs := h.keep k.chg fun x hx hm => (mem_free.1 hm).2 (hs x hx)

theorem Box.mod {B : Nat} {T : TypeId} {cs : List Value} (h : Box a B T cs) (k : Mod A a b) (hB : B ∈ A) : Box b B T cs := h.keep k.chg fun hm => (mem_free.1 hm).2 hB

theorem CallK.mod {P : Program} {f : FuncId} {args : Array Value} {bx : List Nat} {R K : Value → World → Prop}
    (h : Calls P f args w (Ret fun v w' => Mod A w w' ∧ R v w')) (hd : ∀ b ∈ bx, b ∈ A) (k : ∀ v w', Mod A w w' → R v w' → K v w') : CallK P f args w bx K :=
  Ret.mono h fun v w' ⟨he, hr⟩ => ⟨fun b hb hlt => he.block b hlt (hd b hb), he.size, k v w' he hr⟩

/-- A tree that stands in the blocks of A alone, or in newer ones. -/
def Safe (A : List Nat) (w : World) (t : T) (sa sk : Sl) : Prop := RdT (Free A w) w t sa sk

theorem Safe.mod {t : T} {sa sk : Sl} (h : Safe A a t sa sk) (k : Mod A a b) : Safe A b t sa sk := by
  have h1 : RdT (Free A a) b t sa sk := RdT.chg k.chg (fun x hx => hx) h
  have h2 : RdT (Free A b) a t sa sk := RdT.wide h fun x hx => by
    have := mem_free.1 hx
    by_cases hlt : x < a.heap.size
    · exact .inl (mem_free.2 ⟨hlt, this.2⟩)
    · exact .inr (by omega)
  exact RdT.chg k.chg (fun x hx => by
    have h3 := mem_free.1 hx
    exact mem_free.2 ⟨Nat.lt_of_lt_of_le h3.1 k.size, h3.2⟩) h2

theorem Safe.of {X : List Nat} {t : T} {sa sk : Sl} (h : RdT X w t sa sk) (hA : ∀ x, x < w.heap.size → x ∈ A) : Safe A w t sa sk := RdT.wide h fun x hx => by
  have := mem_free.1 hx
  exact absurd (hA x this.1) this.2

end

section

variable {A : List Nat} {w w1 w2 : World} {D : Nat} {l : Sl} {M : Nat} {m : List (Int × Value)} {X : List Nd}

end
end

section
open Go.RowKit

theorem appendStrNo {P : Program} {w : World} {s : Sl} {t u ty T : TypeId} {z : Value} {size bytes : Nat} (ht : P.underlying t = some (.slice T)) (hu : P.underlying u = some .string) (hi : TI P T z size bytes) (hc : s.n ≤ s.c) :
    (Builtin.append_ #[t, u] ty #[s.v, .string (Bs [])]).run P w = .ok s.v w := by
  obtain ⟨i, hi0, hz, hs, hb⟩ := hi
  have e : (Bs []).size = 0 := rfl
  have e2 : (Bs []).data.toList = [] := rfl
  unfold Sl.v
  cases hsa : s.a <;> simp [Builtin.append_, run_underlying ht, run_underlying hu, Go.sizeOf, typeInfo, hi0, Builtin.lenOf, hc, Builtin.firstCells, e, e2, storeCells]

/-- A builder at b, apart from A: its address, its buffer, its bytes. -/
structure Bl (A : List Nat) (w : World) (b : Nat) (o : Option Addr) (s : Sl) (l : Str) : Prop where
  box : Box w b 62 [.pointer o, s.v]
  own : OwnB A w s 5 l
  addr : o = none ∨ o = some ⟨b, 0, none⟩
  out : b ∉ A
  old : ∀ a ∈ A, a < w.heap.size
  few : l.length ≤ 1000000

variable {A F : List Nat} {w w' : World} {b : Nat} {o : Option Addr} {s : Sl} {l : Str}

theorem Bl.chg (h : Bl A w b o s l) (c : Chg F w w') (hF : ∀ x ∈ F, x ∈ A) : Bl A w' b o s l :=
  ⟨h.box.keep c fun hm => h.out (hF _ hm), h.own.chg c hF, h.addr, h.out, fun a ha => Nat.lt_of_lt_of_le (h.old a ha) c.size, h.few⟩

theorem Bl.ext (h : Bl A w b o s l) (c : Ext w w') : Bl A w' b o s l := h.chg c (by simp)

theorem Bl.apart (h : Bl A w b o s l) : b ∉ s.blk := h.own.other h.box (by decide)

theorem bldInfo : ∃ j, Tryd.prog.info? 62 = some j ∧ j.size ≠ 0 := by
  have h : (Tryd.prog.info? 62).map (·.size) = some 2 := by kernel_rfl
  obtain ⟨j, hj, hs⟩ := Option.map_eq_some_iff.1 h
  exact ⟨j, hj, by rw [hs]; decide⟩

theorem bldLies : liesAt Tryd.prog Tryd.prog.depth 62 (2 / Tryd.prog.cellsOf 62) 0 62 1 = true := by kernel_rfl

theorem bldCheck (h : Bl A w b o s l) : Calls Tryd.prog 35 #[.pointer (some ⟨b, 0, none⟩)] w (Ret fun v w' => Chg [b] w w' ∧ v = .tuple #[] ∧ Bl A w' b (some ⟨b, 0, none⟩) s l) := by
  refine strings_Builder_copyCheck.ok _ ?_
  unfold strings_Builder_copyCheck.vc
  obtain ⟨j, hj, hj0⟩ := bldInfo
  have hc : w.cell? ((⟨b, 0, none⟩ : Addr).add 0) = some (.pointer o) := by rw [Addr.add_zero']; exact h.box.cell 0 _ rfl
  have hsh := shape_box h.box
  refine ⟨o, hc, fun hn => ?_, fun hn => ?_⟩
  · have ho : o = none := by simpa using hn
    subst ho
    refine ⟨_, _, Lib.run_to_unsafe w ⟨b, 0, none⟩ Tryd.underlying59 Tryd.underlying74 hj hj0 hsh (by simp), fun _ _ _ => rfl, Nat.le_refl _, _, rfl, ?_⟩
    refine ⟨_, _, Lib.run_from_unsafe w ⟨b, 0, none⟩ Tryd.underlying74 Tryd.underlying59 hj hsh bldLies, fun _ _ _ => rfl, Nat.le_refl _, _, rfl, b, 0, _, _, Addr.add_zero' _, h.box, by simp, by simp, fun w12 c12 hB => ⟨c12, rfl, hB, ?_, .inr rfl, h.out, fun a ha => Nat.lt_of_lt_of_le (h.old a ha) c12.size, h.few⟩⟩
    exact h.own.keep c12 fun x hx hm => h.apart (by simp at hm; rwa [hm] at hx)
  · rcases h.addr with e | e
    · subst e; simp at hn
    · subst e
      exact ⟨_, hc, false, Lib.run_neq_ptr_same w ⟨b, 0, none⟩ Tryd.underlying59 hj, (fun h => by cases h), fun _ => ⟨Chg.refl _ _, rfl, h⟩⟩

theorem Bl.cell1 (h : Bl A w b o s l) : w.cell? ((⟨b, 0, none⟩ : Addr).add 1) = some s.v := by rw [Addr.add_lit]; exact h.box.cell 1 _ rfl

theorem bldPut (h : Bl A w b o s l) (x : Str) (hx : l.length + x.length ≤ 1000000) : Calls Tryd.prog 28 #[.pointer (some ⟨b, 0, none⟩), .string (Bs x)] w
    (Ret fun v w' => Mod A w w' ∧ v = .tuple #[.int .i64 (x.length : Int), .nilIface] ∧ ∃ s', Bl A w' b (some ⟨b, 0, none⟩) s' (l ++ x)) := by
  refine strings_Builder_WriteString.ok _ _ ?_
  unfold strings_Builder_WriteString.vc
  refine Ret.mono (bldCheck h) fun v w4 ⟨c4, hv, h4⟩ => ⟨c4.noTouch _ (by simp), c4.size, hv, s, h4.cell1, ?_⟩
  have hl := h4.own.rd.len
  have hin : ∀ {s' : Sl} {w7 : World}, OwnB (b :: A) w7 s' 5 (l ++ x) → Chg s.own w4 w7 → ∃ (r : Sl), Sl.v s' = Sl.v r ∧ ∃ (B o : Nat) (T : TypeId) (cs : List Value), (⟨b, 0, none⟩ : Addr).add 1 = ⟨B, o, none⟩ ∧ Box w7 B T cs ∧ o + 1 ≤ cs.length ∧ (∀ q ∈ ([] : List Nat), q ≠ B) ∧
      (∀ w13 : World, Chg [B] w7 w13 → Box w13 B T (putAt cs o [Sl.v r]) → Mod A w w13 ∧ Value.tuple #[.int .i64 (x.length : Int), .nilIface] = .tuple #[.int .i64 (x.length : Int), .nilIface] ∧ ∃ s', Bl A w13 b (some ⟨b, 0, none⟩) s' (l ++ x)) := by
    intro s' w7 ho hc
    refine ⟨s', rfl, b, 1, _, _, by rw [Addr.add_lit], h4.box.keep hc (fun hm => h4.apart (Sl.own_blk hm)), by simp, by simp, fun w13 c13 hB => ?_⟩
    have hcc : Chg (b :: s.own) w w13 := ((c4.mono (by simp)).trans (hc.mono fun q hq => List.mem_cons_of_mem _ hq)).trans (c13.mono (by simp))
    refine ⟨Mod.of hcc fun q hq hA => ?_, rfl, s', hB, (ho.chg c13 (by simp)).less fun q hq => by simp [hq], .inr rfl, h.out, fun a ha => Nat.lt_of_lt_of_le (h.old a ha) hcc.size, by rw [List.length_append]; exact hx⟩
    rcases List.mem_cons.1 hq with e | e
    · exact h.out (e ▸ hA)
    · exact (h4.own.blk q (Sl.own_blk e)).1 hA
  have hown : OwnB (b :: A) w4 s 5 l := h4.own.cons h4.apart
  by_cases hp : x = []
  · subst hp
    have e := appendStrNo (P := Tryd.prog) (w := w4) (s := s) (t := 60) (u := 9) (ty := 60) Tryd.underlying60 Tryd.underlying9 ti_5 h4.own.cap
    exact ⟨_, _, e, fun _ _ _ => rfl, Nat.le_refl _, hin (by rw [List.append_nil]; exact hown) (Chg.refl _ _)⟩
  · obtain ⟨s', w', hr, ho', hch, hbl'⟩ := append_str (P := Tryd.prog) (A := b :: A) (w := w4) (s := s) (t := 60) (u := 9) (ty := 60) (p := x) Tryd.underlying60 Tryd.underlying9 ti_5 (.inl hown) (fun a ha => by
        rcases List.mem_cons.1 ha with e | e
        · rw [e]; exact h4.box.lt
        · exact h4.old a e) hp
      (by rw [hl]; simp [maxLen]; omega) (by rw [hl]; omega)
    have hch' : Chg s.own w4 w' := hch.mono fun z hz => (List.mem_filter.1 hz).1
    exact ⟨_, _, hr, hch'.noTouch _ (by simp), hch'.size, hin ho' hch'⟩

theorem bldByte (h : Bl A w b o s l) (y : UInt8) (hx : l.length < 1000000) : Calls Tryd.prog 30 #[.pointer (some ⟨b, 0, none⟩), .int .u8 (y.toNat : Int)] w
    (Ret fun v w' => Mod A w w' ∧ v = .nilIface ∧ ∃ s', Bl A w' b (some ⟨b, 0, none⟩) s' (l ++ [y])) := by
  refine strings_Builder_WriteByte.ok _ _ ?_
  unfold strings_Builder_WriteByte.vc
  have hmo : maxLen = 9223372036854775807 := rfl
  refine Ret.mono (bldCheck h) fun v w4 ⟨c4, hv, h4⟩ => ⟨c4.noTouch _ (by simp), c4.size, hv, s, h4.cell1, fun w8 C hN c8 hC => ?_⟩
  have h8 := h4.ext c8
  have hl := h4.own.rd.len
  have hown : Own (b :: A) w8 s 1 5 (l.map bc) := h8.own.cons h8.apart
  have hn : s.n = l.length := by have := h8.own.len; simpa using this
  refine App.runK (A := b :: A) (us := [bc y]) Tryd.underlying60 ti_5 rfl (by decide) (.inl hown) (fun a ha => ?_) ⟨rfl, Nat.le_refl _, by simp [maxLen], fun i hi => ?_⟩ (by simp [bc]; rfl) (by simp) (by simp; omega) (by simp; omega) (by simp) fun s' w10 ho hc hb => ⟨s', rfl, b, 1, _, _, by rw [Addr.add_lit], h8.box.keep hc (fun hm => h8.apart (Sl.own_blk hm)), by simp, by simp, fun w16 c16 hB => ?_⟩
  · rcases List.mem_cons.1 ha with e | e
    · rw [e]; exact h8.box.lt
    · exact h8.old a e
  · simp at hi; subst hi
    exact ⟨_, rfl, by simp, by rw [Nat.zero_mul, Addr.add_zero']; exact hC.part 0 _ rfl, rfl⟩
  have hcc : Chg (b :: s.own) w w16 := (((c4.mono (by simp)).trans (c8.mono (by simp))).trans (hc.mono fun q hq => List.mem_cons_of_mem _ hq)).trans (c16.mono (by simp))
  refine ⟨Mod.of hcc fun q hq hA => ?_, rfl, s', hB, ?_, .inr rfl, h.out, fun a ha => Nat.lt_of_lt_of_le (h.old a ha) hcc.size, by simp; omega⟩
  · rcases List.mem_cons.1 hq with e | e
    · exact h.out (e ▸ hA)
    · exact (h4.own.blk q (Sl.own_blk e)).1 hA
  · have := (ho.chg c16 (by simp)).less (A' := A) fun q hq => by simp [hq]
    unfold OwnB; rw [List.map_append]; exact this

theorem freeze_chg1 (w : World) (g n : Nat) : Chg [g] w (w.freeze ⟨g, 0, none⟩ n) := by
  unfold World.freeze
  split
  · exact Chg.refl _ _
  · refine ⟨rfl, rfl, rfl, by simp, fun k _ hk => ?_⟩
    have : ¬ g = k := fun e => hk (by simp [e])
    simp only [Array.getElem?_modify]
    rw [if_neg this]

theorem freeze_chg (w : World) (g n : Nat) : Chg [g] w (w.drew.freeze ⟨g, 0, none⟩ n) := ((Chg.refl [g] w).drew).trans (freeze_chg1 _ _ _)

theorem bldStr (h : Bl A w b o s l) (hl : l ≠ [] ∨ s = Sl.nil) : Calls Tryd.prog 31 #[.pointer (some ⟨b, 0, none⟩)] w (Ret fun v w' => Mod A w w' ∧ v = .string (Bs l)) := by
  have hn : s.n = l.length := by have := h.own.len; simpa using this
  rcases h.own.at_ with e | ⟨g, cur, hg, hgA, hgB, hgl, hgt⟩
  · have hl0 : l = [] := by rw [e] at hn; exact List.eq_nil_of_length_eq_zero hn.symm
    subst hl0
    subst e
    refine Calls.mono (string_nil b _ w h.box) fun e w' ⟨h1, h2⟩ => ?_
    subst h1; subst h2
    exact ⟨Mod.of (F := []) (Chg.refl _ _).drew (by simp), rfl⟩
  · have hl0 : l ≠ [] := hl.elim id fun e => by rw [e] at hg; cases hg
    have hv : s.v = .slice (some ⟨g, 0, none⟩) l.length s.c := by unfold Sl.v; rw [hg, hn]
    have hbk := h.box
    rw [hv] at hbk
    refine Calls.mono (string_some b g s.c _ l cur.toArray w hbk hgB (by simpa using hgl) (by rw [← hn]; exact h.own.cap) h.own.most hl0 fun j x hx => ?_) fun e w' ⟨h1, h2⟩ => ?_
    · refine hgB.cell j _ ?_
      have hj : j < l.length := (List.getElem?_eq_some_iff.1 hx).1
      have e : (cur.take (s.n * 1))[j]? = cur[j]? := List.getElem?_take_of_lt (by omega)
      rw [← e, hgt]
      have e2 : ∀ l : List UInt8, (l.map bc).flatten = l.map fun x => .int .u8 (x.toNat : Int) := fun l => by
        induction l with
        | nil => rfl
        | cons x r ih => rw [List.map_cons, List.flatten_cons, ih]; rfl
      rw [e2, List.getElem?_map, hx]; rfl
    · subst h1; subst h2
      exact ⟨Mod.of (freeze_chg w g _) (by simpa using hgA), rfl⟩
end

section
open Go.RowKit

theorem slicesInsert_slot {A : List Nat} {w : World} {s x : Sl} {vs us : List (List Value)} {i : Nat} (ho : Own A w s 4 49 vs) (hA : ∀ b ∈ A, b < w.heap.size) (hx : Own [] w x 4 49 us) (hap : ∀ b ∈ x.blk, b ∉ s.blk) (h1 : ∀ u ∈ us.flatten, u.oneCell' = true) (hv1 : ∀ u ∈ vs.flatten, u.oneCell' = true) (hu : us ≠ []) (hi : i ≤ vs.length) (hvs : vs.length + us.length ≤ 1000000000) :
    Calls Tryd.prog 27 #[s.v, .int .i64 (i : Int), x.v] w (Ret fun v w' => Chg s.blk w w' ∧ ∃ s' : Sl, v = s'.v ∧ Own A w' s' 4 49 (vs.take i ++ us ++ vs.drop i) ∧ ∀ b ∈ s'.blk, b ∈ s.blk ∨ w.heap.size ≤ b) := by
  refine slices_Insert__format_slot_format_slot_.ok _ _ _ ?_
  unfold slices_Insert__format_slot_format_slot_.vc
  have hn := ho.len
  have hm := hx.len
  have hcap := ho.cap
  have hmost := ho.most
  have hmo : maxLen = 9223372036854775807 := rfl
  have hup : 0 < us.length := List.length_pos_iff.2 hu
  obtain ⟨vb, cx, hxa, _, hxB, hxl, hxt⟩ : ∃ g cur, x.a = some ⟨g, 0, none⟩ ∧ g ∉ ([] : List Nat) ∧ Box w g 49 cur ∧ cur.length = x.c * 4 ∧ cur.take (x.n * 4) = us.flatten := by
    rcases hx.at_ with e | e
    · rw [e] at hm; simp [Sl.nil] at hm; omega
    · exact e
  have hufl : us.flatten.length = us.length * 4 := flatten_len us hx.each
  have hvfl : vs.flatten.length = vs.length * 4 := flatten_len vs ho.each
  have hxcell : ∀ w', Ext w w' → Cells w' ⟨vb, 0, none⟩ us.flatten := fun w' hE => (hxB.ext hE).part 0 _ (by rw [hufl, List.drop_zero, ← hm]; exact hxt)
  have hE3 : (i : Int).toNat = i := Int.toNat_natCast i
  refine ⟨⟨by omega, by omega⟩, fun h => by omega, fun _ => ⟨fun hend => ?_, fun hne => ⟨⟨by omega, by omega⟩, fun hgrow => ?_, fun hroom => ?_⟩⟩⟩
  · have hie : i = vs.length := by omega
    refine App.runK Tryd.underlying45 ti_49 rfl (by decide) (.inl ho) hA hx.row h1 hu (by omega) (by omega) (by simp) fun s' w' ho' hC hb => ⟨s', rfl, hC.mono fun b hb => Sl.own_blk hb, s', rfl, ?_, fun b hb' => (hb b hb').imp Sl.own_blk id⟩
    rw [hie, List.take_length, List.drop_length, List.append_nil]; exact ho'
  all_goals
    have hiv : i < vs.length := by omega
    obtain ⟨g, cur, hga, hgA, hgB, hgl, hgt⟩ : ∃ g cur, s.a = some ⟨g, 0, none⟩ ∧ g ∉ A ∧ Box w g 49 cur ∧ cur.length = s.c * 4 ∧ cur.take (s.n * 4) = vs.flatten := by
      rcases ho.at_ with e | e
      · rw [e] at hn; simp [Sl.nil] at hn; omega
      · exact e
    have hgs : s.blk = [g] := by simp [Sl.blk, hga]
    have hvg : vb ≠ g := fun e => hap vb (by simp [Sl.blk, hxa]) (by rw [hgs, e]; simp)
    have hPl : (vs.take i).flatten.length = i * 4 := by
      rw [flatten_len _ (fun u hu => ho.each u (List.mem_of_mem_take hu)), List.length_take]; congr 1; omega
    have hDl : (vs.drop i).flatten.length = (vs.length - i) * 4 := by
      rw [flatten_len _ (fun u hu => ho.each u (List.mem_of_mem_drop hu)), List.length_drop]
    have hPD : vs.flatten = (vs.take i).flatten ++ (vs.drop i).flatten := by rw [← List.flatten_append, List.take_append_drop]
    have hcur : cur = (vs.take i).flatten ++ ((vs.drop i).flatten ++ cur.drop (s.n * 4)) := by
      rw [← List.append_assoc, ← hPD, ← hgt, List.take_append_drop]
    have hD1 : ∀ v ∈ (vs.drop i).flatten, v.oneCell' = true := fun v hv => hv1 v (by rw [hPD]; exact List.mem_append_right _ hv)
    have hdcell : ∀ w', Box w' g 49 cur → Cells w' ⟨g, i * 4, none⟩ (vs.drop i).flatten := fun w' hB => hB.part (i * 4) _ (by
      have e := congrArg (fun l => List.take (vs.drop i).flatten.length (List.drop (i * 4) l)) hcur
      rw [e, ← hPl, List.drop_left, List.take_left])
  · have hc : s.c < s.n + us.length := by omega
    have hcut : (Sl.cut s 4 0 i s.c) = ⟨some ⟨g, 0, none⟩, i, s.c⟩ := by
      unfold Sl.cut; rw [hga]; simp [Addr.add_lit]
    have hk : (s.n : Int) + (x.n : Int) - (i : Int) = ((vs.length + us.length - i : Nat) : Int) := by omega
    rw [hE3, hcut, hk]
    refine ⟨⟨by omega, by omega⟩, ⟨by omega, by omega⟩, ⟨by omega, by omega⟩, ?_⟩
    refine zerosK (s := ⟨some ⟨g, 0, none⟩, i, s.c⟩) (olds := (vs.take i).flatten) Tryd.underlying45 Tryd.underlying3 ti_49 (by decide) rfl rfl (hgB.part 0 _ (by
      have e := congrArg (fun l => List.take (vs.take i).flatten.length (List.drop 0 l)) hcur
      rw [e, List.drop_zero, List.take_left])) hPl (by omega) (by simp only; omega) (by simp only; omega) (by simp only; omega) fun G w1 zz hG1 hG2 hE1 hzl hB1 => ?_
    have hN : w.heap.size < w1.heap.size := hB1.lt
    have hgw : g < w.heap.size := hgB.lt
    have hsum : i + (vs.length + us.length - i) = vs.length + us.length := by omega
    rw [hsum] at hG1 ⊢
    simp only at hzl
    refine ⟨_, rfl, ⟨by omega, by simp only; omega⟩, ?_⟩
    have hrowl : ((vs.take i).flatten ++ zz).length = G * 4 := by
      rw [List.length_append, hPl, hzl, ← Nat.add_mul]; congr 1; omega
    have hGi : ¬ G = i := by omega
    have hc1 : (Sl.cut (Sl.mk (some ⟨w.heap.size, 0, none⟩) (vs.length + us.length) G) 4 i (vs.length + us.length) G) = ⟨some ⟨w.heap.size, i * 4, none⟩, vs.length + us.length - i, G - i⟩ := by
      unfold Sl.cut; simp [Addr.add_lit, hGi]
    rw [hc1]
    refine copyK (o := i * 4) (ps := ⟨vb, 0, none⟩) (vs := us.flatten) Tryd.underlying45 ti_49 rfl hB1 hxa (by rw [hufl]; congr 1; simp only; omega) (by rw [hrowl, hufl, ← Nat.add_mul]; exact Nat.mul_le_mul_right _ (by omega)) (hxcell _ hE1) h1 (by simp) fun w2 hC2 hB2 => ⟨_, rfl, fun w3 hE3 => ⟨⟨by omega, by omega⟩, ⟨by omega, by simp only; omega⟩, ⟨by omega, by omega⟩, fun w4 hE4 => ?_⟩⟩
    have e1 : ((i : Int) + (x.n : Int)).toNat = i + us.length := by omega
    have hGim : ¬ G = i + us.length := by omega
    have hci : ¬ s.c = i := by omega
    have hc2 : (Sl.cut (Sl.mk (some ⟨w.heap.size, 0, none⟩) (vs.length + us.length) G) 4 (i + us.length) (vs.length + us.length) G) = ⟨some ⟨w.heap.size, (i + us.length) * 4, none⟩, vs.length + us.length - (i + us.length), G - (i + us.length)⟩ := by
      unfold Sl.cut; simp [Addr.add_lit, hGim]
    have hc3 : (Sl.cut s 4 i s.n s.c) = ⟨some ⟨g, i * 4, none⟩, s.n - i, s.c - i⟩ := by
      unfold Sl.cut; rw [hga]; simp [Addr.add_lit, hci]
    rw [e1, hc2, hc3]
    have hE2 : Ext w w2 := Chg.fresh hE1 hC2 (by simp)
    have hE04 := (hE2.trans hE3).trans hE4
    refine copyK (o := (i + us.length) * 4) (ps := ⟨g, i * 4, none⟩) (vs := (vs.drop i).flatten) Tryd.underlying45 ti_49 rfl ((hB2.ext hE3).ext hE4) rfl (by rw [hDl]; congr 1; simp only; omega) (by rw [putAt_len, hrowl, hDl, ← Nat.add_mul]; exact Nat.mul_le_mul_right _ (by omega)) (hdcell _ (hgB.ext hE04)) hD1 (by simp) fun w5 hC5 hB5 => ⟨_, rfl, (Chg.fresh hE04 hC5 (by simp)).mono (by simp), _, rfl, ?_, fun b hb => ?_⟩
    · refine ⟨by simp only [List.length_append, List.length_take, List.length_drop]; omega, hG1, hG2, fun u hu => ?_, .inr ⟨w.heap.size, _, rfl, fun hm => by have := hA _ hm; omega, hB5, ?_, ?_⟩⟩
      · rcases List.mem_append.1 hu with hu | hu
        · rcases List.mem_append.1 hu with hu | hu
          · exact ho.each u (List.mem_of_mem_take hu)
          · exact hx.each u hu
        · exact ho.each u (List.mem_of_mem_drop hu)
      · rw [putAt_len, putAt_len, hrowl]
      · have hf1 : us.length * 4 ≤ zz.length := by rw [hzl]; exact Nat.mul_le_mul_right _ (by omega)
        have e2 := putAt_right us.flatten (vs.take i).flatten zz 0
        rw [hPl, Nat.add_zero, putAt_eq us.flatten zz 0 (by rw [hufl]; omega)] at e2
        have e3 := putAt_right (vs.drop i).flatten ((vs.take i).flatten ++ us.flatten) (zz.drop us.flatten.length) 0
        rw [List.length_append, hPl, hufl, ← Nat.add_mul, Nat.add_zero] at e3
        rw [e2]
        simp only [List.take_zero, List.nil_append, Nat.zero_add]
        rw [← List.append_assoc, hufl, e3, putAt_eq (vs.drop i).flatten _ 0 (by rw [hDl, List.length_drop, hzl, Nat.zero_add, ← Nat.sub_mul]; exact Nat.mul_le_mul_right _ (by omega))]
        simp only [List.take_zero, List.nil_append, Nat.zero_add]
        rw [← List.append_assoc, List.flatten_append, List.flatten_append]
        refine List.take_left' ?_
        rw [List.length_append, List.length_append, hPl, hufl, hDl, ← Nat.add_mul, ← Nat.add_mul]; congr 1; omega
    · simp [Sl.blk] at hb; right; omega
  · have hc : s.n + us.length ≤ s.c := by omega
    have e0 : ((s.n : Int) + (x.n : Int)).toNat = vs.length + us.length := by omega
    have e1 : ((i : Int) + (x.n : Int)).toNat = i + us.length := by omega
    have hc0 : ¬ s.c = 0 := by omega
    have hci : ¬ s.c = i := by omega
    have hcim : ¬ s.c = i + us.length := by omega
    have hcut : (Sl.cut s 4 0 (vs.length + us.length) s.c) = ⟨some ⟨g, 0, none⟩, vs.length + us.length, s.c⟩ := by
      unfold Sl.cut; rw [hga]; simp [Addr.add_lit]
    rw [e0, hcut, e1, hE3]
    have hc1 : (Sl.cut (Sl.mk (some ⟨g, 0, none⟩) (vs.length + us.length) s.c) 4 (i + us.length) (vs.length + us.length) s.c) = ⟨some ⟨g, (i + us.length) * 4, none⟩, vs.length + us.length - (i + us.length), s.c - (i + us.length)⟩ := by
      unfold Sl.cut; simp [Addr.add_lit, hcim]
    have hc2 : (Sl.cut (Sl.mk (some ⟨g, 0, none⟩) (vs.length + us.length) s.c) 4 i (vs.length + us.length) s.c) = ⟨some ⟨g, i * 4, none⟩, vs.length + us.length - i, s.c - i⟩ := by
      unfold Sl.cut; simp [Addr.add_lit, hci]
    rw [hc1, hc2]
    refine ⟨⟨by omega, by omega⟩, ⟨by omega, by omega⟩, ⟨by omega, by omega⟩, ⟨by omega, by simp only; omega⟩, false, ?_, fun _ w1 hE1 => ⟨⟨by omega, by omega⟩, ⟨by omega, by simp only; omega⟩, ⟨by omega, by simp only; omega⟩, fun w2 hE2 => ?_⟩, fun h => by cases h⟩
    · unfold Sl.v
      rw [hxa]
      exact Lib.run_overlaps_apart w _ _ 49 Tryd.underlying45 4 (fun w => (ti_49).sizeOf w) ⟨vb, 0, none⟩ ⟨g, (i + us.length) * 4, none⟩ _ _ _ _ hvg 49 49 cx.length cur.length (shape_box hxB) (shape_box hgB) (by rw [hgl]; omega) (hxB.free 0) (hxB.free _)
    · have hE02 := hE1.trans hE2
      refine copyK (o := (i + us.length) * 4) (ps := ⟨g, i * 4, none⟩) (vs := (vs.drop i).flatten) Tryd.underlying45 ti_49 rfl (hgB.ext hE02) rfl (by rw [hDl]; congr 1; simp only; omega) (by rw [hgl, hDl, ← Nat.add_mul]; exact Nat.mul_le_mul_right _ (by omega)) (hdcell _ (hgB.ext hE02)) hD1 (by simp) fun w3 hC3 hB3 => ⟨_, rfl, ⟨by omega, by simp only; omega⟩, ?_⟩
      have hxc : Cells w3 ⟨vb, 0, none⟩ us.flatten := (hxcell _ hE02).chg hC3 (by simpa using hvg)
      refine copyK (o := i * 4) (ps := ⟨vb, 0, none⟩) (vs := us.flatten) Tryd.underlying45 ti_49 rfl hB3 hxa (by rw [hufl]; congr 1; simp only; omega) (by rw [putAt_len, hgl, hufl, ← Nat.add_mul]; exact Nat.mul_le_mul_right _ (by omega)) hxc h1 (by simp) fun w4 hC4 hB4 => ⟨_, rfl, ?_, _, rfl, ?_, fun b hb => ?_⟩
      · rw [hgs]; exact ((hE02.mono (by simp)).trans hC3).trans hC4
      · refine ⟨by simp only [List.length_append, List.length_take, List.length_drop]; omega, by simp only; omega, hmost, fun u hu => ?_, .inr ⟨g, _, rfl, hgA, hB4, ?_, ?_⟩⟩
        · rcases List.mem_append.1 hu with hu | hu
          · rcases List.mem_append.1 hu with hu | hu
            · exact ho.each u (List.mem_of_mem_take hu)
            · exact hx.each u hu
          · exact ho.each u (List.mem_of_mem_drop hu)
        · rw [putAt_len, putAt_len, hgl]
        · have hfit : (i + us.length) * 4 + (vs.drop i).flatten.length ≤ cur.length := by rw [hgl, hDl, ← Nat.add_mul]; exact Nat.mul_le_mul_right _ (by omega)
          rw [putAt_eq _ cur _ hfit]
          have ht : cur.take ((i + us.length) * 4) = (vs.take i).flatten ++ ((vs.drop i).flatten ++ cur.drop (s.n * 4)).take (us.length * 4) := by
            have e := congrArg (List.take ((i + us.length) * 4)) hcur
            rw [e, Nat.add_mul, ← hPl, List.take_append, List.take_of_length_le (Nat.le_add_right _ _), Nat.add_sub_cancel_left]
          rw [ht]
          have e2 := putAt_right us.flatten (vs.take i).flatten ((((vs.drop i).flatten ++ cur.drop (s.n * 4)).take (us.length * 4) ++ (vs.drop i).flatten ++ cur.drop ((i + us.length) * 4 + (vs.drop i).flatten.length))) 0
          rw [hPl, Nat.add_zero] at e2
          have htl : (((vs.drop i).flatten ++ cur.drop (s.n * 4)).take (us.length * 4)).length = us.flatten.length := by
            rw [List.length_take, List.length_append, hDl, List.length_drop, hgl, hufl, ← Nat.sub_mul, ← Nat.add_mul]
            exact Nat.min_eq_left (Nat.mul_le_mul_right _ (by omega))
          rw [List.append_assoc, List.append_assoc, ← List.append_assoc (List.take _ _), e2, putAt_eq us.flatten _ 0 (by rw [List.length_append, List.length_append, htl]; omega)]
          simp only [List.take_zero, List.nil_append, Nat.zero_add]
          rw [← htl, List.append_assoc (List.take _ _), List.drop_left, ← List.append_assoc, ← List.append_assoc, List.flatten_append, List.flatten_append]
          refine List.take_left' ?_
          rw [List.length_append, List.length_append, hPl, hufl, hDl, ← Nat.add_mul, ← Nat.add_mul]; congr 1; omega
      · rw [hgs]; left; simpa [Sl.blk] using hb
end

section
open Go.RowKit

theorem slicesDelete_slot {A : List Nat} {w : World} {s : Sl} {vs : List (List Value)} {i : Nat} (ho : Own A w s 4 49 vs) (h1 : ∀ u ∈ vs.flatten, u.oneCell' = true) (hi : i < vs.length) (hb : vs.length ≤ 1000000000) :
    Calls Tryd.prog 23 #[s.v, .int .i64 (i : Int), .int .i64 ((i : Int) + 1)] w (Ret fun v w' => Chg s.blk w w' ∧ ∃ s' : Sl, v = s'.v ∧ Own A w' s' 4 49 (vs.take i ++ vs.drop (i + 1)) ∧ ∀ b ∈ s'.blk, b ∈ s.blk) := by
  refine slices_Delete__format_slot_format_slot_.ok _ _ _ ?_
  unfold slices_Delete__format_slot_format_slot_.vc
  have hn := ho.len
  have hcap := ho.cap
  have hmost := ho.most
  have hmo : maxLen = 9223372036854775807 := rfl
  have hE3 : (i : Int).toNat = i := Int.toNat_natCast i
  have hE4 : ((i : Int) + 1).toNat = i + 1 := by omega
  refine ⟨⟨by omega, by omega, by omega, by omega⟩, fun h => by omega, fun _ w9 c9 => ⟨⟨by omega, by omega⟩, ⟨by omega, by omega⟩, fun w10 c10 => ?_⟩⟩
  have c := c9.trans c10
  obtain ⟨g, cur, hga, hgA, hgB, hgl, hgt⟩ : ∃ g cur, s.a = some ⟨g, 0, none⟩ ∧ g ∉ A ∧ Box w10 g 49 cur ∧ cur.length = s.c * 4 ∧ cur.take (s.n * 4) = vs.flatten := by
    rcases (ho.ext c).at_ with e | e
    · rw [e] at hn; simp [Sl.nil] at hn; omega
    · exact e
  have hgs : s.blk = [g] := by simp [Sl.blk, hga]
  rw [hE3, hE4]
  have hcut : (Sl.cut s 4 0 i s.c) = ⟨some ⟨g, 0, none⟩, i, s.c⟩ := by
    unfold Sl.cut; rw [hga]; simp [Addr.add_lit]
  obtain ⟨px, hpx⟩ : ∃ p, (Sl.cut s 4 (i + 1) s.n s.c).a = some p := by unfold Sl.cut; rw [hga]; simp only [Option.map_some]; split <;> exact ⟨_, rfl⟩
  have hr := (ho.ext c).row.cut (i + 1) s.n s.c (by omega) (Nat.le_refl _) hcap (Nat.le_refl _)
  have hxn : (Sl.cut s 4 (i + 1) s.n s.c).n = s.n - (i + 1) := rfl
  have hxv : Sl.v (Sl.cut s 4 (i + 1) s.n s.c) = .slice (some px) (s.n - (i + 1)) (s.c - (i + 1)) := by unfold Sl.v; rw [hpx]; rfl
  have hxf := hr.flat hpx
  have htk : ((vs.drop (i + 1)).take (s.n - (i + 1))) = vs.drop (i + 1) := List.take_of_length_le (by rw [List.length_drop]; omega)
  rw [htk] at hxf
  rw [hcut, hxv]
  obtain ⟨ti, hi0, hz, hsz, hbb⟩ := ti_49
  have hg : w10.heap[g]? = some (.cells cur.toArray 49 (0, 0)) := hgB
  have hxl : (vs.drop (i + 1)).flatten.length = (s.n - (i + 1)) * ti.size := by rw [hxf.1, hsz, hxn]
  have hfit : i * ti.size + (vs.drop (i + 1)).flatten.length ≤ cur.toArray.size := by
    rw [hxl, hsz, ← Nat.add_mul]; simp only [List.size_toArray]; rw [hgl]; exact Nat.mul_le_mul_right _ (by omega)
  have hrun := run_append_room (P := Tryd.prog) w10 45 45 49 ti Tryd.underlying45 hi0 g i s.c cur.toArray hg px (s.n - (i + 1)) (s.c - (i + 1)) (vs.drop (i + 1)).flatten hxl hxf.2
    (fun u hu => h1 u (by rw [← List.take_append_drop (i + 1) vs, List.flatten_append]; exact List.mem_append_right _ hu)) (by omega) hfit
  rw [hsz] at hrun
  have hc2 := setRow_chg w10 g ((cur.toArray.toList.take (i * 4) ++ (vs.drop (i + 1)).flatten ++ cur.toArray.toList.drop (i * 4 + (vs.drop (i + 1)).flatten.length)).toArray)
  have hB2 : Box (w10.setRow g ((cur.toArray.toList.take (i * 4) ++ (vs.drop (i + 1)).flatten ++ cur.toArray.toList.drop (i * 4 + (vs.drop (i + 1)).flatten.length)).toArray)) g 49 (cur.take (i * 4) ++ (vs.drop (i + 1)).flatten ++ cur.drop (i * 4 + (vs.drop (i + 1)).flatten.length)) := by
    unfold Box; exact setRow_heap w10 g cur.toArray _ _ _ hg
  have hm : i + (s.n - (i + 1)) = s.n - 1 := by omega
  rw [hm] at hrun
  have hdl : (vs.drop (i + 1)).flatten.length = (s.n - (i + 1)) * 4 := by rw [hxl, hsz]
  have hcl : (cur.take (i * 4) ++ (vs.drop (i + 1)).flatten ++ cur.drop (i * 4 + (vs.drop (i + 1)).flatten.length)).length = s.c * 4 := by
    simp only [List.length_append, List.length_take, List.length_drop, hdl, hgl]; omega
  refine ⟨_, _, hrun, hc2.noTouch _ (by simp), hc2.size, ⟨some ⟨g, 0, none⟩, s.n - 1, s.c⟩, rfl, ⟨by omega, by simp only; omega, by simp only; omega⟩, fun w13 c13 => ?_⟩
  have e1 : (((s.n - 1 : Nat) : Int)).toNat = s.n - 1 := Int.toNat_natCast _
  have e2 : ((s.n : Nat) : Int).toNat = s.n := Int.toNat_natCast _
  have hnc : ¬ s.c = s.n - 1 := by omega
  have hc1 : (Sl.cut (Sl.mk (some ⟨g, 0, none⟩) (s.n - 1) s.c) 4 (s.n - 1) s.n s.c) = ⟨some ⟨g, (s.n - 1) * 4, none⟩, s.n - (s.n - 1), s.c - (s.n - 1)⟩ := by
    unfold Sl.cut; simp [Addr.add_lit, hnc]
  rw [e1, e2, hc1]
  have hB3 := hB2.ext c13
  refine clearK Tryd.underlying45 ti_49 rfl rfl hB3 (by rw [hcl]; simp only; omega) (by
    have : s.n - (s.n - 1) = 1 := by omega
    simp only [this]
    intro v hv
    simp only [Builtin.zeroCells, Array.toList_map, List.mem_map] at hv
    obtain ⟨q, _, rfl⟩ := hv
    have hq : ∀ q : Nat, q < 4 → ((Value.agg #[Value.int IntKind.i64 0, Value.string (Bs []), Sl.nil.v, Value.bool false]).cells[q]!).oneCell' = true := by
      intro q hq
      have : q = 0 ∨ q = 1 ∨ q = 2 ∨ q = 3 := by omega
      rcases this with h | h | h | h <;> (subst h; rfl)
    exact hq _ (Nat.mod_lt _ (by decide))) (by simp) fun w15 zz c15 hzl hB15 => ?_
  simp only at hzl
  refine ⟨?_, ⟨some ⟨g, 0, none⟩, s.n - 1, s.c⟩, rfl, ⟨by simp only [List.length_append, List.length_take, List.length_drop]; omega, by simp only; omega, hmost, fun u hu => ?_, .inr ⟨g, _, rfl, hgA, hB15, ?_, ?_⟩⟩, fun b hb => by rw [hgs]; simpa [Sl.blk] using hb⟩
  · rw [hgs]; exact (((c.mono (by simp)).trans hc2).trans (c13.mono (by simp))).trans c15
  · rcases List.mem_append.1 hu with hu | hu
    · exact ho.each u (List.mem_of_mem_take hu)
    · exact ho.each u (List.mem_of_mem_drop hu)
  · rw [putAt_len, hcl]
  · rw [putAt_eq zz _ _ (by rw [hcl, hzl]; omega)]
    have hPl : (vs.take i).flatten.length = i * 4 := by
      rw [flatten_len _ (fun u hu => ho.each u (List.mem_of_mem_take hu)), List.length_take]; omega
    have htc : cur.take (i * 4) = (vs.take i).flatten := by
      have e : (cur.take (s.n * 4)).take (i * 4) = cur.take (i * 4) := by rw [List.take_take]; congr 1; omega
      rw [← e, hgt, ← List.take_append_drop i vs, List.flatten_append, ← hPl, List.take_left]
      simp
    rw [htc, List.flatten_append, List.append_assoc]
    have hl2 : ((vs.take i).flatten ++ (vs.drop (i + 1)).flatten).length = (s.n - 1) * 4 := by rw [List.length_append, hPl, hdl]; omega
    show List.take ((s.n - 1) * 4) _ = _
    rw [← hl2, List.take_left, List.take_left]
end

section
open Go.RowKit

/-- An entry, or a marker: its number, name, attributes; where these stand. -/
structure Sd where
  id : Int
  nm : Str
  ats : List (Str × Str)
  mar : Bool
  sa : Sl

instance : Inhabited Sd := ⟨⟨0, [], [], true, Sl.nil⟩⟩

def sdc (x : Sd) : List Value := [.int .i64 x.id, .string (Bs x.nm), x.sa.v, .bool x.mar]

/-- A List at B, apart from A. -/
structure FL (A : List Nat) (w : World) (B : Nat) (s : Sl) (X : List Sd) : Prop where
  box : Box w B 47 [s.v]
  out : B ∉ A
  row : Own A w s 4 49 (X.map sdc)
  ats : ∀ x ∈ X, Own A w x.sa 2 28 (x.ats.map ac) ∧ x.ats.length ≤ 1000
  few : X.length ≤ 1000000
  old : ∀ b ∈ A, b < w.heap.size

variable {A F : List Nat} {w w' : World} {B : Nat} {s : Sl} {X : List Sd}

theorem FL.chg (h : FL A w B s X) (c : Chg F w w') (hF : ∀ b ∈ F, b ∈ A) : FL A w' B s X :=
  ⟨h.box.keep c fun hm => h.out (hF _ hm), h.out, h.row.chg c hF, fun x hx => ⟨(h.ats x hx).1.chg c hF, (h.ats x hx).2⟩, h.few, fun b hb => Nat.lt_of_lt_of_le (h.old b hb) c.size⟩

theorem FL.ext (h : FL A w B s X) (c : Ext w w') : FL A w' B s X := h.chg c (by simp)

theorem FL.new (h : FL A w B s X) {C : Nat} (hN : New w C w') (c : Ext w w') : FL (C :: A) w' B s X :=
  ⟨h.box.ext c, fun hm => by
    rcases List.mem_cons.1 hm with e | e
    · have := h.box.lt; have := hN.ge; omega
    · exact h.out e, (h.row.fresh hN.ge).ext c, fun x hx => ⟨((h.ats x hx).1.fresh hN.ge).ext c, (h.ats x hx).2⟩, h.few, fun b hb => by
    rcases List.mem_cons.1 hb with e | e
    · rw [e]; exact hN.lt
    · exact Nat.lt_of_lt_of_le (h.old b e) c.size⟩

theorem FL.less (h : FL A w B s X) {A' : List Nat} (hA : ∀ b ∈ A', b ∈ A) : FL A' w B s X :=
  ⟨h.box, fun hm => h.out (hA _ hm), h.row.less hA, fun x hx => ⟨(h.ats x hx).1.less hA, (h.ats x hx).2⟩, h.few, fun b hb => h.old b (hA b hb)⟩

theorem FL.cell (h : FL A w B s X) : w.cell? ((⟨B, 0, none⟩ : Addr).add 0) = some s.v := by rw [Addr.add_zero']; exact h.box.cell 0 _ rfl

theorem FL.len (h : FL A w B s X) : s.n = X.length := by have := h.row.len; simpa using this

theorem FL.at_ (h : FL A w B s X) {k : Nat} (hk : k < X.length) : ∃ p, s.a = some p ∧ Cells w (p.add (k * 4)) (sdc (X.getD k default)) := by
  have hr := h.row.row
  obtain ⟨p, hp, _⟩ := hr.at_ k (by simpa using hk)
  have hc := hr.cells1 (i := k) (by simpa using hk) hp
  have e : (X.map sdc).getD k [] = sdc (X.getD k default) := by simp [List.getD_eq_getElem?_getD, hk]
  rw [e] at hc
  exact ⟨p, hp, hc⟩

theorem FL.mem (_ : FL A w B s X) {k : Nat} (hk : k < X.length) : X.getD k default ∈ X := by
  rw [List.getD_eq_getElem?_getD, List.getElem?_eq_getElem hk]; exact List.getElem_mem hk

/-- Behind the last marker of the first n. -/
def fromAt (X : List Sd) : Nat → Nat
  | 0 => 0
  | n + 1 => if (X.getD n default).mar then n + 1 else fromAt X n

theorem fromAt_le (X : List Sd) : ∀ n, fromAt X n ≤ n
  | 0 => Nat.le_refl _
  | n + 1 => by rw [fromAt]; split; exact Nat.le_refl _; exact Nat.le_succ_of_le (fromAt_le X n)

theorem fmtFrom (h : FL A w B s X) : Calls Tryd.prog 22 #[.pointer (some ⟨B, 0, none⟩)] w (Ret fun v w' => Ext w w' ∧ v = .int .i64 (fromAt X X.length : Nat)) := by
  refine format_List_from.ok _ ?_
  unfold format_List_from.vc
  have hf := h.few
  have hl := h.len
  refine ⟨s, h.cell, fun n w' => w' = w ∧ ∃ k : Nat, n = (k : Int) ∧ k ≤ X.length ∧ fromAt X X.length = fromAt X k, fun n _ => n.toNat, ⟨rfl, X.length, by rw [hl], Nat.le_refl _, rfl⟩, ?_⟩
  rintro _ _ ⟨rfl, k, rfl, hk, he⟩
  cases k with
  | zero => exact ⟨Sl.nil, fun h => by omega, fun h => by omega, ⟨0, 0, none⟩, fun h => by omega, true, fun h => by omega, fun h => by omega, fun _ => ⟨Chg.refl _ _, by rw [he]; rfl⟩⟩
  | succ k =>
    obtain ⟨p, hp, hc⟩ := h.at_ (k := k) (by omega)
    have e1 : (((k + 1 : Nat) : Int) - 1) = (k : Int) := by omega
    rw [e1, Int.toNat_natCast]
    refine ⟨s, fun _ => h.cell, fun _ => ⟨by omega, by omega⟩, p, fun _ => ⟨⟨by omega, by omega⟩, hp⟩, (X.getD k default).mar, fun _ => hc 3 _ rfl, fun hh => ⟨⟨by omega, by omega⟩, ⟨rfl, k, rfl, by omega, by rw [he, fromAt, hh.2]; rfl⟩, by show (k : Int).toNat < ((k + 1 : Nat) : Int).toNat; omega⟩, fun hh => ⟨Chg.refl _ _, ?_⟩⟩
    rcases hh with hh | hh
    · omega
    · rw [he, fromAt, hh]; rfl

theorem fmtClone {id : Int} {nm : Str} {sa : Sl} {ats : List (Str × Str)} (h : Row [] w sa 2 (ats.map ac)) (hb : ats.length ≤ 1000) : Calls Tryd.prog 24 #[.agg #[.int .i64 id, .string (Bs nm), sa.v]] w
    (Ret fun v w' => Ext w w' ∧ ∃ sa' : Sl, v = .agg #[.int .i64 id, .string (Bs nm), sa'.v] ∧ Own (List.range w.heap.size) w' sa' 2 28 (ats.map ac)) := by
  refine format_Entry_clone.ok _ _ _ ?_
  unfold format_Entry_clone.vc
  intro w5 B2 B4 n2 n4 _ c5
  refine CallK.ext (cloneAttrs (h.ext c5) (by omega)) fun v w8 c8 ⟨r, hv, ho⟩ => ⟨r, hv, fun w11 c11 => ⟨Chg.fresh (c5.trans c8) c11 (fun b hb => ?_), r, rfl, ?_⟩⟩
  · have := n2.ge; have := n4.ge
    simp at hb; rcases hb with hb | hb <;> omega
  · refine (ho.chg c11 fun b hb => ?_).less fun b hb => ?_
    · have := n2.lt; have := n4.lt
      simp at hb; simp; rcases hb with hb | hb <;> omega
    · have := c5.size
      simp at hb ⊢; omega

/-- Where the entry of a number stands first; -1: nowhere. -/
def placeAt : List Sd → Int → Int → Int
  | [], _, _ => -1
  | x :: r, id, k => if x.mar = false ∧ x.id = id then k else placeAt r id (k + 1)

theorem fmtPlaceFn {C : Nat} {id : Int} (hC : w.cell? ⟨C, 0, none⟩ = some (.int .i64 id)) (x : Sd) : Calls Tryd.prog 26 #[.agg #[.int .i64 x.id, .string (Bs x.nm), x.sa.v, .bool x.mar], .pointer (some ⟨C, 0, none⟩)] w
    (Ret fun v w' => Ext w w' ∧ v = .bool (decide (x.mar = false ∧ x.id = id))) := by
  refine format_List_Place_1.ok _ _ _ _ _ ?_
  unfold format_List_Place_1.vc
  refine fun w4 _ _ c4 => ⟨id, fun _ => Ext.cell c4 hC, c4, ?_⟩
  cases hm : x.mar <;> simp

theorem fmtPlaceBody : Body Tryd.prog 26 := ⟨_, Tryd.func26, by decide, rfl⟩

theorem fmtIndex (h : FL A w B s X) {C : Nat} {id : Int} (hC : w.cell? ⟨C, 0, none⟩ = some (.int .i64 id)) :
    Calls Tryd.prog 25 #[s.v, .func (.func 26) #[] #[.pointer (some ⟨C, 0, none⟩)]] w (Ret fun v w' => Ext w w' ∧ v = .int .i64 (placeAt X id 0)) := by
  refine slices_IndexFunc__format_slot_format_slot_.ok _ _ ?_
  unfold slices_IndexFunc__format_slot_format_slot_.vc
  have hl := h.len
  have hf := h.few
  refine ⟨fun i w' => ∃ k : Nat, i = (k : Int) ∧ k ≤ X.length ∧ placeAt X id 0 = placeAt (X.drop k) id k ∧ Ext w w', fun i _ => X.length - i.toNat, ⟨0, rfl, by omega, rfl, Chg.refl _ _⟩, ?_⟩
  rintro _ w1 ⟨k, rfl, hk, he, hE⟩
  rw [Int.toNat_natCast]
  refine ⟨fun hi => ?_, fun hi => ⟨hE, ?_⟩⟩
  · have hk' : k < X.length := by omega
    obtain ⟨p, hp, hc⟩ := (h.ext hE).at_ hk'
    rw [drop_at X default hk', placeAt] at he
    refine ⟨⟨by omega, hi⟩, p, hp, _, _, _, _, hc, 26, #[], #[.pointer (some ⟨C, 0, none⟩)], rfl, fmtPlaceBody, CallK.exact (fmtPlaceFn (Ext.cell hE hC) (X.getD k default)) fun w2 hE2 => ⟨_, rfl, fun hx => ⟨hE.trans hE2, ?_⟩, fun hx => ⟨⟨by omega, by omega⟩, ⟨k + 1, by omega, by omega, ?_, hE.trans hE2⟩, by dsimp only; omega⟩⟩⟩
    · rw [he, if_pos (of_decide_eq_true hx)]
    · rw [he, if_neg (of_decide_eq_false hx)]; rfl
  · have hkl : k = X.length := by omega
    subst hkl
    rw [he, List.drop_length]; rfl

theorem fmtPlace (h : FL A w B s X) (id : Int) : Calls Tryd.prog 10 #[.pointer (some ⟨B, 0, none⟩), .int .i64 id] w (Ret fun v w' => Ext w w' ∧ v = .int .i64 (placeAt X id 0)) := by
  refine format_List_Place.ok _ _ ?_
  unfold format_List_Place.vc
  intro w4 C hN c4
  have h4 := h.ext c4
  exact ⟨s, h4.cell, fun hB => CallK.exact (fmtIndex h4 (hB.cell 0 _ rfl)) fun w9 c9 => ⟨_, rfl, c4.trans c9, rfl⟩⟩

theorem fmtLen (h : FL A w B s X) : Calls Tryd.prog 13 #[.pointer (some ⟨B, 0, none⟩)] w (Ret fun v w' => Ext w w' ∧ v = .int .i64 (X.length : Nat)) := by
  refine format_List_Len.ok _ ?_
  unfold format_List_Len.vc
  exact ⟨s, h.cell, Chg.refl _ _, by rw [h.len]⟩
end

section
open Go.RowKit

def piece (x : Str) : Str := Lib.decDigits x.length ++ [58] ++ x

def keyA (ats : List (Str × Str)) : Str := ats.flatMap fun a => piece a.1 ++ piece a.2

def KeyOk (ats : List (Str × Str)) : Prop := (∀ a ∈ ats, a.1.length < 100 ∧ a.2.length < 100) ∧ (keyA ats).length ≤ 500000

theorem piece_pos (x : Str) : 0 < (piece x).length := by simp [piece]; omega

theorem keyA_take {ats : List (Str × Str)} {k : Nat} (hk : k < ats.length) : keyA (ats.take (k + 1)) = keyA (ats.take k) ++ (piece (ats.getD k ([], [])).1 ++ piece (ats.getD k ([], [])).2) := by
  unfold keyA
  rw [List.take_succ_eq_append_getElem hk, List.flatMap_append]
  simp [List.getD_eq_getElem?_getD, hk]

theorem keyA_le (ats : List (Str × Str)) (k : Nat) : (keyA (ats.take k)).length ≤ (keyA ats).length := by
  have : keyA ats = keyA (ats.take k) ++ keyA (ats.drop k) := by unfold keyA; rw [← List.flatMap_append, List.take_append_drop]
  rw [this, List.length_append]; omega

theorem fmtKey {w : World} {id : Int} {nm : Str} {sa : Sl} {ats : List (Str × Str)} (h : Row [] w sa 2 (ats.map ac)) (hk : KeyOk ats) (hb : ats.length ≤ 1000) : Calls Tryd.prog 21 #[.agg #[.int .i64 id, .string (Bs nm), sa.v]] w
    (Ret fun v w' => Ext w w' ∧ v = .agg #[.string (Bs nm), .string (Bs (keyA ats))]) := by
  refine format_Entry_key.ok _ _ _ ?_
  unfold format_Entry_key.vc
  intro w8 B2 B4 B7 n2 n4 n7 h24 h27 h47 c8 hB7
  have hl := h.len
  rw [List.length_map] at hl
  let A : List Nat := (List.range w8.heap.size).filter fun b => decide (b ≠ B7)
  have hA : ∀ b, b ∈ A ↔ b < w8.heap.size ∧ b ≠ B7 := fun b => by simp [A]
  have hrow : ∀ w', Mod A w8 w' → Row [] w' sa 2 (ats.map ac) := fun w' hm =>
    (((h.fresh (by decide) n7.ge).ext c8).chg hm.chg fun b hb => by
      have := mem_free.1 hb
      rw [hA] at this
      simp; omega).less (by simp)
  have h0 : Bl A w8 B7 none Sl.nil [] := ⟨hB7, Own.nil _ _ _ _, .inl rfl, fun hm => ((hA _).1 hm).2 rfl, fun a ha => ((hA a).1 ha).1, by simp⟩
  have hbx : ∀ {w' w'' : World}, Mod A w8 w' → Mod A w' w'' → NoTouch [B2, B4] w' w'' := fun hm hm' b hb hlt => hm'.block b hlt ((hA b).2 (by
    have := n2.lt; have := n4.lt
    simp at hb
    rcases hb with e | e <;> (rw [e]; exact ⟨by omega, by omega⟩)))
  refine ⟨fun x w' => ∃ k : Nat, x = (k : Int) ∧ k ≤ ats.length ∧ Mod A w8 w' ∧ ∃ o s, Bl A w' B7 o s (keyA (ats.take k)) ∧ (k = 0 → s = Sl.nil), fun x _ => ats.length - x.toNat, ⟨0, rfl, by omega, Mod.refl _ _, none, Sl.nil, by simpa [keyA] using h0, fun _ => rfl⟩, ?_⟩
  rintro _ w85 ⟨k, rfl, hkl, hm, o, s, hbl, hs0⟩
  rw [Int.toNat_natCast]
  refine ⟨fun hlt => ?_, fun hge w187 c187 => ?_⟩
  · have hk' : k < ats.length := by omega
    obtain ⟨p, hp, hc⟩ := (hrow w85 hm).attr hk'
    have ha : ats.getD k ([], []) ∈ ats := by rw [List.getD_eq_getElem?_getD, List.getElem?_eq_getElem hk']; exact List.getElem_mem hk'
    have hlen := hk.1 _ ha
    have htk := keyA_take hk'
    have htot := keyA_le ats (k + 1)
    have hk2 := hk.2
    rw [htk] at htot
    simp only [List.length_append] at htot
    refine ⟨⟨by omega, by omega⟩, p, hp, (ats.getD k ([], [])).1, (ats.getD k ([], [])).2, hc, fun w139 B137 n137 c139 => ?_⟩
    generalize ats.getD k ([], []) = a at *
    refine ⟨fun x w' => ∃ m : Nat, x = (m : Int) ∧ m ≤ 2 ∧ Mod A w8 w' ∧ ∃ o s, Bl A w' B7 o s (keyA (ats.take k) ++ (([a.1, a.2] : List Str).take m).flatMap piece), fun x _ => 2 - x.toNat, ⟨0, rfl, by omega, hm.trans (Mod.ext c139), o, s, by simpa using hbl.ext c139⟩, ?_⟩
    rintro _ w143 ⟨m, rfl, hm2, hmm, o', s', hbl'⟩
    rw [Int.toNat_natCast]
    refine ⟨fun hlt2 => ?_, fun hge2 => ?_⟩
    · have hm' : m < 2 := by omega
      have hnext : (([a.1, a.2] : List Str).take (m + 1)).flatMap piece = (([a.1, a.2] : List Str).take m).flatMap piece ++ piece (([a.1, a.2] : List Str).getD m []) := by
        rcases (show m = 0 ∨ m = 1 by omega) with e | e <;> (subst e; simp)
      have hxl : (([a.1, a.2] : List Str).getD m []).length < 100 := by
        rcases (show m = 0 ∨ m = 1 by omega) with e | e <;> (subst e; simp; omega)
      have hcur : (keyA (ats.take k) ++ (([a.1, a.2] : List Str).take m).flatMap piece).length + (piece (([a.1, a.2] : List Str).getD m [])).length ≤ 500000 := by
        rcases (show m = 0 ∨ m = 1 by omega) with e | e <;> (subst e; simp; omega)
      obtain ⟨x, hxe⟩ : ∃ x, x = (([a.1, a.2] : List Str).getD m []) := ⟨_, rfl⟩
      rw [← hxe] at hnext hxl hcur ⊢
      obtain ⟨l', hle⟩ : ∃ l', l' = keyA (ats.take k) ++ (([a.1, a.2] : List Str).take m).flatMap piece := ⟨_, rfl⟩
      rw [← hle] at hbl' hcur
      have hpl : (piece x).length = (Lib.decDigits x.length).length + 1 + x.length := by simp [piece]; omega
      refine ⟨⟨by omega, by omega⟩, ?_⟩
      refine Calls.mono (lay_strconv_Itoa_small x.length hxl w143) fun e w' ⟨h1, h2⟩ => ?_
      subst h1; subst h2
      refine ⟨fun _ _ _ => rfl, Nat.le_refl _, Lib.decDigits x.length, rfl, ?_⟩
      refine Ret.mono (bldPut hbl' (Lib.decDigits x.length) (by omega)) fun v w168 ⟨m1, hv, s1, b1⟩ => ⟨hbx hmm m1, m1.size, _, _, hv, ?_⟩
      have hm1 := hmm.trans m1
      refine Ret.mono (bldByte b1 58 (by simp; omega)) fun v w171 ⟨m2, hv, s2, b2⟩ => ⟨hbx hm1 m2, m2.size, v, rfl, ?_⟩
      have hm2' := hm1.trans m2
      refine Ret.mono (bldPut b2 x (by simp; omega)) fun v w175 ⟨m3, hv, s3, b3⟩ => ⟨hbx hm2' m3, m3.size, _, _, hv, ⟨by omega, by omega⟩, ⟨m + 1, by omega, by omega, hm2'.trans m3, some ⟨B7, 0, none⟩, s3, ?_⟩, by dsimp only; omega⟩
      rw [hnext, ← List.append_assoc, ← hle]
      simpa [piece, List.append_assoc] using b3
    · have e2 : m = 2 := by omega
      subst e2
      refine ⟨⟨by omega, by omega⟩, ⟨k + 1, by omega, by omega, hmm, o', s', ?_, fun h => by omega⟩, by dsimp only; omega⟩
      rw [htk]; simpa using hbl'
  · have hkn : k = ats.length := by omega
    subst hkn
    rw [List.take_length] at hbl
    have hm187 := hm.trans (Mod.ext c187)
    refine Ret.mono (bldStr (hbl.ext c187) ?_) fun v w197 ⟨m1, hv⟩ => ⟨hbx hm187 m1, m1.size, _, hv, fun w207 c207 w228 c228 => ⟨?_, rfl⟩⟩
    · by_cases h0 : ats.length = 0
      · exact .inr (hs0 h0)
      · left
        intro e
        have hat : 0 < ats.length := by omega
        have h1 := keyA_take hat
        have h2 := keyA_le ats 1
        rw [h1, e] at h2
        have := piece_pos (ats.getD 0 ([], [])).1
        simp only [List.length_append, List.length_nil] at h2; omega
    · have hx := (hm187.trans m1).trans (Mod.ext c207)
      have hx' : Ext w w207 := Mod.fresh c8 hx fun x hx => (hA x).2 ⟨by have := c8.size; omega, by have := n7.ge; omega⟩
      exact Chg.fresh hx' c228 (by have := n4.ge; simp; omega)
end

section
open Go.RowKit

variable {A F : List Nat} {w w' : World} {B : Nat} {s s' : Sl} {X X' : List Sd}

theorem FL.apart (h : FL A w B s X) : B ∉ s.blk := h.row.other h.box (by decide)

theorem FL.sa (h : FL A w B s X) {x : Sd} (hx : x ∈ X) : ∀ b ∈ x.sa.blk, b ∉ B :: s.blk := by
  intro b hb hm
  have ho := (h.ats x hx).1
  rcases List.mem_cons.1 hm with e | e
  · subst e; exact ho.other h.box (by decide) hb
  · rcases h.row.at_ with e' | ⟨g, cur, hg, _, hB, _⟩
    · rw [e'] at e; simp [Sl.blk, Sl.nil] at e
    · simp [Sl.blk, hg] at e; subst e; exact ho.other hB (by decide) hb

theorem FL.next (h : FL A w B s X) (c : Chg (B :: s.blk) w w') (box' : Box w' B 47 [s'.v]) (row' : Own A w' s' 4 49 (X'.map sdc)) (hX : ∀ x ∈ X', x ∈ X ∨ (Own A w' x.sa 2 28 (x.ats.map ac) ∧ x.ats.length ≤ 1000))
    (few : X'.length ≤ 1000000) : FL A w' B s' X' :=
  ⟨box', h.out, row', fun x hx => (hX x hx).elim (fun hm => ⟨(h.ats x hm).1.keep c (h.sa hm), (h.ats x hm).2⟩) id, few, fun b hb => Nat.lt_of_lt_of_le (h.old b hb) c.size⟩

theorem FL.mod (h : FL A w B s X) (c : Chg (B :: s.blk) w w') : Mod A w w' := Mod.of c fun x hx hA => by
  rcases List.mem_cons.1 hx with e | e
  · exact h.out (e ▸ hA)
  · exact (h.row.blk x e).1 hA

theorem sdc_one (x : Sd) : ∀ v ∈ sdc x, v.oneCell' = true := by
  intro v hv
  simp [sdc] at hv
  rcases hv with rfl | rfl | rfl | rfl <;> rfl

theorem sdcs_one (X : List Sd) : ∀ u ∈ (X.map sdc).flatten, u.oneCell' = true := by
  intro u hu
  obtain ⟨l, hl, hm⟩ := List.mem_flatten.1 hu
  obtain ⟨x, _, rfl⟩ := List.mem_map.1 hl
  exact sdc_one x u hm

/-- A marker. -/
def mark : Sd := ⟨0, [], [], true, Sl.nil⟩
end

section
open Go.RowKit

variable {A F : List Nat} {w w' : World} {B : Nat} {s s' : Sl} {X X' : List Sd}

theorem cells3 {p : Addr} {x : Sd} (h : Cells w p (sdc x)) : Cells w (p.add 0) [.int .i64 x.id, .string (Bs x.nm), x.sa.v] := by
  rw [Addr.add_zero']
  intro j v hv
  match j, hv with
  | 0, hv => exact h 0 v hv
  | 1, hv => exact h 1 v hv
  | 2, hv => exact h 2 v hv
  | n + 3, hv => simp at hv

theorem fmtAt (h : FL A w B s X) {k : Nat} (hk : k < X.length) : Calls Tryd.prog 18 #[.pointer (some ⟨B, 0, none⟩), .int .i64 (k : Int)] w
    (Ret fun v w' => Ext w w' ∧ ∃ sa' : Sl, v = .tuple #[.agg #[.int .i64 (X.getD k default).id, .string (Bs (X.getD k default).nm), Sl.v sa'], .bool true]) := by
  refine format_List_At.ok _ _ ?_
  unfold format_List_At.vc
  have hl := h.len
  intro w4 C hN c4
  refine ⟨s, fun _ => (h.ext c4).cell, fun hh => by omega, fun _ => ?_⟩
  have h4 := h.ext c4
  obtain ⟨p, hp, hc⟩ := h4.at_ hk
  have ha := h4.ats _ (h4.mem hk)
  rw [Int.toNat_natCast]
  refine ⟨s, h4.cell, ⟨by omega, by omega⟩, p, hp, _, _, _, cells3 hc, CallK.ext (fmtClone (ha.1.row.less (by simp)) ha.2) fun v w14 c14 ⟨sa', hv, _⟩ => ⟨_, _, sa', hv, fun w15 c15 => ⟨Chg.fresh (c4.trans c14) c15 (by have := hN.ge; simp; omega), sa', rfl⟩⟩⟩

/-- The last of that name among the first n, not before f. -/
def lastIn (X : List Sd) (nm : Str) (f : Nat) : Nat → Option Nat
  | 0 => none
  | k + 1 => if f ≤ k then if (X.getD k default).nm = nm then some k else lastIn X nm f k else none

theorem fmtLast (h : FL A w B s X) (nm : Str) : Calls Tryd.prog 14 #[.pointer (some ⟨B, 0, none⟩), .string (Bs nm)] w
    (Ret fun v w' => Ext w w' ∧ match lastIn X nm (fromAt X X.length) X.length with
      | some k => ∃ sa' : Sl, v = .tuple #[.agg #[.int .i64 (X.getD k default).id, .string (Bs (X.getD k default).nm), Sl.v sa'], .bool true]
      | none => v = .tuple #[.agg #[.int .i64 0, .string (Bs ([] : Str)), Sl.v Sl.nil], .bool false]) := by
  refine format_List_Last.ok _ _ ?_
  unfold format_List_Last.vc
  have hl := h.len
  have hfew := h.few
  intro w4 C hN c4
  have hCge := hN.ge
  refine ⟨s, (h.ext c4).cell, ⟨by omega, by omega⟩, fun i w' => Ext w4 w' ∧ ∃ k : Nat, i = (k : Int) - 1 ∧ k ≤ X.length ∧ lastIn X nm (fromAt X X.length) X.length = lastIn X nm (fromAt X X.length) k, fun i _ => (i + 1).toNat, ⟨Chg.refl _ _, X.length, by omega, Nat.le_refl _, rfl⟩, ?_⟩
  rintro _ w9 ⟨c9, k, rfl, hk, he⟩
  have h9 := (h.ext c4).ext c9
  refine CallK.exact (fmtFrom h9) fun w28 c28 => ⟨_, rfl, fun hle => ?_, fun hnle w43 c43 => ⟨Chg.fresh (c4.trans (c9.trans c28)) c43 (by simp; omega), ?_⟩⟩
  · obtain ⟨k, rfl⟩ : ∃ j, k = j + 1 := ⟨k - 1, by omega⟩
    have e1 : (((k + 1 : Nat) : Int) - 1) = (k : Int) := by omega
    rw [e1] at hle ⊢
    rw [Int.toNat_natCast]
    have h28 := h9.ext c28
    obtain ⟨p, hp, hc⟩ := h28.at_ (k := k) (by omega)
    rw [lastIn, if_pos (by omega)] at he
    refine ⟨s, h28.cell, ⟨by omega, by omega⟩, p, hp, (X.getD k default).nm, ?_, fun hn => ?_, fun hn => ⟨⟨by omega, by omega⟩, ⟨c9.trans c28, k, rfl, by omega, by rw [he, if_neg hn]⟩, by show ((k : Int) - 1 + 1).toNat < ((k : Int) + 1).toNat; omega⟩⟩
    · rw [Addr.add_zero']; exact hc 1 _ rfl
    · have ha := h28.ats _ (h28.mem (k := k) (by omega))
      refine ⟨s, h28.cell, ⟨by omega, by omega⟩, p, hp, _, _, _, cells3 hc, CallK.ext (fmtClone (ha.1.row.less (by simp)) ha.2) fun v w38 c38 ⟨sa', hv, _⟩ => ⟨_, _, sa', hv, fun w39 c39 => ⟨Chg.fresh ((c4.trans (c9.trans c28)).trans c38) c39 (by simp; omega), ?_⟩⟩⟩
      rw [he, if_pos hn]
      exact ⟨sa', rfl⟩
  · cases k with
    | zero => rw [he]; rfl
    | succ k => rw [he, lastIn, if_neg (by omega)]

theorem placeAt_spec : ∀ (X : List Sd) (id : Int) (k : Nat), (placeAt X id k = -1 ∧ ∀ x ∈ X, ¬ (x.mar = false ∧ x.id = id)) ∨ ∃ j : Nat, placeAt X id k = ((k + j : Nat) : Int) ∧ j < X.length ∧ (X.getD j default).mar = false ∧ (X.getD j default).id = id ∧ ∀ x ∈ X.take j, ¬ (x.mar = false ∧ x.id = id)
  | [], id, k => .inl ⟨rfl, by simp⟩
  | x :: r, id, k => by
    rw [placeAt]
    by_cases hx : x.mar = false ∧ x.id = id
    · rw [if_pos hx]; exact .inr ⟨0, by simp, by simp, hx.1, hx.2, by simp⟩
    · rw [if_neg hx]
      rcases placeAt_spec r id (k + 1) with ⟨h1, h2⟩ | ⟨j, h1, h2, h3, h4, h5⟩
      · left; exact ⟨by rw [← h1]; rfl, fun y hy => by rcases List.mem_cons.1 hy with e | e; · rw [e]; exact hx
                                                       · exact h2 y e⟩
      · right; refine ⟨j + 1, ?_, by simp; omega, h3, h4, fun y hy => ?_⟩
        · have : ((k + 1 : Nat) : Int) = (k : Int) + 1 := by omega
          rw [this] at h1; rw [h1]; omega
        · rw [List.take_succ_cons] at hy
          rcases List.mem_cons.1 hy with e | e
          · rw [e]; exact hx
          · exact h5 y e

def remAt (X : List Sd) (i : Int) : List Sd := if 0 ≤ i then X.take i.toNat ++ X.drop (i.toNat + 1) else X

theorem fmtRemove (h : FL A w B s X) (id : Int) : Calls Tryd.prog 20 #[.pointer (some ⟨B, 0, none⟩), .int .i64 id] w
    (Ret fun v w' => Mod A w w' ∧ v = .bool (decide (0 ≤ placeAt X id 0)) ∧ ∃ s', FL A w' B s' (remAt X (placeAt X id 0))) := by
  refine format_List_Remove.ok _ _ ?_
  unfold format_List_Remove.vc
  have hl := h.len
  have hfew := h.few
  refine CallK.exact (fmtPlace h id) fun w5 c5 => ⟨_, rfl, fun h0 => ?_, fun h0 => ⟨Mod.ext c5, rfl, s, by rw [remAt, if_neg h0]; exact h.ext c5⟩⟩
  have h5 := h.ext c5
  rcases placeAt_spec X id 0 with ⟨e, _⟩ | ⟨j, e, hj, _⟩
  · rw [show ((0 : Nat) : Int) = 0 from rfl] at e; omega
  rw [show ((0 : Nat) : Int) = 0 from rfl, Nat.zero_add] at e
  rw [e] at h0 ⊢
  refine ⟨s, h5.cell, ⟨by omega, by omega⟩, ?_⟩
  refine Ret.mono (slicesDelete_slot (A := B :: A) (h5.row.cons h5.apart) (sdcs_one X) (by simpa using hj) (by simp; omega)) fun v w10 ⟨c10, s', hv, ho, hb⟩ => ⟨c10.noTouch _ (by simp), c10.size, s', hv, B, 0, 47, [s.v], Addr.add_zero' _, h5.box.keep c10 h5.apart, by simp, by simp, fun w15 c15 hB15 => ?_⟩
  have c : Chg (B :: s.blk) w w15 := ((c5.mono (by simp)).trans (c10.mono fun b hb => List.mem_cons_of_mem _ hb)).trans (c15.mono (by simp))
  refine ⟨h.mod c, by rw [show decide ((0 : Int) ≤ (j : Int)) = true from decide_eq_true (by omega)], s', h.next c hB15 ?_ (fun x hx => .inl ?_) ?_⟩
  · have := (ho.chg c15 (by simp)).less (A' := A) (fun b hb => by simp [hb])
    rw [remAt, if_pos h0, Int.toNat_natCast, List.map_append, List.map_take, List.map_drop]; exact this
  · rw [remAt, if_pos h0] at hx
    rcases List.mem_append.1 hx with hx | hx
    · exact List.mem_of_mem_take hx
    · exact List.mem_of_mem_drop hx
  · rw [remAt, if_pos h0, List.length_append, List.length_take, List.length_drop]; omega

theorem fmtPutOut (h : FL A w B s X) {i : Int} (hi : i < 0 ∨ (X.length : Int) < i) {id : Int} {nm : Str} {sa : Sl} : Calls Tryd.prog 17 #[.pointer (some ⟨B, 0, none⟩), .int .i64 i, .agg #[.int .i64 id, .string (Bs nm), sa.v]] w
    (Ret fun v w' => Ext w w' ∧ v = .bool false) := by
  refine format_List_Put.ok _ _ _ _ _ ?_
  unfold format_List_Put.vc
  have hl := h.len
  intro w5 C hN c5
  refine ⟨s, fun _ => (h.ext c5).cell, fun _ => ⟨c5, rfl⟩, fun hh => by omega⟩

theorem fmtPut (h : FL A w B s X) (hf : X.length < 1000000) {k : Nat} (hk : k ≤ X.length) {id : Int} {nm : Str} {sa : Sl} {ats : List (Str × Str)} (ha : Row [] w sa 2 (ats.map ac)) (hb : ats.length ≤ 1000) : Calls Tryd.prog 17 #[.pointer (some ⟨B, 0, none⟩), .int .i64 (k : Int), .agg #[.int .i64 id, .string (Bs nm), sa.v]] w
    (Ret fun v w' => Mod A w w' ∧ v = .bool true ∧ ∃ s' sa', FL A w' B s' (X.take k ++ [⟨id, nm, ats, false, sa'⟩] ++ X.drop k)) := by
  refine format_List_Put.ok _ _ _ _ _ ?_
  unfold format_List_Put.vc
  have hl := h.len
  intro w5 C hN c5
  refine ⟨s, fun _ => (h.ext c5).cell, fun hh => by omega, fun _ w14 c14 => ?_⟩
  have c54 := c5.trans c14
  have h14 := h.ext c54
  refine ⟨s, h14.cell, fun a b r W => a = id ∧ b = nm ∧ Own (List.range w14.heap.size) W r 2 28 (ats.map ac), fun a b r W W' hE ⟨h1, h2, h3⟩ => ⟨h1, h2, h3.ext hE⟩, fun W hE => Ret.mono (fmtClone (ha.ext (c54.trans hE)) hb) fun v W' ⟨c1, r, hv, ho⟩ => ⟨c1, id, nm, r, hv, rfl, rfl, ho.less fun b hb => by have := hE.size; simp at hb ⊢; omega⟩, ?_⟩
  intro w41 a b r C2 c41 ⟨ea, eb, ho⟩ hC2 hBx _
  rw [ea, eb] at hBx
  have h41 := h14.ext c41
  have hone : Own [] w41 (Sl.mk (some ⟨C2, 0, none⟩) 1 1) 4 49 [sdc ⟨id, nm, ats, false, r⟩] := Own.one (A := []) (cs := sdc ⟨id, nm, ats, false, r⟩) hBx (by simp)
  have hsz := h14.row.blk
  refine Ret.mono (slicesInsert_slot (A := B :: A) (i := k) (us := [sdc ⟨id, nm, ats, false, r⟩]) (h41.row.cons h41.apart) (fun b hb => ?_) hone (fun b hb hm => ?_) (by simpa using sdc_one ⟨id, nm, ats, false, r⟩) (sdcs_one X) (by simp) (by simpa using hk) (by simp; omega)) fun v w66 ⟨c66, s', hv, ho', hb'⟩ => ⟨c66.noTouch _ (fun b hb hm => ?_), c66.size, s', hv, fun w74 c74 w85 c85 => ⟨B, 0, 47, [s.v], Addr.add_zero' _, ((h41.box.keep c66 h41.apart).ext c74).ext c85, by simp, fun b hb => ?_, fun w94 c94 hB94 => ?_⟩⟩
  · rcases List.mem_cons.1 hb with e | e
    · rw [e]; exact h41.box.lt
    · exact h41.old b e
  · have := (hsz b hm).2
    simp [Sl.blk] at hb; omega
  · have := (h.row.blk b hm).2
    have := hN.ge
    simp at hb; omega
  · have := h.box.lt; have := hN.ge; simp at hb; omega
  have c : Chg (B :: s.blk) w w94 := (((((c54.trans c41).mono (by simp)).trans (c66.mono fun b hb => List.mem_cons_of_mem _ hb)).trans (c74.mono (by simp))).trans (c85.mono (by simp))).trans (c94.mono (by simp))
  refine ⟨h.mod c, rfl, s', r, h.next c hB94 ?_ (fun x hx => ?_) (by simp; omega)⟩
  · have := (((ho'.ext c74).ext c85).chg c94 (by simp)).less (A' := A) (fun b hb => by simp [hb])
    simpa [List.map_take, List.map_drop] using this
  · rcases List.mem_append.1 hx with hx | hx
    · rcases List.mem_append.1 hx with hx | hx
      · exact .inl (List.mem_of_mem_take hx)
      · right; simp at hx; subst hx
        refine ⟨?_, hb⟩
        have hd : ∀ b ∈ r.blk, b ∉ s.blk ∧ b ≠ B := fun b hb => by
          have h1 := (ho.blk b hb).1
          refine ⟨fun hm => h1 ?_, fun e => h1 ?_⟩
          · have := (hsz b hm).2; simpa using this
          · have := h14.box.lt; rw [e]; simpa using this
        refine ((((ho.keep c66 fun b hb => (hd b hb).1).ext c74).ext c85).keep c94 fun b hb => by simpa using (hd b hb).2).less fun b hb => ?_
        have := h14.old b hb; simpa using this
    · exact .inl (List.mem_of_mem_drop hx)
end

section
open Go.RowKit Go.MapKept

def kv (k : Str × Str) : Value := .agg #[.string (Bs k.1), .string (Bs k.2)]

def mkE (p : (Str × Str) × Int × Nat) : MapEntry := ⟨kv p.1, .int .i64 p.2.1, p.2.2⟩

/-- Block B is a map that counts: what stands for each pair, and when it came. -/
structure CntAt (w : World) (B : Nat) (L : List ((Str × Str) × Int × Nat)) : Prop where
  ex : ∃ clock, w.heap[B]? = some (.map (L.map mkE).toArray clock) ∧ ∀ p ∈ L, p.2.2 < clock
  nd : (L.map fun p => p.2.2).Nodup

def cntL (L : List ((Str × Str) × Int × Nat)) (k : Str × Str) : Int := match L with
  | [] => 0
  | p :: r => if p.1 = k then p.2.1 else cntL r k

def idxL (L : List ((Str × Str) × Int × Nat)) (k : Str × Str) : Option Nat := match L with
  | [] => none
  | p :: r => if p.1 = k then some 0 else (idxL r k).map (· + 1)

variable {w w' : World} {B : Nat} {L : List ((Str × Str) × Int × Nat)} {F : List Nat}

theorem CntAt.lt (h : CntAt w B L) : B < w.heap.size := by
  obtain ⟨c, h1, _⟩ := h.ex
  exact (Array.getElem?_eq_some_iff.1 h1).1

theorem CntAt.chg (h : CntAt w B L) (c : Chg F w w') (hB : B ∉ F) : CntAt w' B L := by
  have hl := h.lt
  obtain ⟨k, h1, h2⟩ := h.ex
  exact ⟨⟨k, by rw [c.block B hl hB]; exact h1, h2⟩, h.nd⟩

theorem CntAt.ext (h : CntAt w B L) (c : Ext w w') : CntAt w' B L := h.chg c (by simp)

theorem cntMake {bx : List Nat} {K : Value → World → Prop} (k : ∀ B w', Ext w w' → w.heap.size ≤ B → CntAt w' B [] → K (.map (some B)) w') : RunK Tryd.prog (Instr.makeMap 53 none) w bx K := by
  have hr : (Instr.makeMap 53 none).run Tryd.prog w = .ok (.map (some w.heap.size)) (w.alloc (.map #[] 0)) := by
    simp [Instr.makeMap, Result.andThen]
  exact ⟨_, _, hr, (Ext.alloc _ _).noTouch _, (Ext.alloc _ _).size, k _ _ (Ext.alloc _ _) (Nat.le_refl _) ⟨⟨0, heap_alloc_new w _, by simp⟩, by simp⟩⟩

theorem key_check (em : Bool) (k : Str × Str) : (Instr.checkKey em 10000 51 (kv k)).run Tryd.prog w = .ok () w := by
  have hs : ∀ s, (Instr.checkKey em (9998 + 1) 9 (.string s)).run Tryd.prog w = .ok () w := fun s => run_checkKey (d := .string) Tryd.underlying9 (show IsKey .string (.string s) from trivial) em 9998
  have hp1 : (part 9 #[.string (Bs k.1), .string (Bs k.2)] 0).run Tryd.prog w = .ok (.string (Bs k.1)) w := by kernel_rfl
  have hp2 : (part 9 #[.string (Bs k.1), .string (Bs k.2)] 1).run Tryd.prog w = .ok (.string (Bs k.2)) w := by kernel_rfl
  have e : (10000 : Nat) = (9998 + 1) + 1 := rfl
  rw [e, Instr.checkKey, Sem.run_bind, run_underlying Tryd.underlying51, Result.andThen_ok]
  simp only [kv]
  generalize (9998 + 1 : Nat) = n at hs ⊢
  simp [hs, hp1, hp2, Result.andThen]

theorem key_eq (a b : Str × Str) : (Op.equal 51 (kv a) (kv b)).run Tryd.prog w = .ok (decide (a = b)) w := by
  have h := (eq_51 a.1 a.2 b.1 b.2).2 w
  have e : decide (a = b) = decide (a.1 = b.1 ∧ a.2 = b.2) := by
    rcases a with ⟨a1, a2⟩; rcases b with ⟨b1, b2⟩; simp
  rw [e]; exact h

theorem key_ask (k : Str × Str) : ∀ (L : List ((Str × Str) × Int × Nat)) (i : Nat), (Instr.findAsking 51 (kv k) (L.map mkE) i).run Tryd.prog w = .ok ((idxL L k).map fun j => (i + j, .int .i64 (cntL L k))) w
  | [], i => by simp [Instr.findAsking, idxL]
  | p :: r, i => by
    rw [List.map_cons, Instr.findAsking, Sem.run_bind, show (mkE p).key = kv p.1 from rfl, key_eq, Result.andThen_ok, idxL, cntL]
    by_cases h : p.1 = k
    · subst h; simp [mkE]
    · have h' : ¬ k = p.1 := fun e => h e.symm
      simp only [h, h', decide_false, if_false, Bool.false_eq_true]
      rw [key_ask k r (i + 1)]
      cases idxL r k with
      | none => rfl
      | some j => simp [Nat.add_comm, Nat.add_left_comm]

theorem key_find (k : Str × Str) (L : List ((Str × Str) × Int × Nat)) : (Instr.findKey 51 (kv k) (L.map mkE)).run Tryd.prog w = .ok ((idxL L k).map fun j => (j, .int .i64 (cntL L k))) w := by
  rw [Instr.findKey, Sem.run_bind, run_underlying Tryd.underlying51, Result.andThen_ok]
  cases L with
  | nil => rfl
  | cons p r =>
    have : ∀ d es, Instr.findNow (.struct d) (kv k) ((p :: r).map mkE) es = none := fun d es => rfl
    rw [this]
    have h := key_ask (w := w) k (p :: r) 0
    simpa using h

theorem cntLook (h : CntAt w B L) (k : Str × Str) : (Instr.lookup 53 (.map (some B)) (kv k) false).run Tryd.prog w = .ok (.int .i64 (cntL L k)) w := by
  obtain ⟨c, hb, hc⟩ := h.ex
  have hn : idxL L k = none → cntL L k = 0 := by
    clear hc hb h
    induction L with
    | nil => intro _; rfl
    | cons p r ih =>
      rw [idxL, cntL]
      by_cases hp : p.1 = k
      · simp [hp]
      · simp only [hp, if_false, Option.map_eq_none_iff]; exact ih
  simp only [Instr.lookup, Sem.run_bind, run_underlying Tryd.underlying53, Go.MapKept.run_getObj_map hb, Result.andThen_ok, Sem.run_pure, key_check, key_find]
  cases hi : idxL L k with
  | none => rw [hn hi]; rfl
  | some j => rfl

/-- The entry of k is the one that came at b. -/
def Stamp (L : List ((Str × Str) × Int × Nat)) (k : Str × Str) (b : Nat) : Prop := ∃ i p, idxL L k = some i ∧ L[i]? = some p ∧ p.2.2 = b

theorem idx_none {k : Str × Str} : ∀ {L : List ((Str × Str) × Int × Nat)}, idxL L k = none → cntL L k = 0 ∧ ∀ j b, (∀ v, cntL (L ++ [(k, v, b)]) j = if j = k then v else cntL L j) ∧ idxL (L ++ [(k, 0, b)]) k = some L.length
  | [], _ => by
    refine ⟨rfl, fun j b => ⟨fun v => ?_, by simp [idxL]⟩⟩
    simp only [List.nil_append, cntL]
    by_cases h : j = k
    · simp [h]
    · have h' : ¬ k = j := fun e => h e.symm
      simp [h, h']
  | p :: r, h => by
    rw [idxL] at h
    by_cases hp : p.1 = k
    · simp [hp] at h
    · simp only [hp, if_false, Option.map_eq_none_iff] at h
      obtain ⟨h1, h2⟩ := idx_none h
      refine ⟨by rw [cntL, if_neg hp]; exact h1, fun j b => ⟨fun v => ?_, ?_⟩⟩
      · rw [List.cons_append, cntL, cntL, (h2 j b).1 v]
        by_cases hj : p.1 = j
        · have : ¬ j = k := fun e => hp (hj.trans e)
          simp [hj, this]
        · simp [hj]
      · rw [List.cons_append, idxL, if_neg hp, (h2 k b).2]; rfl

theorem idx_some {k : Str × Str} : ∀ {L : List ((Str × Str) × Int × Nat)} {i : Nat}, idxL L k = some i → ∃ p, L[i]? = some p ∧ p.1 = k ∧ p.2.1 = cntL L k ∧ ∀ j v, cntL (L.modify i fun p => (p.1, v, p.2.2)) j = if j = k then v else cntL L j
  | [], i, h => by simp [idxL] at h
  | p :: r, i, h => by
    rw [idxL] at h
    by_cases hp : p.1 = k
    · simp only [hp, if_true, Option.some.injEq] at h
      subst h
      refine ⟨p, rfl, hp, by rw [cntL, if_pos hp], fun j v => ?_⟩
      simp only [List.modify_zero_cons, cntL, hp]
      by_cases hj : j = k
      · simp [hj]
      · have : ¬ k = j := fun e => hj e.symm
        simp [hj, this]
    · simp only [hp, if_false, Option.map_eq_some_iff] at h
      obtain ⟨i', hi, rfl⟩ := h
      obtain ⟨q, h1, h2, h3, h4⟩ := idx_some hi
      refine ⟨q, by simpa using h1, h2, by rw [cntL, if_neg hp]; exact h3, fun j v => ?_⟩
      rw [List.modify_succ_cons, cntL, cntL, h4 j v]
      by_cases hj : p.1 = j
      · have : ¬ j = k := fun e => hp (hj.trans e)
        simp [hj, this]
      · simp [hj]

theorem find_born : ∀ {L : List ((Str × Str) × Int × Nat)} {i : Nat} {p : (Str × Str) × Int × Nat}, (L.map fun p => p.2.2).Nodup → L[i]? = some p → (L.map mkE).findIdx? (fun e => (e.born : Int) == ((p.2.2 : Nat) : Int)) = some i
  | [], i, p, _, h => by simp at h
  | q :: r, 0, p, _, h => by simp at h; subst h; simp [List.findIdx?_cons, mkE]
  | q :: r, i + 1, p, hn, h => by
    simp only [List.map_cons, List.nodup_cons] at hn
    simp only [List.getElem?_cons_succ] at h
    have hne : q.2.2 ≠ p.2.2 := fun e => hn.1 (List.mem_map.2 ⟨p, List.mem_of_getElem? h, e.symm⟩)
    have hb : (((mkE q).born : Int) == ((p.2.2 : Nat) : Int)) = false := by
      simp only [mkE, beq_eq_false_iff_ne, ne_eq, Int.natCast_inj]; exact hne
    rw [List.map_cons, List.findIdx?_cons, hb]
    simp [find_born hn.2 h]

theorem key_stays (k : Str × Str) : (Instr.keyThatStays (kv k) (kv k)).run Tryd.prog w = .ok (kv k) w := by
  have : Instr.sameBits 10000 (kv k) (kv k) = true := by
    have e : (10000 : Nat) = 9999 + 1 := rfl
    rw [e]; simp [kv, Instr.sameBits, bytes_beq]
  simp [Instr.keyThatStays, this]

theorem set_chg (w : World) (B : Nat) (o : Obj) : Chg [B] w { w with heap := w.heap.setIfInBounds B o } := ⟨rfl, rfl, rfl, by simp, fun i _ hi => by simp [Ne.symm (show i ≠ B by simpa using hi)]⟩

theorem cntEntry {bx : List Nat} {K : Value → World → Prop} (h : CntAt w B L) (k : Str × Str) (hbx : B ∉ bx) (kk : ∀ w' L' (b : Nat), Chg [B] w w' → CntAt w' B L' → (∀ j, cntL L' j = cntL L j) → Stamp L' k b → K (.tuple #[.int .i64 (cntL L k), .int .i64 (b : Int)]) w') :
    RunK Tryd.prog (Instr.mapEntry 53 (.map (some B)) (kv k)) w bx K := by
  obtain ⟨c, hb, hc⟩ := h.ex
  cases hi : idxL L k with
  | none =>
    obtain ⟨h0, h1⟩ := idx_none hi
    refine ⟨_, { w with heap := w.heap.setIfInBounds B (.map ((L ++ [(k, 0, c)]).map mkE).toArray (c + 1)) }, ?_, (set_chg _ _ _).noTouch _ (fun b hb hm => hbx (by simp at hm; rwa [← hm])), (set_chg _ _ _).size, kk _ (L ++ [(k, 0, c)]) c (set_chg _ _ _) ⟨⟨c + 1, (heap_set hb).1, fun p hp => ?_⟩, ?_⟩ (fun j => ?_) ⟨L.length, (k, 0, c), (h1 k c).2, by simp, rfl⟩⟩
    · simp [Instr.mapEntry, run_underlying Tryd.underlying53, Go.MapKept.run_getObj_map hb, key_check, key_find, hi, h0, Go.MapKept.run_setObj_map _ hb, Result.andThen, ti_3.zeroValue, goInt, mkE]
    · rcases List.mem_append.1 hp with hp | hp
      · exact Nat.lt_succ_of_lt (hc p hp)
      · simp at hp; subst hp; exact Nat.lt_succ_self _
    · rw [List.map_append]
      refine List.nodup_append.2 ⟨h.nd, by simp, fun a ha b hb e => ?_⟩
      obtain ⟨x, hx, rfl⟩ := List.mem_map.1 ha
      have := hc x hx
      simp at hb; omega
    · rw [(h1 j c).1 0]
      by_cases hj : j = k
      · simp [hj, h0]
      · simp [hj]
  | some i =>
    obtain ⟨p, h1, h2, h3, _⟩ := idx_some hi
    have hke : (L.map mkE)[i]? = some (mkE p) := by rw [List.getElem?_map, h1]; rfl
    have hsame : ((L.map mkE).toArray.modify i fun e => { e with key := kv k }) = (L.map mkE).toArray := by
      apply Array.ext'
      rw [Array.toList_modify]
      apply List.ext_getElem?
      intro j
      rw [List.getElem?_modify]
      by_cases hj : i = j
      · subst hj; simp [h1, mkE, h2]
      · simp [hj]
    refine ⟨_, { w with heap := w.heap.setIfInBounds B (.map (L.map mkE).toArray c) }, ?_, (set_chg _ _ _).noTouch _ (fun b hb hm => hbx (by simp at hm; rwa [← hm])), (set_chg _ _ _).size, kk _ L p.2.2 (set_chg _ _ _) ⟨⟨c, (heap_set hb).1, hc⟩, h.nd⟩ (fun _ => rfl) ⟨i, p, hi, h1, rfl⟩⟩
    have hke' : (L.map mkE).toArray[i]? = some (mkE p) := by simpa using hke
    simp only [Instr.mapEntry, Sem.run_bind, run_underlying Tryd.underlying53, Go.MapKept.run_getObj_map hb, key_check, key_find, hi, Result.andThen_ok, Option.map_some, hke', Option.getD_some, show (mkE p).key = kv k from congrArg kv h2, key_stays, hsame, Go.MapKept.run_setObj_map _ hb, Sem.run_pure]
    rfl

theorem cntStore {bx : List Nat} {K : World → Prop} (h : CntAt w B L) {k : Str × Str} {b : Nat} (hs : Stamp L k b) (v : Int) (hbx : B ∉ bx) (kk : ∀ w' L', Chg [B] w w' → CntAt w' B L' → (∀ j, cntL L' j = if j = k then v else cntL L j) → K w') :
    RunU Tryd.prog (Instr.entryStore 53 (.map (some B)) (.int .i64 (b : Int)) (.int .i64 v)) w bx K := by
  obtain ⟨c, hb, hc⟩ := h.ex
  obtain ⟨i, p, h1, h2, rfl⟩ := hs
  obtain ⟨_, _, _, _, h4⟩ := idx_some h1
  have hf := find_born h.nd h2
  have hmod : ((L.map mkE).toArray.modify i fun e => { e with val := .int .i64 v }) = ((L.modify i fun p => (p.1, v, p.2.2)).map mkE).toArray := by
    apply Array.ext'
    rw [Array.toList_modify]
    apply List.ext_getElem?
    intro j
    simp only [List.getElem?_modify, List.getElem?_map]
    cases L[j]? with
    | none => rfl
    | some q => by_cases hj : i = j <;> simp [hj, mkE]
  have hborn : ((L.modify i fun p => (p.1, v, p.2.2)).map fun p => p.2.2) = L.map fun p => p.2.2 := by
    apply List.ext_getElem?
    intro j
    simp only [List.getElem?_modify, List.getElem?_map]
    cases L[j]? with
    | none => rfl
    | some q => by_cases hj : i = j <;> simp [hj]
  refine ⟨{ w with heap := w.heap.setIfInBounds B (.map ((L.modify i fun p => (p.1, v, p.2.2)).map mkE).toArray c) }, ?_, (set_chg _ _ _).noTouch _ (fun b hb hm => hbx (by simp at hm; rwa [← hm])), (set_chg _ _ _).size, kk _ _ (set_chg _ _ _) ⟨⟨c, (heap_set hb).1, fun q hq => ?_⟩, by rw [hborn]; exact h.nd⟩ (fun j => h4 j v)⟩
  · have hf' : (L.map mkE).toArray.findIdx? (fun e => (e.born : Int) == ((p.2.2 : Nat) : Int)) = some i := by simpa using hf
    simp only [Instr.entryStore, Sem.run_bind, Go.MapKept.run_getObj_map hb, Result.andThen_ok, asInt, asIntOf, Sem.run_pure, hf', hmod, Go.MapKept.run_setObj_map _ hb]
  · have : q.2.2 ∈ (L.modify i fun p => (p.1, v, p.2.2)).map fun p => p.2.2 := List.mem_map.2 ⟨q, hq, rfl⟩
    rw [hborn] at this
    obtain ⟨x, hx, e⟩ := List.mem_map.1 this
    have := hc x hx; omega
end

section
open Go.RowKit

def keyOf (x : Sd) : Str × Str := (x.nm, keyA x.ats)

/-- The first of m behind f with that key; -1: none. -/
def firstIn (X : List Sd) (k : Str × Str) (f : Nat) : Nat → Int
  | 0 => -1
  | m + 1 => if firstIn X k f m < 0 ∧ keyOf (X.getD (f + m) default) = k then ((f + m : Nat) : Int) else firstIn X k f m

def countIn (X : List Sd) (k : Str × Str) (f : Nat) : Nat → Int
  | 0 => 0
  | m + 1 => countIn X k f m + if keyOf (X.getD (f + m) default) = k then 1 else 0

theorem countIn_le (X : List Sd) (k : Str × Str) (f : Nat) : ∀ m, 0 ≤ countIn X k f m ∧ countIn X k f m ≤ m
  | 0 => ⟨Int.le_refl _, Int.le_refl _⟩
  | m + 1 => by have := countIn_le X k f m; rw [countIn]; split <;> omega

theorem firstIn_le (X : List Sd) (k : Str × Str) (f : Nat) : ∀ m, -1 ≤ firstIn X k f m ∧ firstIn X k f m < f + m ∧ (0 < countIn X k f m → 0 ≤ firstIn X k f m)
  | 0 => ⟨Int.le_refl _, by rw [firstIn]; omega, by rw [countIn]; omega⟩
  | m + 1 => by
    have := firstIn_le X k f m
    rw [firstIn, countIn]
    by_cases h : keyOf (X.getD (f + m) default) = k
    · simp only [h, and_true, if_true]
      split <;> omega
    · simp only [h, and_false, if_false]; omega

def pushX (X : List Sd) (k : Str × Str) : List Sd :=
  if 3 ≤ countIn X k (fromAt X X.length) (X.length - fromAt X X.length) then X.take (firstIn X k (fromAt X X.length) (X.length - fromAt X X.length)).toNat ++ X.drop ((firstIn X k (fromAt X X.length) (X.length - fromAt X X.length)).toNat + 1) else X

variable {A F : List Nat} {w w' : World} {B : Nat} {s s' : Sl} {X X' : List Sd}

theorem FL.sa' (h : FL A w B s X) {sa : Sl} {us : List (List Value)} (ho : Own [] w sa 2 28 us) : ∀ b ∈ sa.blk, b ∉ B :: s.blk := by
  intro b hb hm
  rcases List.mem_cons.1 hm with e | e
  · subst e; exact ho.other h.box (by decide) hb
  · rcases h.row.at_ with e' | ⟨g, cur, hg, _, hB, _⟩
    · rw [e'] at e; simp [Sl.blk, Sl.nil] at e
    · simp [Sl.blk, hg] at e; subst e; exact ho.other hB (by decide) hb

theorem fmtPush (h : FL A w B s X) (hf : X.length < 1000000) (hX : ∀ x ∈ X, KeyOk x.ats) {id : Int} {nm : Str} {sa : Sl} {ats : List (Str × Str)} (ha : Own [] w sa 2 28 (ats.map ac)) (hb : ats.length ≤ 1000) (hk : KeyOk ats) :
    Calls Tryd.prog 9 #[.pointer (some ⟨B, 0, none⟩), .agg #[.int .i64 id, .string (Bs nm), sa.v]] w
      (Ret fun v w' => Mod A w w' ∧ v = .tuple #[] ∧ ∃ s' sa', FL A w' B s' (pushX X (nm, keyA ats) ++ [⟨id, nm, ats, false, sa'⟩])) := by
  refine format_List_Push.ok _ _ _ _ ?_
  unfold format_List_Push.vc
  have hl := h.len
  have hfr := fromAt_le X X.length
  intro w4 B3 n3 c4
  refine CallK.exact (fmtKey (ha.ext c4).row hk hb) fun w7 c7 => ⟨nm, keyA ats, rfl, fun w10 B8 n8 c10 => ?_⟩
  refine cntMake fun BM w12 c12 hBM hM => ⟨some BM, rfl, ?_⟩
  have e12 : Ext w w12 := ((c4.trans c7).trans c10).trans c12
  have hg3 := n3.ge
  have hl3 := n3.lt
  have hg8 := n8.ge
  have hl8 := n8.lt
  have hs7 := c7.size
  have hs10 := c10.size
  have hs12 := c12.size
  refine CallK.exact (fmtFrom (h.ext e12)) fun w17 c17 => ⟨_, rfl, ?_⟩
  generalize hfe : fromAt X X.length = f at *
  have e17 := e12.trans c17
  refine ⟨fun first i w' => ∃ m : Nat, i = ((f + m : Nat) : Int) ∧ f + m ≤ X.length ∧ first = firstIn X (nm, keyA ats) f m ∧ Ext w w' ∧ w17.heap.size ≤ w'.heap.size ∧ ∃ L, CntAt w' BM L ∧ ∀ j, cntL L j = countIn X j f m, fun _ i _ => X.length - i.toNat, ⟨0, rfl, hfr, rfl, e17, Nat.le_refl _, [], hM.ext c17, fun j => rfl⟩, ?_⟩
  rintro _ _ w21 ⟨m, rfl, hm, rfl, e21, hsz, L, hL, hc⟩
  have h21 := h.ext e21
  refine ⟨s, h21.cell, fun hlt => ?_, fun hge => ?_⟩
  · have hlt' : f + m < X.length := by omega
    obtain ⟨p, hp, hcell⟩ := h21.at_ hlt'
    have hmem := h21.mem hlt'
    have hat := h21.ats _ hmem
    have hkx := hX _ hmem
    rw [Int.toNat_natCast]
    generalize hx : X.getD (f + m) default = x at *
    refine ⟨s, h21.cell, ⟨by omega, by omega⟩, p, hp, x.id, x.nm, x.sa, cells3 hcell, ?_⟩
    refine CallK.exact (fmtKey (hat.1.row.less (by simp)) hkx hat.2) fun w137 c137 => ⟨x.nm, keyA x.ats, rfl, fun w156 B138 n138 c156 => ?_⟩
    have hL156 := (hL.ext c137).ext c156
    have hcl := countIn_le X (keyOf x) f m
    refine ⟨cntL L (keyOf x), fun w' hE => cntLook (hL156.ext hE) (keyOf x), ⟨by rw [hc]; omega, by rw [hc]; omega⟩, ?_⟩
    have hg138 := n138.ge
    have hs137 := c137.size
    have hMlt := hM.lt
    have hs17 := c17.size
    refine cntEntry hL156 (keyOf x) (by simp; omega) fun w178 L1 b c178 hL1 hc1 hst => ⟨_, _, rfl, fun w' hE => ?_, fun w214 c214 => ?_⟩
    · have := cntLook (hL1.ext hE) (keyOf x)
      rw [hc1] at this; exact this
    · refine cntStore (hL1.ext c214) hst _ (by simp; omega) fun w227 L2 c227 hL2 hc2 => ⟨⟨by omega, by omega⟩, ⟨m + 1, by omega, by omega, ?_, ?_, ?_, L2, hL2, fun j => ?_⟩, by dsimp only; omega⟩
      · rw [firstIn, hx]
        by_cases h1 : x.nm = nm ∧ keyA x.ats = keyA ats
        · have k1 : keyOf x = (nm, keyA ats) := by rw [keyOf, h1.1, h1.2]
          by_cases h2 : firstIn X (nm, keyA ats) f m < 0
          · rw [if_pos ⟨h2, k1⟩, decide_eq_true h1, decide_eq_true h2]; rfl
          · rw [if_neg (fun e => h2 e.1), decide_eq_true h1, decide_eq_false h2]; rfl
        · have k1 : ¬ keyOf x = (nm, keyA ats) := fun e => h1 ⟨congrArg Prod.fst e, congrArg Prod.snd e⟩
          rw [if_neg (fun e => k1 e.2), decide_eq_false h1]; rfl
      · have := (((((e21.trans c137).trans c156).mono (G := [BM]) (by simp)).trans c178).trans (c214.mono (by simp))).trans c227
        exact Chg.fresh (Chg.refl _ _) this (by have := c4.size; simp; omega)
      · have := c156.size; have := c178.size; have := c214.size; have := c227.size; omega
      · rw [hc2, countIn, hx]
        by_cases hj : j = keyOf x
        · subst hj; simp [hc]
        · have : ¬ keyOf x = j := fun e => hj e.symm
          rw [if_neg hj, if_neg this, hc1, hc]; omega
  · have hme : m = X.length - f := by omega
    have hcnt := hc (nm, keyA ats)
    have hfl := firstIn_le X (nm, keyA ats) f m
    have hcl := countIn_le X (nm, keyA ats) f m
    refine ⟨_, cntLook hL (nm, keyA ats), fun w' => Mod A w w' ∧ w17.heap.size ≤ w'.heap.size ∧ Own [] w' sa 2 28 (ats.map ac) ∧ ∃ s', FL A w' B s' (pushX X (nm, keyA ats)) ∧ (pushX X (nm, keyA ats)).length ≤ X.length ∧ (∀ b ∈ s'.blk, b ∈ s.blk), ⟨fun h3 => ?_, fun h3 => ?_⟩, ?_⟩
    · rw [hcnt] at h3
      obtain ⟨i0, hi0⟩ : ∃ i0 : Nat, firstIn X (nm, keyA ats) f m = (i0 : Int) := ⟨(firstIn X (nm, keyA ats) f m).toNat, by omega⟩
      have hpx : pushX X (nm, keyA ats) = X.take i0 ++ X.drop (i0 + 1) := by
        unfold pushX; rw [hfe, ← hme, if_pos h3, hi0, Int.toNat_natCast]
      rw [hi0] at hfl ⊢
      have hi : i0 < X.length := by omega
      refine ⟨s, h21.cell, ⟨by omega, by omega⟩, ?_⟩
      refine Ret.mono (slicesDelete_slot (A := B :: A) (h21.row.cons h21.apart) (sdcs_one X) (by simpa using hi) (by simp; omega)) fun v w254 ⟨c254, s', hv, ho, hbb⟩ => ⟨c254.noTouch _ (fun b hb hm' => ?_), c254.size, s', hv, B, 0, 47, [s.v], Addr.add_zero' _, h21.box.keep c254 h21.apart, by simp, fun b hb => ?_, fun w259 c259 hB259 => ?_⟩
      · have := (h.row.blk b hm').2; simp at hb; omega
      · have := h.box.lt; simp at hb; omega
      have c : Chg (B :: s.blk) w w259 := ((e21.mono (by simp)).trans (c254.mono fun b hb => List.mem_cons_of_mem _ hb)).trans (c259.mono (by simp))
      refine ⟨h.mod c, by have := c254.size; have := c259.size; omega, ha.keep c (h.sa' ha), s', h.next c hB259 ?_ (fun x hx => .inl ?_) ?_, ?_⟩
      · have := (ho.chg c259 (by simp)).less (A' := A) (fun b hb => by simp [hb])
        rw [hpx, List.map_append, List.map_take, List.map_drop]; exact this
      · rw [hpx] at hx
        rcases List.mem_append.1 hx with hx | hx
        · exact List.mem_of_mem_take hx
        · exact List.mem_of_mem_drop hx
      · rw [hpx, List.length_append, List.length_take, List.length_drop]; omega
      · exact ⟨by rw [hpx, List.length_append, List.length_take, List.length_drop]; omega, hbb⟩
    · rw [hcnt] at h3
      have hpx : pushX X (nm, keyA ats) = X := by unfold pushX; rw [hfe, ← hme, if_neg h3]
      rw [hpx]; exact ⟨Mod.ext e21, hsz, ha.ext e21, s, h21, Nat.le_refl _, fun _ hb => hb⟩
    · rintro w250 ⟨m250, hs250, ha250, s1, hF, hlen, hsub⟩ w265 c265
      have hmo : maxLen = 9223372036854775807 := rfl
      have hF' := hF.ext c265
      have hl1 := hF'.len
      have ha265 := ha250.ext c265
      have hsz1 := hF'.row.blk
      refine ⟨s1, hF'.cell, fun a b r W => a = id ∧ b = nm ∧ Own (List.range w265.heap.size) W r 2 28 (ats.map ac), fun a b r W W' hE ⟨h1, h2, h3⟩ => ⟨h1, h2, h3.ext hE⟩, fun W hE => Ret.mono (fmtClone (ha265.ext hE).row hb) fun v W' ⟨c1, r, hv, ho⟩ => ⟨c1, id, nm, r, hv, rfl, rfl, ho.less fun b hb => by have := hE.size; simp at hb ⊢; omega⟩, ?_⟩
      intro w292 a b r C2 c292 ⟨ea, eb, ho⟩ hC2 hBx _
      rw [ea, eb] at hBx
      have h292 := hF'.ext c292
      have hs265 := c265.size
      refine App.runK (A := B3 :: B :: A) (us := [sdc ⟨id, nm, ats, false, r⟩]) Tryd.underlying45 ti_49 rfl (by decide) (.inl ((h292.row.cons h292.apart).cons fun hm => ?_)) (fun b hb => ?_) (Row.one (cs := sdc ⟨id, nm, ats, false, r⟩) hBx (by simp)) (by simpa using sdc_one ⟨id, nm, ats, false, r⟩) (by simp) (by simp; omega) (by simp; omega) (by simp) fun s' w314 ho' hc' hb' => ⟨s', rfl, fun w323 c323 w334 c334 => ⟨B, 0, 47, [s1.v], Addr.add_zero' _, ((h292.box.keep hc' (fun hm => h292.apart (Sl.own_blk hm))).ext c323).ext c334, by simp, fun b hb => ?_, fun w343 c343 hB343 => ?_⟩⟩
      · have := (h.row.blk _ (hsub _ hm)).2; omega
      · rcases List.mem_cons.1 hb with e | e
        · rw [e]; have := h292.box.lt; have := c292.size; have := c17.size; omega
        · rcases List.mem_cons.1 e with e | e
          · rw [e]; exact h292.box.lt
          · exact h292.old b e
      · have := h.box.lt; simp at hb; omega
      have c : Chg (B :: s1.blk) w250 w343 := (((((c265.trans c292).mono (by simp)).trans (hc'.mono fun b hb => List.mem_cons_of_mem _ (Sl.own_blk hb))).trans (c323.mono (by simp))).trans (c334.mono (by simp))).trans (c343.mono (by simp))
      refine ⟨m250.trans (hF.mod c), rfl, s', r, hF.next c hB343 ?_ (fun x hx => ?_) (by simp; omega)⟩
      · have := (((ho'.ext c323).ext c334).less (A' := B :: A) fun b hb => List.mem_cons_of_mem _ hb).chg c343 (by simp)
        simpa using this.less (A' := A) (fun b hb => by simp [hb])
      · rcases List.mem_append.1 hx with hx | hx
        · exact .inl hx
        · right; simp at hx; subst hx
          refine ⟨?_, hb⟩
          have hd : ∀ b ∈ r.blk, b ∉ s1.own ∧ b ≠ B := fun b hb => by
            have h1 := (ho.blk b hb).1
            refine ⟨fun hm => h1 ?_, fun e => h1 ?_⟩
            · have := (hsz1 b (Sl.own_blk hm)).2; simpa using this
            · have := hF'.box.lt; rw [e]; simpa using this
          refine ((((ho.keep hc' fun b hb => (hd b hb).1).ext c323).ext c334).keep c343 fun b hb => by simpa using (hd b hb).2).less fun b hb => ?_
          have := hF'.old b hb; simpa using this
end

section
open Go.RowKit

variable {A F : List Nat} {w w' : World} {B : Nat} {s s' : Sl} {X X' : List Sd}

theorem fmtSwap (h : FL A w B s X) (id : Int) {n : Int} {nm : Str} {sa : Sl} {ats : List (Str × Str)} (ha : Own [] w sa 2 28 (ats.map ac)) (hb : ats.length ≤ 1000) :
    Calls Tryd.prog 19 #[.pointer (some ⟨B, 0, none⟩), .int .i64 id, .agg #[.int .i64 n, .string (Bs nm), sa.v]] w
      (Ret fun v w' => Mod A w w' ∧ v = .bool (decide (0 ≤ placeAt X id 0)) ∧ ∃ s' sa', FL A w' B s' (if 0 ≤ placeAt X id 0 then X.set (placeAt X id 0).toNat ⟨n, nm, ats, false, sa'⟩ else X)) := by
  refine format_List_Swap.ok _ _ _ _ _ ?_
  unfold format_List_Swap.vc
  have hl := h.len
  intro w5 C hN c5
  have hCge := hN.ge
  refine CallK.exact (fmtPlace (h.ext c5) id) fun w8 c8 => ⟨_, rfl, fun h0 w11 c11 => ?_, fun h0 => ⟨Mod.ext (c5.trans c8), rfl, s, Sl.nil, by rw [if_neg h0]; exact h.ext (c5.trans c8)⟩⟩
  have e11 := (c5.trans c8).trans c11
  have h11 := h.ext e11
  rcases placeAt_spec X id 0 with ⟨e, _⟩ | ⟨j, e, hj, hmar, _⟩
  · rw [show ((0 : Nat) : Int) = 0 from rfl] at e; omega
  rw [show ((0 : Nat) : Int) = 0 from rfl, Nat.zero_add] at e
  rw [e] at h0 ⊢
  obtain ⟨g, cur, hg, hgA, hgB, hgl, hgt⟩ : ∃ g cur, s.a = some ⟨g, 0, none⟩ ∧ g ∉ B :: A ∧ Box w11 g 49 cur ∧ cur.length = s.c * 4 ∧ cur.take (s.n * 4) = (X.map sdc).flatten := by
    rcases (h11.row.cons h11.apart).at_ with e' | e'
    · rw [e'] at hl; simp [Sl.nil] at hl; omega
    · exact e'
  have hcap := h.row.cap
  have hgs : s.blk = [g] := by simp [Sl.blk, hg]
  have hgw : g < w.heap.size := (h.row.blk g (by rw [hgs]; simp)).2
  refine ⟨s, h11.cell, fun a b r W => a = n ∧ b = nm ∧ Own (List.range w11.heap.size) W r 2 28 (ats.map ac), fun a b r W W' hE ⟨h1, h2, h3⟩ => ⟨h1, h2, h3.ext hE⟩, fun W hE => Ret.mono (fmtClone ((ha.ext e11).ext hE).row hb) fun v W' ⟨c1, r, hv, ho⟩ => ⟨c1, n, nm, r, hv, rfl, rfl, ho.less fun b hb => by have := hE.size; simp at hb ⊢; omega⟩, ?_⟩
  refine ⟨⟨g, 0, none⟩, ⟨⟨by omega, by omega⟩, hg⟩, fun w20 a b r c20 ⟨ea, eb, ho⟩ => ?_⟩
  rw [ea, eb, Int.toNat_natCast]
  refine ⟨g, j * 4, _, cur, by rw [Addr.add_zero', Addr.add_lit, Nat.zero_add], hgB.ext c20, (by show j * 4 + 3 ≤ _; omega), fun b hb => by simp at hb; omega, fun w25 c25 hB25 => ?_⟩
  have c : Chg (B :: s.blk) w w25 := ((e11.trans c20).mono (by simp)).trans (c25.mono (by rw [hgs]; simp))
  refine ⟨h.mod c, by rw [show decide ((0 : Int) ≤ (j : Int)) = true from decide_eq_true (by omega)], s, r, ?_⟩
  rw [if_pos h0]
  have h20 := h11.ext c20
  have hgB1 : g ≠ B := fun e' => hgA (by simp [e'])
  refine h.next c (h20.box.keep c25 (by simpa using Ne.symm hgB1)) ?_ (fun x hx => ?_) (by simpa using h.few)
  · have := h20.row.put (o := 0) (j := j) (us := [.int .i64 n, .string (Bs nm), r.v]) hg (hgB.ext c20) (by simpa using hj) (by simp) (by simpa using hB25)
    have e1 : (X.map sdc).getD j [] = sdc (X.getD j default) := by simp [List.getD_eq_getElem?_getD, hj]
    have e2 : putAt (sdc (X.getD j default)) 0 [.int .i64 n, .string (Bs nm), r.v] = sdc ⟨n, nm, ats, false, r⟩ := by
      unfold sdc; rw [hmar]; rfl
    rw [e1, e2] at this
    rw [List.map_set]; exact this
  · rcases List.mem_or_eq_of_mem_set hx with hx | hx
    · exact .inl hx
    · right; subst hx
      refine ⟨?_, hb⟩
      have hd : ∀ b ∈ r.blk, b ≠ g := fun b hb e' => (ho.blk b hb).1 (by rw [e']; have := hgB.lt; simpa using this)
      exact (ho.keep c25 fun b hb => by simpa using hd b hb).less fun b hb => by have := h11.old b hb; simpa using this

theorem fmtNew : Calls Tryd.prog 6 #[] w (Ret fun v w' => Ext w w' ∧ ∃ B, v = .pointer (some ⟨B, 0, none⟩) ∧ FL (List.range w.heap.size) w' B Sl.nil []) := by
  refine format_New.ok ?_
  unfold format_New.vc
  intro w3 B hN c3 hB
  have := hN.ge
  exact ⟨c3, B, rfl, hB, by simp; omega, Own.nil _ _ _ _, by simp, by simp, fun b hb => by have := c3.size; simp at hb; omega⟩
end

section
/-- P is empty, or ends with a marker. -/
def Ends (P : List Sd) : Prop := P = [] ∨ ∃ Q x, P = Q ++ [x] ∧ x.mar = true

theorem fromAt_run {P R : List Sd} (hP : Ends P) : ∀ n, n ≤ R.length → (∀ x ∈ R, x.mar = false) → fromAt (P ++ R) (P.length + n) = P.length
  | 0, _, _ => by
    rcases hP with e | ⟨Q, x, e, hx⟩
    · subst e; rfl
    · subst e
      have : (Q ++ [x]).length + 0 = Q.length + 1 := by simp
      rw [this, fromAt]
      have hg : ((Q ++ [x]) ++ R).getD Q.length default = x := by simp [List.getD_eq_getElem?_getD]
      rw [hg, hx]; simp
  | n + 1, hn, hR => by
    have hlt : n < R.length := by omega
    have hg : (P ++ R).getD (P.length + n) default = R[n] := by
      rw [List.getD_eq_getElem?_getD, List.getElem?_append_right (by omega)]
      simp [hlt]
    rw [show P.length + (n + 1) = (P.length + n) + 1 from rfl, fromAt, hg, hR _ (List.getElem_mem hlt)]
    exact fromAt_run hP n (by omega) hR

theorem run_get (P R : List Sd) {n : Nat} (hn : n < R.length) : (P ++ R).getD (P.length + n) default = R[n] := by
  rw [List.getD_eq_getElem?_getD, List.getElem?_append_right (by omega)]
  simp [hn]

/-- How many have that key. -/
def cntK (R : List Sd) (k : Str × Str) : Nat := (R.filter fun x => decide (keyOf x = k)).length

theorem countIn_run (P R : List Sd) (k : Str × Str) : ∀ n, n ≤ R.length → countIn (P ++ R) k P.length n = (cntK (R.take n) k : Nat)
  | 0, _ => rfl
  | n + 1, hn => by
    rw [countIn, countIn_run P R k n (by omega), run_get P R (by omega), List.take_succ_eq_append_getElem (by omega)]
    unfold cntK
    rw [List.filter_append, List.length_append]
    by_cases h : keyOf R[n] = k <;> simp [h]

theorem firstIn_none (P R : List Sd) (k : Str × Str) : ∀ n, n ≤ R.length → (∀ x ∈ R.take n, keyOf x ≠ k) → firstIn (P ++ R) k P.length n = -1
  | 0, _, _ => rfl
  | n + 1, hn, h => by
    rw [List.take_succ_eq_append_getElem (by omega)] at h
    rw [firstIn, run_get P R (by omega), firstIn_none P R k n (by omega) fun x hx => h x (List.mem_append_left _ hx)]
    rw [if_neg fun e => h _ (List.mem_append_right _ (List.mem_singleton.2 rfl)) e.2]

theorem firstIn_run (P : List Sd) (R1 R2 : List Sd) (x : Sd) (k : Str × Str) (hx : keyOf x = k) (h1 : ∀ y ∈ R1, keyOf y ≠ k) : ∀ n, n ≤ R2.length → firstIn (P ++ (R1 ++ x :: R2)) k P.length (R1.length + 1 + n) = ((P.length + R1.length : Nat) : Int)
  | 0, _ => by
    have hn := firstIn_none P (R1 ++ x :: R2) k R1.length (by simp) (by rw [List.take_left]; exact h1)
    rw [Nat.add_zero, firstIn, hn, run_get P _ (by simp)]
    rw [if_pos ⟨by omega, by simp [hx]⟩]
  | n + 1, hn => by
    rw [show R1.length + 1 + (n + 1) = (R1.length + 1 + n) + 1 from rfl, firstIn, firstIn_run P R1 R2 x k hx h1 n (by omega), if_neg (by omega)]

theorem pushX_few {P R : List Sd} {k : Str × Str} (hP : Ends P) (hR : ∀ x ∈ R, x.mar = false) (hc : cntK R k < 3) : pushX (P ++ R) k = P ++ R := by
  have hf := fromAt_run hP R.length (Nat.le_refl _) hR
  unfold pushX
  rw [List.length_append, hf, Nat.add_sub_cancel_left, countIn_run P R k _ (Nat.le_refl _), List.take_length, if_neg (by omega)]

theorem pushX_many {P R1 R2 : List Sd} {x : Sd} {k : Str × Str} (hP : Ends P) (hR : ∀ y ∈ R1 ++ x :: R2, y.mar = false) (hx : keyOf x = k) (h1 : ∀ y ∈ R1, keyOf y ≠ k) (hc : 3 ≤ cntK (R1 ++ x :: R2) k) : pushX (P ++ (R1 ++ x :: R2)) k = P ++ (R1 ++ R2) := by
  have hf := fromAt_run hP _ (Nat.le_refl _) hR
  have hfi := firstIn_run P R1 R2 x k hx h1 R2.length (Nat.le_refl _)
  have e : R1.length + 1 + R2.length = (R1 ++ x :: R2).length := by simp; omega
  rw [e] at hfi
  unfold pushX
  rw [List.length_append, hf, Nat.add_sub_cancel_left, countIn_run P _ k _ (Nat.le_refl _), List.take_length, if_pos (by omega), hfi, Int.toNat_natCast]
  have e1 : (P ++ (R1 ++ x :: R2)).take (P.length + R1.length) = P ++ R1 := by
    rw [← List.append_assoc, ← List.length_append, List.take_left]
  have e2 : (P ++ (R1 ++ x :: R2)).drop (P.length + R1.length + 1) = R2 := by
    rw [← List.append_assoc, ← List.length_append, ← List.drop_drop, List.drop_left]; rfl
  rw [e1, e2, List.append_assoc]
end

section
open Go.RowKit

theorem placeAt_pos {X : List Sd} {id : Int} : 0 ≤ placeAt X id 0 ↔ ∃ x ∈ X, x.mar = false ∧ x.id = id := by
  have h := placeAt_spec X id 0
  rw [show ((0 : Nat) : Int) = 0 from rfl] at h
  rcases h with ⟨h1, h2⟩ | ⟨j, h1, h2, h3, h4, _⟩
  · rw [h1]; exact ⟨fun h => by omega, fun ⟨x, hx, he⟩ => absurd he (h2 x hx)⟩
  · rw [h1]
    refine ⟨fun _ => ⟨X.getD j default, ?_, h3, h4⟩, fun _ => by omega⟩
    rw [List.getD_eq_getElem?_getD, List.getElem?_eq_getElem h2]; exact List.getElem_mem h2

theorem placeAt_eq {X : List Sd} {id : Int} {j : Nat} {x : Sd} (hx : X[j]? = some x) (hm : x.mar = false) (hi : x.id = id) (h : ∀ i y, i < j → X[i]? = some y → ¬ (y.mar = false ∧ y.id = id)) : placeAt X id 0 = (j : Int) := by
  have hs := placeAt_spec X id 0
  rw [show ((0 : Nat) : Int) = 0 from rfl] at hs
  obtain ⟨hj, e⟩ := List.getElem?_eq_some_iff.1 hx
  rcases hs with ⟨_, h2⟩ | ⟨k, h1, h2, h3, h4, h5⟩
  · exact absurd ⟨hm, hi⟩ (h2 x (List.mem_of_getElem? hx))
  · rw [h1, Nat.zero_add]
    rcases Nat.lt_trichotomy j k with hlt | he | hlt
    · exact absurd ⟨hm, hi⟩ (h5 x (List.mem_take_iff_getElem.2 ⟨j, by omega, e⟩))
    · rw [he]
    · refine absurd ⟨h3, h4⟩ (h k _ hlt ?_)
      rw [List.getD_eq_getElem?_getD, List.getElem?_eq_getElem h2]; rfl

theorem placeAt_none {X : List Sd} {id : Int} (h : ∀ x ∈ X, ¬ (x.mar = false ∧ x.id = id)) : placeAt X id 0 = -1 := by
  have hs := placeAt_spec X id 0
  rw [show ((0 : Nat) : Int) = 0 from rfl] at hs
  rcases hs with ⟨h1, _⟩ | ⟨k, _, h2, h3, h4, _⟩
  · exact h1
  · refine absurd ⟨h3, h4⟩ (h _ ?_)
    rw [List.getD_eq_getElem?_getD, List.getElem?_eq_getElem h2]; exact List.getElem_mem h2

theorem pushX_sub {X : List Sd} {k : Str × Str} : (∀ x ∈ pushX X k, x ∈ X) ∧ (pushX X k).length ≤ X.length := by
  unfold pushX
  split
  · refine ⟨fun x hx => ?_, by rw [List.length_append, List.length_take, List.length_drop]; omega⟩
    rcases List.mem_append.1 hx with hx | hx
    · exact List.mem_of_mem_take hx
    · exact List.mem_of_mem_drop hx
  · exact ⟨fun x hx => hx, Nat.le_refl _⟩

theorem keyOk_nil : KeyOk [] := ⟨by simp, by simp [keyA]⟩

/-- X ends with a run of entries of one name and attributes, numbered one behind the other up to i: run of them were put, three at most are there. -/
def Run (nm : Str) (ats : List (Str × Str)) (X : List Sd) (i run : Nat) : Prop :=
  ∃ P R, X = P ++ R ∧ Ends P ∧ run ≤ i ∧ (∀ x ∈ P, x.mar = false → x.id ≤ ((i - run : Nat) : Int)) ∧ R.length = min run 3 ∧
    ∀ j x, R[j]? = some x → x.id = ((i - R.length + 1 + j : Nat) : Int) ∧ x.nm = nm ∧ x.ats = ats ∧ x.mar = false

variable {nm : Str} {ats : List (Str × Str)} {X : List Sd} {i run : Nat}

theorem Run.none : Run nm ats [] 0 0 := ⟨[], [], rfl, .inl rfl, Nat.le_refl _, by simp, rfl, by simp⟩

theorem Run.mark (h : Run nm ats X i run) : Run nm ats (X ++ [mark]) i 0 := by
  obtain ⟨P, R, rfl, _, hr, hP, hl, hR⟩ := h
  refine ⟨(P ++ R) ++ [Proofs.YtcploacnonngaaaDoor.mark], [], by simp, .inr ⟨P ++ R, Proofs.YtcploacnonngaaaDoor.mark, rfl, rfl⟩, Nat.zero_le _, fun x hx hm => ?_, rfl, by simp⟩
  rcases List.mem_append.1 hx with hx | hx
  · rcases List.mem_append.1 hx with hx | hx
    · have := hP x hx hm; omega
    · obtain ⟨j, hj, e⟩ := List.getElem_of_mem hx
      have := (hR j x (by rw [← e, List.getElem?_eq_getElem hj])).1
      omega
  · simp at hx; rw [hx] at hm; cases hm

theorem Run.push (h : Run nm ats X i run) (sa : Sl) : Run nm ats (pushX X (nm, keyA ats) ++ [⟨((i + 1 : Nat) : Int), nm, ats, false, sa⟩]) (i + 1) (run + 1) := by
  obtain ⟨P, R, rfl, hE, hr, hP, hl, hR⟩ := h
  have hmem : ∀ x ∈ R, x.nm = nm ∧ x.ats = ats ∧ x.mar = false := fun x hx => by
    obtain ⟨j, hj, e⟩ := List.getElem_of_mem hx
    exact (hR j x (by rw [← e, List.getElem?_eq_getElem hj])).2
  have hkey : ∀ x ∈ R, keyOf x = (nm, keyA ats) := fun x hx => by rw [keyOf, (hmem x hx).1, (hmem x hx).2.1]
  have hc : cntK R (nm, keyA ats) = R.length := by
    unfold cntK
    rw [List.filter_eq_self.2 fun x hx => decide_eq_true (hkey x hx)]
  have hP' : ∀ x ∈ P, x.mar = false → x.id ≤ (((i + 1) - (run + 1) : Nat) : Int) := fun x hx hm => by have := hP x hx hm; omega
  by_cases h3 : run < 3
  · rw [pushX_few hE (fun x hx => (hmem x hx).2.2) (by rw [hc]; omega)]
    refine ⟨P, R ++ [⟨((i + 1 : Nat) : Int), nm, ats, false, sa⟩], by simp, hE, by omega, hP', by simp; omega, fun j x hx => ?_⟩
    by_cases hj : j < R.length
    · rw [List.getElem?_append_left hj] at hx
      obtain ⟨h1, h2⟩ := hR j x hx
      refine ⟨?_, h2⟩
      rw [h1]; simp only [List.length_append, List.length_singleton]; omega
    · rw [List.getElem?_append_right (by omega)] at hx
      have hj' : j - R.length = 0 := by
        have := (List.getElem?_eq_some_iff.1 hx).1
        simp at this; omega
      rw [hj'] at hx
      simp at hx
      subst hx
      refine ⟨?_, rfl, rfl, rfl⟩
      simp only [List.length_append, List.length_singleton]; omega
  · have hl3 : R.length = 3 := by omega
    match R, hl3 with
    | x :: R2, hl3 =>
      have := pushX_many (P := P) (R1 := []) (R2 := R2) (x := x) (k := (nm, keyA ats)) hE (fun y hy => (hmem y hy).2.2) (hkey x (by simp)) (by simp) (by show 3 ≤ cntK (x :: R2) _; rw [hc]; omega)
      simp only [List.nil_append] at this
      rw [this]
      simp at hl3
      refine ⟨P, R2 ++ [⟨((i + 1 : Nat) : Int), nm, ats, false, sa⟩], by simp, hE, by omega, hP', by simp; omega, fun j y hy => ?_⟩
      by_cases hj : j < R2.length
      · rw [List.getElem?_append_left hj] at hy
        obtain ⟨h1, h2⟩ := hR (j + 1) y (by simpa using hy)
        refine ⟨?_, h2⟩
        rw [h1]; simp only [List.length_append, List.length_cons, List.length_nil]; omega
      · rw [List.getElem?_append_right (by omega)] at hy
        have hj' : j - R2.length = 0 := by
          have := (List.getElem?_eq_some_iff.1 hy).1
          simp at this; omega
        rw [hj'] at hy
        simp at hy
        subst hy
        refine ⟨?_, rfl, rfl, rfl⟩
        simp only [List.length_append, List.length_singleton]; omega

theorem Run.place (h : Run nm ats X i run) {j : Nat} (hj : j < run) : (0 ≤ placeAt X ((i : Int) - (j : Int)) 0) ↔ j < 3 := by
  obtain ⟨P, R, rfl, _, hr, hP, hl, hR⟩ := h
  rw [placeAt_pos]
  constructor
  · rintro ⟨x, hx, hm, hi⟩
    rcases List.mem_append.1 hx with hx | hx
    · have := hP x hx hm; omega
    · obtain ⟨k, hk, e⟩ := List.getElem_of_mem hx
      have := (hR k x (by rw [← e, List.getElem?_eq_getElem hk])).1
      omega
  · intro h3
    have hk : R.length - 1 - j < R.length := by omega
    obtain ⟨h1, _, _, h4⟩ := hR (R.length - 1 - j) _ (List.getElem?_eq_getElem hk)
    refine ⟨R[R.length - 1 - j], List.mem_append_right _ (List.getElem_mem hk), h4, ?_⟩
    rw [h1]; omega

/-- Since w0 nothing that was there has changed; at B is a List of X; of the blocks A it uses none. -/
def FS (w0 : World) (A : List Nat) (w : World) (B : Nat) (X : List Sd) : Prop := (∀ x, x < w0.heap.size → x ∈ A) ∧ Ext w0 w ∧ ∃ s, FL A w B s X

variable {w0 w w' : World} {A bx : List Nat} {B : Nat} {K : Value → World → Prop}

theorem FS.ext (h : FS w0 A w B X) (c : Ext w w') : FS w0 A w' B X := let ⟨h1, h2, s, h3⟩ := h; ⟨h1, h2.trans c, s, h3.ext c⟩

theorem FS.new (h : FS w0 A w B X) {C : Nat} (hN : New w C w') (c : Ext w w') : FS w0 (C :: A) w' B X :=
  let ⟨h1, h2, s, h3⟩ := h; ⟨fun x hx => List.mem_cons_of_mem _ (h1 x hx), h2.trans c, s, h3.new hN c⟩

theorem FS.mod (h : FS w0 A w B X) (c : Mod A w w') {s' : Sl} {X' : List Sd} (hF : FL A w' B s' X') : FS w0 A w' B X' :=
  let ⟨h1, h2, _⟩ := h; ⟨h1, Mod.fresh h2 c h1, s', hF⟩

theorem FS.newK {bx : List Nat} {K : Value → World → Prop} (k : ∀ B w', Ext w w' → FS w (List.range w.heap.size) w' B [] → K (.pointer (some ⟨B, 0, none⟩)) w') : CallK Tryd.prog 6 #[] w bx K :=
  CallK.ext fmtNew fun v w' hE ⟨B, hv, hF⟩ => by subst hv; exact k B w' hE ⟨fun x hx => List.mem_range.2 hx, hE, _, hF⟩

theorem FS.pushK (h : FS w0 A w B X) (hf : X.length < 1000000) (hX : ∀ x ∈ X, KeyOk x.ats) {id : Int} {nm : Str} {sa : Sl} {ats : List (Str × Str)} (ha : Own [] w sa 2 28 (ats.map ac)) (hl : ats.length ≤ 1000) (hk : KeyOk ats) (hb : ∀ b ∈ bx, b ∈ A)
    (k : ∀ w' sa', FS w0 A w' B (pushX X (nm, keyA ats) ++ [⟨id, nm, ats, false, sa'⟩]) → K (.tuple #[]) w') : CallK Tryd.prog 9 #[.pointer (some ⟨B, 0, none⟩), .agg #[.int .i64 id, .string (Bs nm), sa.v]] w bx K := by
  obtain ⟨s, hF⟩ := h.2.2
  exact CallK.mod (fmtPush hF hf hX ha hl hk) hb fun v w' hM ⟨hv, s', sa', hF'⟩ => by subst hv; exact k w' sa' (h.mod hM hF')

theorem FS.place (h : FS w0 A w B X) (id : Int) : Calls Tryd.prog 10 #[.pointer (some ⟨B, 0, none⟩), .int .i64 id] w (Ret fun v w' => Ext w w' ∧ v = .int .i64 (placeAt X id 0)) := by
  obtain ⟨s, hF⟩ := h.2.2
  exact fmtPlace hF id

theorem FS.len (h : FS w0 A w B X) : Calls Tryd.prog 13 #[.pointer (some ⟨B, 0, none⟩)] w (Ret fun v w' => Ext w w' ∧ v = .int .i64 (X.length : Nat)) := by
  obtain ⟨s, hF⟩ := h.2.2
  exact fmtLen hF

theorem FS.last (h : FS w0 A w B X) (nm : Str) : Calls Tryd.prog 14 #[.pointer (some ⟨B, 0, none⟩), .string (Bs nm)] w
    (Ret fun v w' => Ext w w' ∧ match lastIn X nm (fromAt X X.length) X.length with
      | some k => ∃ sa' : Sl, v = .tuple #[.agg #[.int .i64 (X.getD k default).id, .string (Bs (X.getD k default).nm), Sl.v sa'], .bool true]
      | none => v = .tuple #[.agg #[.int .i64 0, .string (Bs ([] : Str)), Sl.v Sl.nil], .bool false]) := by
  obtain ⟨s, hF⟩ := h.2.2
  exact fmtLast hF nm

theorem Run.last (h : Run nm ats X i run) (h0 : 0 < run) : ∃ k, lastIn X nm (fromAt X X.length) X.length = some k ∧ (X.getD k default).id = (i : Int) := by
  obtain ⟨P, R, rfl, hE, hr, hP, hl, hR⟩ := h
  have hm : ∀ x ∈ R, x.mar = false := fun x hx => by
    obtain ⟨j, hj, e⟩ := List.getElem_of_mem hx
    exact (hR j x (by rw [← e, List.getElem?_eq_getElem hj])).2.2.2
  have hf := fromAt_run hE R.length (Nat.le_refl _) hm
  rw [List.length_append, hf]
  have hg := run_get P R (n := R.length - 1) (by omega)
  obtain ⟨h1, h2, _⟩ := hR (R.length - 1) _ (List.getElem?_eq_getElem (by omega))
  refine ⟨P.length + (R.length - 1), ?_, ?_⟩
  · rw [show P.length + R.length = (P.length + (R.length - 1)) + 1 by omega, lastIn, if_pos (by omega), hg, if_pos h2]
  · rw [hg, h1]; omega

theorem fmtAwake (w : World) : Calls Tryd.prog 11 #[] w (Ret fun v w' => Ext w w' ∧ v = .bool true) := by
  refine law13_awake.ok ?_
  unfold law13_awake.vc
  refine FS.newK fun B w3 _ h3 => ⟨some ⟨B, 0, none⟩, rfl, fun h => (by cases h), fun _ => ?_⟩
  refine ⟨fun i w' => ∃ k : Nat, i = (k : Int) + 1 ∧ k ≤ 4 ∧ ∃ X, FS w (List.range w.heap.size) w' B X ∧ Run [98] [] X k k ∧ X.length ≤ k ∧ ∀ x ∈ X, x.ats = [] ∧ x.mar = false, fun i _ => 5 - i.toNat, ⟨0, rfl, by omega, [], h3, Run.none, by simp, by simp⟩, ?_⟩
  rintro _ w9 ⟨k, rfl, hk, X, hF, hR, hl, hX⟩
  refine ⟨fun hi => ?_, fun hi => ?_⟩
  · refine hF.pushK (by omega) (fun x hx => by rw [(hX x hx).1]; exact keyOk_nil) (ats := []) (Own.nil _ _ _ _) (by simp) keyOk_nil (by simp) fun w' sa' h' => ⟨rfl, ⟨by omega, by omega⟩, ⟨k + 1, by omega, by omega, _, h', ?_, ?_, ?_⟩, by dsimp only; omega⟩
    · have := hR.push sa'
      rw [show ((k + 1 : Nat) : Int) = (k : Int) + 1 by omega] at this
      exact this
    · have := (pushX_sub (X := X) (k := ([98], keyA []))).2
      rw [List.length_append]; simp; omega
    · intro x hx
      rcases List.mem_append.1 hx with hx | hx
      · exact hX x (pushX_sub.1 x hx)
      · simp at hx; rw [hx]; exact ⟨rfl, rfl⟩
  · have hk4 : k = 4 := by omega
    subst hk4
    obtain ⟨j, hj, hid⟩ := hR.last (by omega)
    refine CallK.ext (hF.last [98]) fun v w23 c23 hv => ?_
    rw [hj] at hv
    obtain ⟨sa, hv⟩ := hv
    refine ⟨_, _, sa, true, hv, fun w26 C hN c26 => ?_⟩
    have h26 := (hF.ext c23).ext c26
    refine CallK.exact ((hF.ext c23).new hN c26).len fun w29 c29 => ⟨_, rfl, _, fun _ => (h26.ext c29).place 1, fun w31 c31 => ⟨((h26.ext c29).ext c31).2.1, ?_⟩⟩
    rw [hid]
    have h3 : X.length = 3 := by
      obtain ⟨P, R, hPR, hE, _, hP, hRl, hRR⟩ := hR
      have hPe : P = [] := by
        rcases hE with e | ⟨Q, x, e, hx⟩
        · exact e
        · have hxm : x ∈ X := by rw [hPR, e]; simp
          rw [(hX x hxm).2] at hx; cases hx
      rw [hPR, hPe]; simpa using hRl
    have hp : placeAt X 1 0 = -1 := by
      have : ¬ _ := fun e => absurd ((hR.place (j := 3) (by omega)).1 e) (by omega)
      rw [show ((4 : Nat) : Int) - ((3 : Nat) : Int) = 1 by omega] at this
      rcases placeAt_spec X 1 0 with ⟨e, _⟩ | ⟨q, e, _⟩
      · simpa using e
      · rw [show ((0 : Nat) : Int) = 0 from rfl] at e
        rw [e] at this; omega
    rw [h3, hp]; rfl
end


end Go.Proofs.YtcploacnonngaaaDoor
