/-
  What the proof of the statement leans on: texts one behind the other.
-/
import Derived.Test.YteacalmdpoblpaaGreatQCodecBase1
import Derived.Test.YteacalmdpoblpaaGreatQCodecBaseGlib
import Derived.Test.YteacalmdpoblpaaGreatQCodecBaseGref05P1
import Derived.Test.YteacalmdpoblpaaGreatQCodecBaseGwalk
import Derived.Test.YteacalmdpoblpaaGreatQCodecBaseGhash
import Derived.Test.YteacalmdpoblpaaGreatQCodecBaseGref18
import Derived.Test.YteacalmdpoblpaaGreatQCodecBaseGref01
import Derived.Test.YteacalmdpoblpaaGreatQCodecBaseGbits
import Derived.Test.YteacalmdpoblpaaGreatQCodecBaseGdomP1
import Derived.Test.YteacalmdpoblpaaGreatQCodecBaseGdomP2
import Derived.Lib.Bytealg
import Derived.Lib.BufferWrite
namespace Go.Proofs.YteacalmdpoblpaaGreat
section
open Go.RowKit
theorem len_sizes (us : List T) : us.length ≤ (us.map T.size).sum := by
 have h1 : (us.map fun _ => 1).sum ≤ (us.map T.size).sum := T.sum_le _ _ us fun u _ => by rw [T.size_eq]; omega
 have h2 : ∀ l : List T, (l.map fun _ => 1).sum = l.length := fun l => by induction l with
  |nil => rfl
  |cons a r ih => simp only [List.map_cons, List.sum_cons, ih, List.length_cons]; omega
 rw [h2] at h1; exact h1
structure Grove (us : List T) : Prop where
 ne : us ≠ []
 each : ∀ u ∈ us, Sprout 6 u
 few : (us.map T.size).sum ≤ 40
def grownT (us : List T) : T := .node 1 [] [] [] us
theorem Grove.bulk {us : List T} (h : Grove us) : (grownT us).bulk ≤ 601 := by
 have h2 : (us.map T.bulk).sum ≤ (us.map fun u => 15 * u.size).sum := T.sum_le _ _ us fun u hm => (h.each u hm).few
 have h3 : (us.map fun u => 15 * u.size).sum = 15 * (us.map T.size).sum := by
  have key : ∀ l : List T, (l.map fun u => 15 * u.size).sum = 15 * (l.map T.size).sum := fun l => by induction l with
   |nil => rfl
   |cons u r ih => simp only [List.map_cons, List.sum_cons, ih]; omega
  exact key us
 have h4 := h.few
 rw [T.bulk_eq]
 simp only [grownT, T.name, T.text, T.attrs, T.kids, List.length_nil, List.map_nil, List.sum_nil]; omega
theorem Grove.check {us : List T} (h : Grove us) : (grownT us).check = true := by
 have hs : (grownT us).size ≤ 41 := by rw [T.size_eq]; have := h.few; simp only [grownT, T.kids]; omega
 have hd : (grownT us).depth ≤ 7 := by
  rw [T.depth_eq]
  have : ((grownT us).kids.map T.depth).foldr max 0 ≤ 6 := T.foldr_max_le fun x hx => by
   obtain ⟨u, hm, rfl⟩ := List.mem_map.1 hx
   exact (h.each u hm).deep
  omega
 have hk : kidsOk (grownT us) = true := by
  unfold kidsOk
  rw [List.all_eq_true]
  intro u hm
  have := h.each u hm
  have h3 := this.kind
  rw [this.ok, decide_eq_false (by omega : ¬ u.kind = 5)]; rfl
 unfold T.check
 rw [hk, decide_eq_true (show (grownT us).size ≤ 300 by omega), decide_eq_true (show (grownT us).depth ≤ 60 by omega)]; rfl
theorem lawGrownT {w : World} {l : Sl} {zs : List Int} (hl : Row [] w l 1 (zs.map ic)) :
  Calls Tryz.prog 15 #[l.v] w (Ret fun v w' => Ext w w' ∧ ∃ (us : List T) (sk : Sl), v = tv (grownT us) Sl.nil sk ∧ Nur (List.range w.heap.size) w' sk us ∧ Grove us) := by
 refine law00_Grown.ok _ ?_
 unfold law00_Grown.vc
 intro w1 B2 Ba Bn B60 hN2 hNa hNn hN60 n1 n2 n3 n4 n5 n6 hE1 hBa1
 have g2 := hN2.ge
 have ga := hNa.ge
 have gn := hNn.ge
 have g60 := hN60.ge
 have l2 := hN2.lt
 have la := hNa.lt
 have ln := hNn.lt
 have l60 := hN60.lt
 have hl0 : Row [Ba, Bn] w l 1 (zs.map ic) := (hl.fresh (by decide) gn).fresh (by decide) ga
 refine CallK.chg (lawNext (x := 0) (hl0.ext hE1) (by simp) hBa1 (by omega)) (by simp; omega) fun v w2 hC2 ⟨r, x', hv, hr, hx', hBa2⟩ => ⟨(r : Int), hv, fun hBn2 => ?_⟩
 have e4 : ((r : Int)).tmod 4 = ((r % 4 : Nat) : Int) := rfl
 rw [e4]
 have hF : ∀ b ∈ [Ba, Bn], w.heap.size ≤ b := by simp; omega
 have hC12 : Chg [Ba, Bn] w w2 := (Chg.ext hE1).more' hC2 (by simp)
 have hsz2 := hC2.size
 have hsz12 := hE1.size
 refine ⟨fun k c w' => -1 ≤ k ∧ k ≤ 3 ∧ Chg [Ba, Bn] w w' ∧ w2.heap.size ≤ w'.heap.size ∧ ∃ (us : List T) (xk : Nat), (us = [] → 0 ≤ k) ∧ Nur (List.range w1.heap.size) w' c us ∧ (∀ u ∈ us, Sprout 6 u) ∧
     Box w' Ba 3 [.int .i64 (xk : Int)] ∧ Box w' Bn 3 [.int .i64 (((us.map T.size).sum : Nat) : Int)] ∧ (us.map T.size).sum ≤ 40 ∧ xk ≤ (us.map T.size).sum + 1,
    fun k _ _ => (k + 1).toNat, ⟨by omega, by omega, hC12, Nat.le_refl _, [], x', fun _ => by omega, Nur.nil _ _, by simp, hBa2, hBn2, by simp, by simp; omega⟩, ?_⟩
 rintro k c w3 ⟨hk1, hk3, hC3, hsz3, us, xk, hke, hNur, hus, hBa3, hBn3, hn3, hx3⟩
 have hcb : ∀ b ∈ c.blk, w1.heap.size ≤ b ∧ b < w3.heap.size := fun b hb => by
  have h := hNur.own.2.2.2 b hb
  have h1 := h.1
  simp at h1; omega
 refine ⟨(((us.map T.size).sum : Nat) : Int), fun _ => hBn3.cell 0 _ rfl, fun ⟨hk0, hk40⟩ w4 hE4 => ?_, fun hstop w4 hC4 => ?_⟩
 ·have hC4 := hC3.more' hE4 (by simp)
  have hcall := lawGrown n4 5 (by omega) (w := w4) (x := xk) (n := (us.map T.size).sum) (by omega) (by omega) (hl0.chg hC4 (by simp)) (hBa3.ext hE4) (hBn3.ext hE4)
  have hsz4 := hE4.size
  refine CallK.chg hcall (by simp; omega) ?_
  rintro v w5 hC5 ⟨u, su, sku, xu, rfl, hru, hBa5, hBn5, hn5, hx5, hspr⟩
  refine ⟨_, _, _, su, sku, rfl, fun w6 B6 hE6 hB6 hbox6 w7 hE7 hbox7 => ?_⟩
  have hE57 : Ext w5 w7 := hE6.trans hE7
  have hsz5 := hC5.size
  have hsz7 := hE57.size
  have hNur7 := ((hNur.ext hE4).chg hC5 (fun b hb => List.mem_range.2 (by simp at hb; rcases hb with rfl | rfl <;> omega))).ext hE57
  have hC7 : Chg [Ba, Bn] w w7 := (hC4.trans hC5).more' hE57 (by simp)
  refine hNur7.push (fun b hb => by have := List.mem_range.1 hb; omega) hbox7 ((hru.ext hE57).less fun b hb => List.mem_range.2 ?_) ?_ (fun b hb => List.mem_range.2 (by simp at hb; rcases hb with rfl | rfl <;> omega)) fun s' w8 hN8 hC8 hbl => ⟨s', rfl, ⟨by omega, by omega⟩, fun w9 hC9 => ?_⟩
  ·rcases List.mem_append.1 hb with hb | hb
   ·have := hcb b hb; omega
   ·have := List.mem_range.1 hb; omega
  ·have := len_sizes us; omega
  ·have hown : ∀ b ∈ c.own, w1.heap.size ≤ b := fun b hb => (hcb b (Sl.own_blk hb)).1
   have hsz8 := hC8.size
   have hsz9 := hC9.size
   have es : ((us ++ [u]).map T.size).sum = (us.map T.size).sum + u.size := by simp
   have q1 : ∀ b ∈ [Ba, Bn], b ∉ c.own := fun b hb hm => by have := hown b hm; simp at hb; rcases hb with rfl | rfl <;> omega
   have q2 : ∀ b ∈ [Ba, Bn], b ∉ [B60] := fun b hb hm => by simp at hb hm; rcases hb with rfl | rfl <;> omega
   refine ⟨⟨by omega, by omega, (hC7.more' hC8 (fun b hb => .inr (by have := hown b hb; omega))).more' hC9 (by simp; omega), by omega, us ++ [u], xu, by simp, hN8.chg hC9 (by simpa using l60), fun y hy => ?_, ((hBa5.ext hE57).keep hC8 (q1 _ (by simp))).keep hC9 (q2 _ (by simp)), ?_, by rw [es]; omega, by rw [es]; omega⟩, by dsimp only; omega⟩
   ·rcases List.mem_append.1 hy with hy | hy
    ·exact hus y hy
    ·simp at hy; subst hy; exact hspr
   ·have := ((hBn5.ext hE57).keep hC8 (q1 _ (by simp))).keep hC9 (q2 _ (by simp))
    rw [es]; exact this
 ·refine ⟨Chg.fresh (Chg.fresh (Chg.refl [] w) hC3 hF) hC4 (by simpa using g2), us, c, rfl, (hNur.chg hC4 (by simpa using l2)).less (fun b hb => List.mem_range.2 (by have := List.mem_range.1 hb; omega)), ?_, hus, hn3⟩
  rintro rfl
  have := hke rfl
  rcases hstop with h | h
  ·omega
  ·simp at h
end
section
open Go.RowKit
structure Cmp {α : Type} (c : α → α → Int) (P : α → Prop) : Prop where
 anti : ∀ x y, P x → P y → c x y = - c y x
 zero : ∀ x y, P x → P y → (c x y = 0 ↔ x = y)
 trans : ∀ x y z, P x → P y → P z → c x y ≤ 0 → c y z ≤ 0 → c x z ≤ 0
def cmpI (x y : Int) : Int := if x < y then -1 else if y < x then 1 else 0
theorem cmpI_cmp : Cmp cmpI (fun _ => True) where
 anti x y _ _ := by unfold cmpI; split <;> split <;> (try split) <;> omega
 zero x y _ _ := by unfold cmpI; split <;> (try split) <;> omega
 trans x y z _ _ _ h1 h2 := by
  unfold cmpI at *
  split at h1 <;> split at h2 <;> (try split at h1) <;> (try split at h2) <;> split <;> (try split) <;> omega
def lexM {α β : Type} (c : α → β → Int) : List α → List β → Int
 |[], [] => 0
 |[], _ :: _ => -1
 |_ :: _, [] => 1
 |x :: xs, y :: ys => if c x y = 0 then lexM c xs ys else c x y
theorem lexM_map {α β γ : Type} (c : α → β → Int) (g : γ → α) : ∀ (l : List γ) (m : List β), lexM c (l.map g) m = lexM (fun t u => c (g t) u) l m
 |[], [] => rfl
 |[], _ :: _ => rfl
 |_ :: _, [] => rfl
 |x :: xs, y :: ys => by simp only [List.map_cons, lexM, lexM_map c g xs ys]
theorem lexM_cmp {α : Type} {c : α → α → Int} {P : α → Prop} (h : Cmp c P) : Cmp (lexM c) (fun l => ∀ x ∈ l, P x) where
 anti := by
  intro xs
  induction xs with
  |nil => intro ys _ _; cases ys <;> rfl
  |cons x xs ih =>
   intro ys hx hy
   cases ys with
   |nil => rfl
   |cons y ys =>
    have a := h.anti x y (hx x (by simp)) (hy y (by simp))
    have i := ih ys (fun z hz => hx z (by simp [hz])) (fun z hz => hy z (by simp [hz]))
    simp only [lexM]
    split <;> split <;> omega
 zero := by
  intro xs
  induction xs with
  |nil => intro ys _ _; cases ys <;> simp [lexM]
  |cons x xs ih =>
   intro ys hx hy
   cases ys with
   |nil => simp [lexM]
   |cons y ys =>
    have a := h.zero x y (hx x (by simp)) (hy y (by simp))
    have i := ih ys (fun z hz => hx z (by simp [hz])) (fun z hz => hy z (by simp [hz]))
    simp only [lexM, List.cons.injEq]
    split
    ·rename_i hc; rw [i]; simp [a.1 hc]
    ·rename_i hc
     constructor
     ·intro hh; exact absurd hh hc
     ·intro hh; exact absurd (a.2 hh.1) hc
 trans := by
  intro xs
  induction xs with
  |nil => intro ys zs _ _ _ h1 h2; cases ys <;> cases zs <;> simp_all [lexM]
  |cons x xs ih =>
   intro ys zs hx hy hz h1 h2
   cases ys with
   |nil => simp [lexM] at h1
   |cons y ys =>
    cases zs with
    |nil => simp [lexM] at h2
    |cons z zs =>
     have px := hx x (by simp); have py := hy y (by simp); have pz := hz z (by simp)
     have t := h.trans x y z px py pz
     have z1 := h.zero x y px py; have z2 := h.zero y z py pz; have z3 := h.zero x z px pz
     have a1 := h.anti x y px py; have a2 := h.anti y z py pz
     have i := ih ys zs (fun q hq => hx q (by simp [hq])) (fun q hq => hy q (by simp [hq])) (fun q hq => hz q (by simp [hq]))
     simp only [lexM] at h1 h2 ⊢
     by_cases e1 : c x y = 0
     ·rw [if_pos e1] at h1
      have exy := z1.1 e1
      subst exy
      by_cases e2 : c x z = 0
      ·rw [if_pos e2] at h2 ⊢; exact i h1 h2
      ·rw [if_neg e2] at h2 ⊢; exact h2
     ·rw [if_neg e1] at h1
      by_cases e2 : c y z = 0
      ·have eyz := z2.1 e2
       subst eyz
       rw [if_neg e1]; exact h1
      ·rw [if_neg e2] at h2
       by_cases e3 : c x z = 0
       ·have exz := z3.1 e3
        subst exz
        omega
       ·rw [if_neg e3]; exact t h1 h2
def or2 (a b : Int) : Int := if a = 0 then b else a
theorem or2_cmp {α β γ : Type} {c : β → β → Int} {d : γ → γ → Int} {P : β → Prop} {Q : γ → Prop} (hc : Cmp c P) (hd : Cmp d Q) (f : α → β) (g : α → γ) (inj : ∀ x y, f x = f y → g x = g y → x = y) : Cmp (fun x y => or2 (c (f x) (f y)) (d (g x) (g y))) (fun x => P (f x) ∧ Q (g x)) where
 anti x y hx hy := by
  have a := hc.anti _ _ hx.1 hy.1; have b := hd.anti _ _ hx.2 hy.2
  unfold or2; split <;> split <;> omega
 zero x y hx hy := by
  have a := hc.zero _ _ hx.1 hy.1; have b := hd.zero _ _ hx.2 hy.2
  unfold or2
  split
  ·rename_i h; rw [b]; exact ⟨fun e => inj x y (a.1 h) e, fun e => by rw [e]⟩
  ·rename_i h; exact ⟨fun e => absurd e h, fun e => absurd (a.2 (by rw [e])) h⟩
 trans x y z hx hy hz h1 h2 := by
  have t1 := hc.trans _ _ _ hx.1 hy.1 hz.1; have t2 := hd.trans _ _ _ hx.2 hy.2 hz.2
  have z1 := hc.zero _ _ hx.1 hy.1; have z2 := hc.zero _ _ hy.1 hz.1; have z3 := hc.zero _ _ hx.1 hz.1
  have a2 := hc.anti _ _ hy.1 hz.1
  unfold or2 at *
  by_cases e1 : c (f x) (f y) = 0
  ·rw [if_pos e1] at h1
   have exy := z1.1 e1
   rw [exy] at *
   by_cases e2 : c (f y) (f z) = 0
   ·rw [if_pos e2] at h2 ⊢; exact t2 h1 h2
   ·rw [if_neg e2] at h2 ⊢; exact h2
  ·rw [if_neg e1] at h1
   by_cases e2 : c (f y) (f z) = 0
   ·have eyz := z2.1 e2
    rw [← eyz, if_neg e1]; exact h1
   ·rw [if_neg e2] at h2
    by_cases e3 : c (f x) (f z) = 0
    ·have exz := z3.1 e3
     rw [exz] at h1 e1; omega
    ·rw [if_neg e3]; exact t1 h1 h2
theorem pair_cmp {β γ : Type} {c : β → β → Int} {d : γ → γ → Int} {P : β → Prop} {Q : γ → Prop} (hc : Cmp c P) (hd : Cmp d Q) : Cmp (fun x y : β × γ => or2 (c x.1 y.1) (d x.2 y.2)) (fun x => P x.1 ∧ Q x.2) :=
 or2_cmp hc hd (fun x => x.1) (fun x => x.2) (fun _ _ h1 h2 => Prod.ext h1 h2)
def cmpB (a b : UInt8) : Int := cmpI (a.toNat : Int) (b.toNat : Int)
theorem cmpB_cmp : Cmp cmpB (fun _ => True) where
 anti x y _ _ := cmpI_cmp.anti _ _ trivial trivial
 zero x y _ _ := by
  unfold cmpB; rw [cmpI_cmp.zero _ _ trivial trivial]
  constructor
  ·intro h; exact UInt8.toNat_inj.1 (by omega)
  ·intro h; rw [h]
 trans x y z _ _ _ := cmpI_cmp.trans _ _ _ trivial trivial trivial
theorem compareBytes_lex : ∀ a b : Str, Lib.compareBytes a b = lexM cmpB a b
 |[], [] => rfl
 |[], _ :: _ => rfl
 |_ :: _, [] => rfl
 |x :: xs, y :: ys => by
  have ih := compareBytes_lex xs ys
  simp only [Lib.compareBytes, lexM, UInt8.lt_iff_toNat_lt]
  by_cases h1 : x.toNat < y.toNat
  ·have hv : cmpB x y = -1 := by unfold cmpB cmpI; rw [if_pos (by omega)]
   simp [hv, h1]
  ·by_cases h2 : y.toNat < x.toNat
   ·have hv : cmpB x y = 1 := by unfold cmpB cmpI; rw [if_neg (by omega), if_pos (by omega)]
    simp [hv, h1, h2]
   ·have hv : cmpB x y = 0 := by unfold cmpB cmpI; rw [if_neg (by omega), if_neg (by omega)]
    simp [hv, h1, h2, ih]
def cmpS (a b : Str) : Int := Lib.compareBytes a b
theorem cmpS_cmp : Cmp cmpS (fun _ => True) := by
 have e : cmpS = lexM cmpB := by funext a b; exact compareBytes_lex a b
 rw [e]
 have := lexM_cmp cmpB_cmp
 exact ⟨fun x y _ _ => this.anti x y (fun _ _ => trivial) (fun _ _ => trivial), fun x y _ _ => this.zero x y (fun _ _ => trivial) (fun _ _ => trivial), fun x y z _ _ _ => this.trans x y z (fun _ _ => trivial) (fun _ _ => trivial) (fun _ _ => trivial)⟩
def cmpA (p q : Str × Str) : Int := or2 (cmpS p.1 q.1) (cmpS p.2 q.2)
theorem cmpA_cmp : Cmp cmpA (fun _ => True) := by
 have := or2_cmp cmpS_cmp cmpS_cmp (fun p : Str × Str => p.1) (fun p => p.2) (fun x y h1 h2 => Prod.ext h1 h2)
 exact ⟨fun x y _ _ => this.anti x y ⟨trivial, trivial⟩ ⟨trivial, trivial⟩, fun x y _ _ => this.zero x y ⟨trivial, trivial⟩ ⟨trivial, trivial⟩, fun x y z _ _ _ => this.trans x y z ⟨trivial, trivial⟩ ⟨trivial, trivial⟩ ⟨trivial, trivial⟩⟩
def T.cmp : T → T → Int
 |.node k n x ats ks, u => or2 (or2 (or2 (cmpI k u.kind) (or2 (cmpS n u.name) (cmpS x u.text))) (lexM cmpA ats u.attrs)) (lexM (fun (t : { x // x ∈ ks }) v => T.cmp t.1 v) ks.attach u.kids)
termination_by t => SizeOf.sizeOf t
decreasing_by
 have := List.sizeOf_lt_of_mem t.2
 simp; omega
theorem T.cmp_eq (t u : T) : T.cmp t u = or2 (or2 (or2 (cmpI t.kind u.kind) (or2 (cmpS t.name u.name) (cmpS t.text u.text))) (lexM cmpA t.attrs u.attrs)) (lexM T.cmp t.kids u.kids) := by
 cases t with
 |node k n x ats ks =>
  rw [T.cmp]
  have := lexM_map (fun t v => T.cmp t v) (fun t : { x // x ∈ ks } => t.1) ks.attach u.kids
  rw [← this, List.attach_map_subtype_val]; rfl
theorem T.ext {t u : T} (h1 : t.kind = u.kind) (h2 : t.name = u.name) (h3 : t.text = u.text) (h4 : t.attrs = u.attrs) (h5 : t.kids = u.kids) : t = u := by
 cases t; cases u; cases h1; cases h2; cases h3; cases h4; cases h5; rfl
theorem T.cmp_cmp : ∀ n : Nat, Cmp T.cmp (fun t => t.size ≤ n) := by
 intro n
 induction n with
 |zero => exact ⟨fun x y hx => by rw [T.size_eq] at hx; omega, fun x y hx => by rw [T.size_eq] at hx; omega, fun x y z hx => by rw [T.size_eq] at hx; omega⟩
 |succ n ih =>
  have h1 := pair_cmp cmpS_cmp cmpS_cmp
  have h2 := pair_cmp cmpI_cmp h1
  have h3 := pair_cmp h2 (lexM_cmp cmpA_cmp)
  have h4 := pair_cmp h3 (lexM_cmp ih)
  have key : ∀ t : T, t.size ≤ n + 1 → (fun x : ((Int × Str × Str) × List (Str × Str)) × List T => ((fun _ => True) x.1.1.1 ∧ ((fun _ => True) x.1.1.2.1 ∧ (fun _ => True) x.1.1.2.2)) ∧ (∀ a ∈ x.1.2, True)) (((t.kind, t.name, t.text), t.attrs), t.kids) ∧ ∀ u ∈ t.kids, u.size ≤ n := fun t ht =>
   ⟨⟨⟨trivial, trivial, trivial⟩, fun _ _ => trivial⟩, fun u hu => by have := T.size_eq t; have := T.mem_sum T.size hu; omega⟩
  have e : ∀ t u : T, T.cmp t u = (fun x y : ((Int × Str × Str) × List (Str × Str)) × List T => or2 (or2 (or2 (cmpI x.1.1.1 y.1.1.1) (or2 (cmpS x.1.1.2.1 y.1.1.2.1) (cmpS x.1.1.2.2 y.1.1.2.2))) (lexM cmpA x.1.2 y.1.2)) (lexM T.cmp x.2 y.2)) (((t.kind, t.name, t.text), t.attrs), t.kids) (((u.kind, u.name, u.text), u.attrs), u.kids) := fun t u => T.cmp_eq t u
  exact ⟨fun x y hx hy => by rw [e, e]; exact h4.anti _ _ (key x hx) (key y hy), fun x y hx hy => by
   rw [e]
   refine (h4.zero _ _ (key x hx) (key y hy)).trans ⟨fun h => ?_, fun h => by rw [h]⟩
   simp only [Prod.mk.injEq] at h
   exact T.ext h.1.1.1 h.1.1.2.1 h.1.1.2.2 h.1.2 h.2, fun x y z hx hy hz => by rw [e, e, e]; exact h4.trans _ _ _ (key x hx) (key y hy) (key z hz)⟩
theorem T.cmp_zero (x y : T) : T.cmp x y = 0 ↔ x = y := (T.cmp_cmp (max x.size y.size)).zero x y (Nat.le_max_left _ _) (Nat.le_max_right _ _)
end
section
open Go.RowKit
theorem bytesLess_cmp : ∀ a b : Str, Op.bytesLess a b = decide (cmpS a b < 0)
 |[], [] => rfl
 |[], _ :: _ => rfl
 |_ :: _, [] => rfl
 |a :: x, b :: y => by
  have ih := bytesLess_cmp x y
  unfold cmpS at ih ⊢
  simp only [Op.bytesLess, Lib.compareBytes, ih]
  by_cases h1 : a < b
  ·simp [h1]
  ·by_cases h2 : b < a
   ·have : ¬ a = b := fun e => by subst e; exact h1 h2
    simp [h1, h2, this]
   ·have : a = b := by
     have e1 : ¬ a.toNat < b.toNat := h1
     have e2 : ¬ b.toNat < a.toNat := h2
     exact UInt8.toNat_inj.1 (by omega)
    simp [this]
theorem cmpS_zero (a b : Str) : cmpS a b = 0 ↔ a = b := cmpS_cmp.zero a b trivial trivial
end
section
open Go.RowKit
theorem lexM_end {α β : Type} (c : α → β → Int) : ∀ (l : List α) (m : List β), (l = [] ∨ m = []) → lexM c l m = cmpI (l.length : Int) (m.length : Int)
 |[], [], _ => rfl
 |[], y :: ys, _ => by unfold lexM cmpI; rw [if_pos (by simp only [List.length_cons, List.length_nil]; omega)]
 |x :: xs, [], _ => by unfold lexM cmpI; rw [if_neg (by simp only [List.length_cons, List.length_nil]; omega), if_pos (by simp only [List.length_cons, List.length_nil]; omega)]
 |_ :: _, _ :: _, h => by simp at h
theorem or2_zero (a : Int) : or2 0 a = a := if_pos rfl
theorem or2_ne {a : Int} (b : Int) (h : a ≠ 0) : or2 a b = a := if_neg h
theorem lexM_step {α β : Type} (c : α → β → Int) (x : α) (y : β) (xs : List α) (ys : List β) : lexM c (x :: xs) (y :: ys) = or2 (c x y) (lexM c xs ys) := rfl
theorem drop_at {α : Type} (l : List α) (d : α) {k : Nat} (h : k < l.length) : l.drop k = l.getD k d :: l.drop (k + 1) := by
 rw [List.drop_eq_getElem_cons h, List.getD_eq_getElem?_getD, List.getElem?_eq_getElem h]; rfl
theorem lexM_exit {α β : Type} (c : α → β → Int) (l : List α) (m : List β) (x : Int) (k : Nat) (hl : k ≤ l.length) (hm : k ≤ m.length) (h : x ≠ 0 ∨ k = l.length ∨ k = m.length) : or2 x (lexM c (l.drop k) (m.drop k)) = or2 x (cmpI (l.length : Int) (m.length : Int)) := by
 by_cases hx : x = 0
 ·subst hx
  have hd : l.drop k = [] ∨ m.drop k = [] := by
   rcases h with h | h | h
   ·exact absurd rfl h
   ·left; rw [h]; exact List.drop_length
   ·right; rw [h]; exact List.drop_length
  rw [or2_zero, or2_zero, lexM_end c _ _ hd]
  simp only [List.length_drop, cmpI]
  have e1 : (((l.length - k : Nat) : Int) < ((m.length - k : Nat) : Int)) ↔ ((l.length : Int) < (m.length : Int)) := by omega
  have e2 : (((m.length - k : Nat) : Int) < ((l.length - k : Nat) : Int)) ↔ ((m.length : Int) < (l.length : Int)) := by omega
  simp only [e1, e2]
 ·rw [or2_ne _ hx, or2_ne _ hx]
end
section
open Go.RowKit
theorem refSign {w : World} (x y : Bool) : Calls Tryz.prog 68 #[.bool x, .bool y] w (Ret fun v w' => Ext w w' ∧ v = .int .i64 (if x = true then -1 else if y = true then 1 else 0)) := by
 refine ref05_sign.ok _ _ ?_
 unfold ref05_sign.vc
 refine ⟨fun h => ⟨Chg.refl _ _, by rw [if_pos h]⟩, fun h => ⟨fun h2 => ⟨Chg.refl _ _, by rw [if_neg (by rw [h]; decide), if_pos h2]⟩, fun h2 => ⟨Chg.refl _ _, by rw [if_neg (by rw [h]; decide), if_neg (by rw [h2]; decide)]⟩⟩⟩
theorem sign_int (x y : Int) : (if decide (x < y) = true then (-1 : Int) else if decide (y < x) = true then 1 else 0) = cmpI x y := by
 unfold cmpI; simp
theorem cmpS_small (a b : Str) : -1 ≤ cmpS a b ∧ cmpS a b ≤ 1 := by
 unfold cmpS
 rw [compareBytes_lex]
 induction a generalizing b with
 |nil => cases b <;> simp [lexM]
 |cons x a ih =>
  cases b with
  |nil => simp [lexM]
  |cons y b =>
   have := ih b
   simp only [lexM, or2, cmpB, cmpI]
   split <;> (try split) <;> (try split) <;> omega
theorem sign_str (x y : Str) : (if Op.bytesLess x y = true then (-1 : Int) else if (!(Op.bytesLess x y || decide (x = y))) = true then 1 else 0) = cmpS x y := by
 rw [bytesLess_cmp]
 have h1 := cmpS_small x y
 have h2 := cmpS_zero x y
 by_cases a : cmpS x y < 0
 ·simp [a]; omega
 ·by_cases b : x = y
  ·have := h2.2 b; simp [b] at *; omega
  ·have : cmpS x y ≠ 0 := fun e => b (h2.1 e)
   simp [a, b]; omega
theorem sign_attr (p q : Str × Str) : (if (Op.bytesLess p.1 q.1 || (decide (p.1 = q.1) && Op.bytesLess p.2 q.2)) = true then (-1 : Int) else if ((!(Op.bytesLess p.1 q.1 || decide (p.1 = q.1))) || (decide (p.1 = q.1) && !(Op.bytesLess p.2 q.2 || decide (p.2 = q.2)))) = true then 1 else 0) = cmpA p q := by
 unfold cmpA or2
 have s1 := sign_str p.1 q.1
 have s2 := sign_str p.2 q.2
 have z := cmpS_zero p.1 q.1
 by_cases e : p.1 = q.1
 ·rw [if_pos (z.2 e), ← s2]
  have : Op.bytesLess p.1 q.1 = false := by rw [bytesLess_cmp]; simp [z.2 e]
  simp [e]
  have h3 : Op.bytesLess q.1 q.1 = false := by rw [e] at this; exact this
  simp [h3]
 ·rw [if_neg (fun h => e (z.1 h)), ← s1]
  simp [e]
theorem refNode {A : List Nat} {a b : T} {w : World} {sa sk ta tk : Sl} (ha : RdT A w a sa sk) (hb : RdT A w b ta tk) :
  Calls Tryz.prog 67 #[tv a sa sk, tv b ta tk] w (Ret fun v w' => Ext w w' ∧ v = .int .i64 (or2 (or2 (cmpI a.kind b.kind) (or2 (cmpS a.name b.name) (cmpS a.text b.text))) (lexM cmpA a.attrs b.attrs))) := by
 refine ref05_Node.ok _ _ _ _ _ _ _ _ _ _ ?_
 unfold ref05_Node.vc
 have hna := ha.nattrs
 have hnb := hb.nattrs
 have hca := ha.caps
 have hcb := hb.caps
 simp only [maxLen] at hca hcb
 intro w1 B1 B2 hN1 hN2 _ hE1
 refine CallK.exact (refSign _ _) fun w2 hE2 => ⟨_, rfl, ?_⟩
 rw [sign_int]
 refine ⟨fun c w3 => c = or2 (cmpI a.kind b.kind) (cmpS a.name b.name) ∧ Ext w w3, ⟨fun h0 => CallK.exact (refSign _ _) fun w3 hE3 => ⟨_, rfl, ?_, (hE1.trans hE2).trans hE3⟩, fun h0 => ⟨(or2_ne _ h0).symm, hE1.trans hE2⟩⟩, ?_⟩
 ·rw [sign_str, h0, or2_zero]
 rintro _ w3 ⟨rfl, hE3⟩
 generalize hx0 : or2 (cmpI a.kind b.kind) (or2 (cmpS a.name b.name) (cmpS a.text b.text)) = x0
 have hassoc : x0 = or2 (or2 (cmpI a.kind b.kind) (cmpS a.name b.name)) (cmpS a.text b.text) := by
  rw [← hx0]
  by_cases h : cmpI a.kind b.kind = 0
  ·rw [h, or2_zero, or2_zero]
  ·rw [or2_ne _ h, or2_ne (cmpS a.name b.name) h, or2_ne _ h]
 refine ⟨fun c w4 => c = x0 ∧ Ext w w4, ⟨fun h0 => CallK.exact (refSign _ _) fun w4 hE4 => ⟨_, rfl, ?_, hE3.trans hE4⟩, fun h0 => ⟨by rw [hassoc, or2_ne _ h0], hE3⟩⟩, ?_⟩
 ·rw [sign_str, hassoc, h0, or2_zero]
 rintro x0 w4 ⟨rfl, hE4⟩
 refine ⟨fun x i w3 => ∃ k : Nat, i = (k : Int) ∧ k ≤ a.attrs.length ∧ k ≤ b.attrs.length ∧ or2 x0 (lexM cmpA a.attrs b.attrs) = or2 x (lexM cmpA (a.attrs.drop k) (b.attrs.drop k)) ∧ Ext w w3, fun _ i _ => a.attrs.length - i.toNat, ⟨0, rfl, Nat.zero_le _, Nat.zero_le _, rfl, hE4⟩, ?_⟩
 rintro x _ w5 ⟨k, rfl, hk1, hk2, heq, hE5⟩
 rw [Int.toNat_natCast]
 refine ⟨fun hgo w6 hE6 => ?_, fun hend => ?_⟩
 ·obtain ⟨⟨hx, hi⟩, hj⟩ := hgo
  subst hx
  have hE56 := hE5.trans hE6
  obtain ⟨p, hp, _, hc⟩ := (ha.ext hE56).attr (i := k) (by omega)
  obtain ⟨q, hq, _, hd⟩ := (hb.ext hE56).attr (i := k) (by omega)
  rw [drop_at a.attrs ([], []) (by omega), drop_at b.attrs ([], []) (by omega), lexM_step, or2_zero] at heq
  refine ⟨p, ⟨⟨by omega, hi⟩, hp⟩, _, _, hc, q, ⟨⟨by omega, hj⟩, hq⟩, _, _, hd, fun w7 B7 B8 hE7 hB7 _ hB8 _ w8 hC8 => CallK.exact (refSign _ _) fun w9 hE9 => ⟨_, rfl, ⟨by omega, by omega⟩, ⟨k + 1, by omega, by omega, by omega, ?_, ?_⟩, by dsimp only; omega⟩⟩
  ·rw [sign_attr]; exact heq
  ·have hs := hE56.size
   exact (Chg.fresh (hE56.trans hE7) hC8 (by simp; omega)).trans hE9
 ·have hex : or2 x0 (lexM cmpA a.attrs b.attrs) = or2 x (cmpI (a.attrs.length : Int) (b.attrs.length : Int)) := by
   rw [heq]
   refine lexM_exit cmpA a.attrs b.attrs x k hk1 hk2 ?_
   rcases hend with (h | h) | h
   ·exact .inl h
   ·exact .inr (.inl (by omega))
   ·exact .inr (.inr (by omega))
  rw [hna, hnb, hex]
  refine ⟨fun h0 => CallK.exact (refSign _ _) fun w6 hE6 => ⟨_, rfl, hE5.trans hE6, ?_⟩, fun h0 => ⟨hE5, by rw [or2_ne _ h0]⟩⟩
  rw [sign_int, h0, or2_zero]
theorem refCompare {A : List Nat} : ∀ a : T, ∀ (b : T) {w : World} {sa sk ta tk : Sl}, RdT A w a sa sk → RdT A w b ta tk →
  Calls Tryz.prog 38 #[tv a sa sk, tv b ta tk] w (Ret fun v w' => Ext w w' ∧ v = .int .i64 (T.cmp a b)) := T.ind' fun a ih b w sa sk ta tk ha hb => by
 refine ref05_Compare.ok _ _ _ _ _ _ _ _ _ _ ?_
 unfold ref05_Compare.vc
 have hnk := ha.nkids
 have hnl := hb.nkids
 have hca := ha.caps
 have hcb := hb.caps
 simp only [maxLen] at hca hcb
 intro w1 B1 B2 _ _ _ hE1
 refine CallK.exact (refNode (ha.ext hE1) (hb.ext hE1)) fun w2 hE2 => ⟨_, rfl, ?_⟩
 rw [T.cmp_eq a b]
 generalize or2 (or2 (cmpI a.kind b.kind) (or2 (cmpS a.name b.name) (cmpS a.text b.text))) (lexM cmpA a.attrs b.attrs) = x1
 refine ⟨fun y i w7 => ∃ k : Nat, i = (k : Int) ∧ k ≤ a.kids.length ∧ k ≤ b.kids.length ∧ or2 x1 (lexM T.cmp a.kids b.kids) = or2 y (lexM T.cmp (a.kids.drop k) (b.kids.drop k)) ∧ Ext w w7, fun _ i _ => a.kids.length - i.toNat, ⟨0, rfl, Nat.zero_le _, Nat.zero_le _, rfl, hE1.trans hE2⟩, ?_⟩
 rintro y _ w7 ⟨j, rfl, hj1, hj2, heq2, hE7⟩
 rw [Int.toNat_natCast]
 refine ⟨fun hgo w8 hE8 => ?_, fun hend => ?_⟩
 ·obtain ⟨⟨hy, hi⟩, hj⟩ := hgo
  subst hy
  have hE78 := hE7.trans hE8
  have hj1' : j < a.kids.length := by omega
  have hj2' : j < b.kids.length := by omega
  obtain ⟨p, sa', sk', hp, _, hc, hr⟩ := (ha.ext hE78).kid hj1'
  obtain ⟨q, ta', tk', hq, _, hd, hs⟩ := (hb.ext hE78).kid hj2'
  rw [drop_at a.kids T.nul hj1', drop_at b.kids T.nul hj2', lexM_step, or2_zero] at heq2
  refine ⟨p, ⟨⟨by omega, hi⟩, hp⟩, _, _, _, sa', sk', hc, q, ⟨⟨by omega, hj⟩, hq⟩, _, _, _, ta', tk', hd, _, fun w' hE' => ih _ (getD_mem hj1') _ (hr.ext hE') (hs.ext hE'), ⟨by omega, by omega⟩, fun w9 hE9 => ⟨⟨j + 1, by omega, by omega, by omega, heq2, hE78.trans hE9⟩, by dsimp only; omega⟩⟩
 ·have hex2 : or2 x1 (lexM T.cmp a.kids b.kids) = or2 y (cmpI (a.kids.length : Int) (b.kids.length : Int)) := by
   rw [heq2]
   refine lexM_exit T.cmp a.kids b.kids y j hj1 hj2 ?_
   rcases hend with (h | h) | h
   ·exact .inl h
   ·exact .inr (.inl (by omega))
   ·exact .inr (.inr (by omega))
  rw [hnk, hnl, hex2]
  refine ⟨fun h0 => CallK.exact (refSign _ _) fun w6 hE6 => ⟨_, rfl, hE7.trans hE6, ?_⟩, fun h0 => ⟨hE7, by rw [or2_ne _ h0]⟩⟩
  rw [sign_int, h0, or2_zero]
theorem refSame {A : List Nat} (a b : T) {w : World} {sa sk ta tk : Sl} (ha : RdT A w a sa sk) (hb : RdT A w b ta tk) :
  Calls Tryz.prog 13 #[tv a sa sk, tv b ta tk] w (Ret fun v w' => Ext w w' ∧ v = .bool (decide (T.cmp a b = 0))) := by
 refine ref05_Same.ok _ _ _ _ _ _ _ _ _ _ ?_
 unfold ref05_Same.vc
 intro w1 B1 B2 _ _ _ hE1
 exact CallK.exact (refCompare a b (ha.ext hE1) (hb.ext hE1)) fun w2 hE2 => ⟨_, rfl, hE1.trans hE2, rfl⟩
end
section
open Go.RowKit Go.MapKept Cdc
def zeroT : T := .node 0 [] [] [] []
end
section
namespace Hsh
open Go.RowKit
def golden : Nat := 11400714819323198485
def rot (x : Nat) : Nat := (x * 2 ^ 31 % 2 ^ 64) ||| (x / 2 ^ 33)
def mix (h v : Nat) : Nat := rot (((h ^^^ v) * golden % 2 ^ 64) ^^^ ((h ^^^ v) * golden % 2 ^ 64 / 2 ^ 29))
def turnN (v : Nat) : Nat → Nat
 |0 => 0
 |n + 1 => turnN v n ||| (v / 2 ^ n % 2) * 2 ^ ((n + 31) % 64)
theorem bit_test (v n k j : Nat) : ((v / 2 ^ n % 2) * 2 ^ k).testBit j = (decide (k = j) && v.testBit n) := by
 rw [Nat.testBit_mul_two_pow]
 by_cases h : k ≤ j
 ·have e : (v / 2 ^ n % 2).testBit (j - k) = (decide (j - k = 0) && v.testBit n) := by
   have := Nat.testBit_mod_two_pow (v / 2 ^ n) 1 (j - k)
   rw [Nat.pow_one] at this
   rw [this, Nat.testBit_div_two_pow]
   by_cases h0 : j - k = 0
   ·simp [h0]
   ·have : ¬ (j - k < 1) := by omega
    simp [h0, this]
  rw [e]
  by_cases hj : k = j
  ·subst hj; simp
  ·have : ¬ (j - k = 0) := by omega
   simp [hj, this]
 ·have : ¬ k = j := by omega
  simp [h, this]
theorem turnN_test (v : Nat) : ∀ n, n ≤ 64 → ∀ j, (turnN v n).testBit j = (decide (j < 64) && decide ((j + 33) % 64 < n) && v.testBit ((j + 33) % 64)) := by
 intro n
 induction n with
 |zero => intro _ j; simp [turnN]
 |succ n ih =>
  intro hn j
  rw [turnN, Nat.testBit_or, ih (by omega), bit_test]
  by_cases hj : j < 64
  ·by_cases h1 : (n + 31) % 64 = j
   ·have h2 : (j + 33) % 64 = n := by omega
    simp [hj, h1, h2]
   ·have h2 : ¬ (j + 33) % 64 = n := by omega
    by_cases h3 : (j + 33) % 64 < n
    ·have h4 : (j + 33) % 64 < n + 1 := by omega
     simp [hj, h1, h3, h4]
    ·have h4 : ¬ (j + 33) % 64 < n + 1 := by omega
     simp [h1, h3, h4]
  ·have h1 : ¬ (n + 31) % 64 = j := by omega
   simp [hj, h1]
theorem turn_eq {v : Nat} (h : v < 18446744073709551616) : turnN v 64 = rot v := by
 apply Nat.eq_of_testBit_eq
 intro j
 rw [turnN_test v 64 (Nat.le_refl _), rot, Nat.testBit_or, Nat.testBit_mod_two_pow, Nat.testBit_mul_two_pow, Nat.testBit_div_two_pow]
 by_cases hj : j < 64
 ·by_cases h31 : 31 ≤ j
  ·have e : (j + 33) % 64 = j - 31 := by omega
   have e2 : (j + 33) % 64 < 64 := by omega
   have hz : v.testBit (j + 33) = false := Nat.testBit_lt_two_pow (Nat.lt_of_lt_of_le h (by rw [show (18446744073709551616 : Nat) = 2 ^ 64 from rfl]; exact Nat.pow_le_pow_right (by decide) (by omega)))
   rw [e] at e2 ⊢
   simp [hj, h31, hz, show j - 31 < 64 by omega]
  ·have e : (j + 33) % 64 = j + 33 := by omega
   rw [e]
   simp [hj, h31, show j + 33 < 64 by omega]
 ·have hz : v.testBit (j + 33) = false := Nat.testBit_lt_two_pow (Nat.lt_of_lt_of_le h (by rw [show (18446744073709551616 : Nat) = 2 ^ 64 from rfl]; exact Nat.pow_le_pow_right (by decide) (by omega)))
  simp [hj, hz]
theorem rot_lt {v : Nat} (h : v < 18446744073709551616) : rot v < 18446744073709551616 := by
 unfold rot
 have h1 : v * 2 ^ 31 % 2 ^ 64 < 2 ^ 64 := Nat.mod_lt _ (by decide)
 have h2 : v / 2 ^ 33 < 2 ^ 64 := by omega
 exact Nat.or_lt_two_pow h1 h2
theorem mix_lt (h v : Nat) : mix h v < 18446744073709551616 := by
 unfold mix
 apply rot_lt
 have h1 : (h ^^^ v) * golden % 2 ^ 64 < 2 ^ 64 := Nat.mod_lt _ (by decide)
 exact Nat.xor_lt_two_pow h1 (by omega)
def chunks (h : Nat) (s : Str) : Nat := if _h : s = [] then h else chunks (mix h (Cdc.val ((s.take 8).map fun b => b.toNat))) (s.drop 8)
 termination_by s.length
 decreasing_by
  have : s.length ≠ 0 := fun e => _h (List.eq_nil_of_length_eq_zero e)
  rw [List.length_drop]; omega
def text (s : Str) : Nat := chunks s.length s
theorem val_pad (l : List Nat) (n : Nat) : Cdc.val (l ++ List.replicate n 0) = Cdc.val l := by
 induction l with
 |nil =>
  induction n with
  |zero => rfl
  |succ n ih =>
   simp only [List.nil_append] at ih ⊢
   rw [List.replicate_succ]
   show 0 + 256 * Cdc.val (List.replicate n 0) = 0
   rw [ih]; rfl
 |cons x r ih => rw [List.cons_append, Cdc.val, ih]; rfl
theorem val_lt (l : List UInt8) : Cdc.val (l.map fun b => b.toNat) < 256 ^ l.length := by
 induction l with
 |nil => simp [Cdc.val]
 |cons x r ih =>
  rw [List.map_cons, Cdc.val, List.length_cons, Nat.pow_succ]
  have := x.toNat_lt
  omega
theorem text_lt (s : Str) (h : s.length < 18446744073709551616) : text s < 18446744073709551616 := by
 have key : ∀ n (s : Str), s.length ≤ n → ∀ h, h < 18446744073709551616 → chunks h s < 18446744073709551616 := by
  intro n
  induction n with
  |zero =>
   intro s hs h hh
   rw [chunks, dif_pos (List.eq_nil_of_length_eq_zero (by omega))]; exact hh
  |succ n ih =>
   intro s hs h hh
   rw [chunks]
   split
   ·exact hh
   ·rename_i hne
    have : s.length ≠ 0 := fun e => hne (List.eq_nil_of_length_eq_zero e)
    exact ih _ (by rw [List.length_drop]; omega) _ (mix_lt _ _)
 exact key _ _ (Nat.le_refl _) _ h
def attrH (h : Nat) (a : Str × Str) : Nat := mix (mix h (text a.1)) (text a.2)
def own (t : T) : Nat := mix (t.attrs.foldl attrH (mix (mix (mix (IntKind.u64.wrap t.kind).toNat (text t.name)) (text t.text)) t.attrs.length)) t.kids.length
def hT : T → Nat
 |.node k n x ats ks => (ks.attach.map fun ⟨u, _⟩ => hT u).foldl mix (own (.node k n x ats ks))
theorem hT_eq (t : T) : hT t = (t.kids.map hT).foldl mix (own t) := by
 cases t
 rw [hT]
 simp [T.kids]
theorem hT_lt (t : T) : hT t < 18446744073709551616 := by
 rw [hT_eq]
 have key : ∀ (l : List Nat) (h : Nat), h < 18446744073709551616 → l.foldl mix h < 18446744073709551616 := by
  intro l
  induction l with
  |nil => intro h hh; exact hh
  |cons x r ih => intro h _; exact ih _ (mix_lt _ _)
 exact key _ _ (mix_lt _ _)
end Hsh
end
section
open Go.RowKit
structure En where
 par : Int
 dep : Nat
 pl : Nat
 t : T
def goE : List (Nat × (Nat → Int → Nat → Nat → List En)) → Nat → Int → Nat → Nat → List En
 |[], _, _, _, _ => []
 |(s, f) :: r, nx, p, d, i => f nx p d i ++ goE r (nx + s) p d (i + 1)
def T.ents : T → Nat → Int → Nat → Nat → List En
 |.node k n x ats ks, id, p, d, pl => ⟨p, d, pl, .node k n x ats ks⟩ :: goE (ks.attach.map fun ⟨t, _⟩ => (t.size, ents t)) (id + 1) id (d + 1) 0
def kidsE (us : List T) (nx : Nat) (p : Int) (d i : Nat) : List En := goE (us.map fun t => (t.size, t.ents)) nx p d i
theorem T.ents_eq (t : T) (id : Nat) (p : Int) (d pl : Nat) : t.ents id p d pl = ⟨p, d, pl, t⟩ :: kidsE t.kids (id + 1) id (d + 1) 0 := by
 cases t with | node k n x ats ks => rw [T.ents]; simp only [kidsE, T.kids]; congr 1; congr 1; exact List.attach_map_subtype_val (l := ks) ▸ (by simp [List.map_attach_eq_pmap])
theorem kidsE_nil (nx : Nat) (p : Int) (d i : Nat) : kidsE [] nx p d i = [] := rfl
theorem kidsE_cons (u : T) (us : List T) (nx : Nat) (p : Int) (d i : Nat) : kidsE (u :: us) nx p d i = u.ents nx p d i ++ kidsE us (nx + u.size) p d (i + 1) := rfl
theorem kidsE_len' : ∀ (us : List T), (∀ u ∈ us, ∀ id p d pl, (u.ents id p d pl).length = u.size) → ∀ nx p d i, (kidsE us nx p d i).length = (us.map T.size).sum
 |[], _, _, _, _, _ => rfl
 |u :: us, h, nx, p, d, i => by
  rw [kidsE_cons, List.length_append, h u (by simp), kidsE_len' us (fun v hv => h v (by simp [hv]))]; simp
theorem T.ents_len : ∀ (t : T) (id : Nat) (p : Int) (d pl : Nat), (t.ents id p d pl).length = t.size := T.ind' fun t ih id p d pl => by
 rw [T.ents_eq, List.length_cons, kidsE_len' _ ih, T.size_eq]; omega
theorem T.size_pos (t : T) : 1 ≤ t.size := by rw [T.size_eq]; omega
theorem kidsE_par' : ∀ (us : List T) (nx : Nat) (p : Int) (d i : Nat), (∀ u ∈ us, ∀ (id : Nat) (p : Int) (d pl : Nat), ∀ e ∈ (u.ents id p d pl).tail, (id : Int) ≤ e.par ∧ e.par < id + u.size) →
  ∀ e ∈ kidsE us nx p d i, e.par = p ∨ ((nx : Int) ≤ e.par ∧ e.par < nx + (us.map T.size).sum)
 |[], _, _, _, _, _, e, he => by cases he
 |u :: us, nx, p, d, i, h, e, he => by
  rw [kidsE_cons] at he
  simp only [List.map_cons, List.sum_cons]
  rcases List.mem_append.1 he with he | he
  ·rw [T.ents_eq] at he
   rcases List.mem_cons.1 he with rfl | he
   ·exact .inl rfl
   ·have := h u (by simp) nx p d i e (by rw [T.ents_eq]; exact he)
    exact .inr ⟨this.1, by omega⟩
  ·rcases kidsE_par' us (nx + u.size) p d (i + 1) (fun v hv => h v (by simp [hv])) e he with h1 | ⟨h1, h2⟩
   ·exact .inl h1
   ·exact .inr ⟨by omega, by omega⟩
theorem T.ents_par : ∀ (t : T) (id : Nat) (p : Int) (d pl : Nat), ∀ e ∈ (t.ents id p d pl).tail, (id : Int) ≤ e.par ∧ e.par < id + t.size := T.ind' fun t ih id p d pl e he => by
 rw [T.ents_eq, List.tail_cons] at he
 rw [T.size_eq]
 rcases kidsE_par' t.kids (id + 1) id (d + 1) 0 ih e he with h | ⟨h1, h2⟩
 ·omega
 ·omega
theorem kidsE_par (us : List T) (nx : Nat) (p : Int) (d i : Nat) : ∀ e ∈ kidsE us nx p d i, e.par = p ∨ ((nx : Int) ≤ e.par ∧ e.par < nx + (us.map T.size).sum) := kidsE_par' us nx p d i fun u _ => T.ents_par u
def selT (k : Int) (es : List En) : List T := (es.filter fun e => decide (e.par = k)).map (·.t)
theorem selT_app (k : Int) (a b : List En) : selT k (a ++ b) = selT k a ++ selT k b := by simp [selT]
theorem selT_none {k : Int} {es : List En} (h : ∀ e ∈ es, e.par ≠ k) : selT k es = [] := by
 unfold selT; rw [List.filter_eq_nil_iff.2 (fun e he => by simpa using h e he)]; rfl
theorem selT_cons (k : Int) (e : En) (es : List En) : selT k (e :: es) = (if e.par = k then [e.t] else []) ++ selT k es := by
 unfold selT; by_cases h : e.par = k <;> simp [h]
theorem selT_kids : ∀ (us : List T) (nx : Nat) (p : Int) (d i : Nat), p < nx → selT p (kidsE us nx p d i) = us
 |[], _, _, _, _, _ => rfl
 |u :: us, nx, p, d, i, hp => by
  rw [kidsE_cons, selT_app, selT_kids us (nx + u.size) p d (i + 1) (by omega), T.ents_eq, selT_cons, if_pos rfl]
  rw [selT_none (k := p) (fun e he => by
   have := T.ents_par u nx p d i e (by rw [T.ents_eq]; exact he)
   omega)]
  rfl
theorem kidsE_sel : ∀ (us : List T), (∀ u ∈ us, ∀ (id : Nat) (p : Int) (d pl : Nat), p < id → ∀ (j : Nat) (e : En), (u.ents id p d pl)[j]? = some e → selT (id + j : Nat) (u.ents id p d pl) = e.t.kids) →
  ∀ (nx : Nat) (p : Int) (d i : Nat), p < nx → ∀ (j : Nat) (e : En), (kidsE us nx p d i)[j]? = some e → selT (nx + j : Nat) (kidsE us nx p d i) = e.t.kids
 |[], _, _, _, _, _, _, j, e, he => by simp [kidsE_nil] at he
 |u :: us, h, nx, p, d, i, hp, j, e, he => by
  rw [kidsE_cons] at he ⊢
  rw [selT_app]
  by_cases hj : j < u.size
  ·rw [List.getElem?_append_left (by rw [T.ents_len]; exact hj)] at he
   rw [h u (by simp) nx p d i hp j e he, selT_none (es := kidsE us _ _ _ _) (fun f hf => by
    rcases kidsE_par _ _ _ _ _ f hf with h1 | ⟨h1, h2⟩ <;> omega)]
   simp
  ·rw [List.getElem?_append_right (by rw [T.ents_len]; omega), T.ents_len] at he
   rw [selT_none (es := u.ents _ _ _ _) (fun f hf => by
    rw [T.ents_eq] at hf
    rcases List.mem_cons.1 hf with rfl | hf
    ·show p ≠ _; omega
    ·have := T.ents_par u nx p d i f (by rw [T.ents_eq]; exact hf)
     omega)]
   have := kidsE_sel us (fun v hv => h v (by simp [hv])) (nx + u.size) p d (i + 1) (by omega) (j - u.size) e he
   rw [show nx + u.size + (j - u.size) = nx + j by omega] at this
   rw [this]; rfl
theorem T.ents_sel : ∀ (t : T) (id : Nat) (p : Int) (d pl : Nat), p < id → ∀ (j : Nat) (e : En), (t.ents id p d pl)[j]? = some e → selT (id + j : Nat) (t.ents id p d pl) = e.t.kids := T.ind' fun t ih id p d pl hp j e he => by
 rw [T.ents_eq] at he ⊢
 rw [selT_cons]
 cases j with
 |zero =>
  simp only [List.getElem?_cons_zero, Option.some.injEq] at he
  subst he
  rw [if_neg (by show ¬ p = _; omega), Nat.add_zero, selT_kids _ _ _ _ _ (by omega)]; rfl
 |succ j =>
  rw [List.getElem?_cons_succ] at he
  have := kidsE_sel t.kids ih (id + 1) id (d + 1) 0 (by omega) j e he
  rw [show id + 1 + j = id + (j + 1) by omega] at this
  rw [if_neg (by show ¬ p = _; omega), this]; rfl
theorem kidsE_lt' : ∀ (us : List T), (∀ u ∈ us, ∀ (id : Nat) (p : Int) (d pl : Nat), p < id → ∀ (j : Nat) (e : En), (u.ents id p d pl)[j]? = some e → e.par < (id + j : Nat)) →
  ∀ (nx : Nat) (p : Int) (d i : Nat), p < nx → ∀ (j : Nat) (e : En), (kidsE us nx p d i)[j]? = some e → e.par < (nx + j : Nat)
 |[], _, _, _, _, _, _, j, e, he => by simp [kidsE_nil] at he
 |u :: us, h, nx, p, d, i, hp, j, e, he => by
  rw [kidsE_cons] at he
  by_cases hj : j < u.size
  ·rw [List.getElem?_append_left (by rw [T.ents_len]; exact hj)] at he
   exact h u (by simp) nx p d i hp j e he
  ·rw [List.getElem?_append_right (by rw [T.ents_len]; omega), T.ents_len] at he
   have := kidsE_lt' us (fun v hv => h v (by simp [hv])) (nx + u.size) p d (i + 1) (by omega) (j - u.size) e he
   omega
theorem T.ents_lt : ∀ (t : T) (id : Nat) (p : Int) (d pl : Nat), p < id → ∀ (j : Nat) (e : En), (t.ents id p d pl)[j]? = some e → e.par < (id + j : Nat) := T.ind' fun t ih id p d pl hp j e he => by
 rw [T.ents_eq] at he
 cases j with
 |zero =>
  simp only [List.getElem?_cons_zero, Option.some.injEq] at he
  subst he; show p < _; omega
 |succ j =>
  rw [List.getElem?_cons_succ] at he
  have := kidsE_lt' t.kids ih (id + 1) id (d + 1) 0 (by omega) j e he
  omega
def T.flat (t : T) : List En := t.ents 0 (-1) 0 0
theorem T.flat_len (t : T) : t.flat.length = t.size := T.ents_len t _ _ _ _
theorem T.flat_sel (t : T) {k : Nat} {e : En} (h : t.flat[k]? = some e) : selT k t.flat = e.t.kids := by
 have := T.ents_sel t 0 (-1) 0 0 (by omega) k e h
 rwa [Nat.zero_add] at this
theorem T.flat_lt (t : T) {k : Nat} {e : En} (h : t.flat[k]? = some e) : e.par < k := by
 have := T.ents_lt t 0 (-1) 0 0 (by omega) k e h
 rwa [Nat.zero_add] at this
theorem T.flat_par (t : T) {k : Nat} {e : En} (h : t.flat[k + 1]? = some e) : 0 ≤ e.par ∧ e.par < t.size := by
 have := T.ents_par t 0 (-1) 0 0 e (by
  have h' : t.flat.tail[k]? = some e := by rw [List.getElem?_tail]; exact h
  exact List.mem_of_getElem? h')
 omega
theorem T.flat_zero (t : T) : t.flat[0]? = some ⟨-1, 0, 0, t⟩ := by unfold T.flat; rw [T.ents_eq]; rfl
theorem T.flat_drop (t : T) {k : Nat} {e : En} (h : t.flat[k]? = some e) : selT k (t.flat.drop (k + 1)) = e.t.kids := by
 have h1 := t.flat_sel h
 rw [← List.take_append_drop (k + 1) t.flat, selT_app] at h1
 rw [selT_none (es := t.flat.take (k + 1)) (fun f hf => by
  obtain ⟨j, hj, e⟩ := List.getElem_of_mem hf
  have hj' : t.flat[j]? = some f := by
   rw [← e, List.getElem_take, List.getElem?_eq_getElem]
  have := t.flat_lt hj'
  simp at hj
  omega)] at h1
 simpa using h1
def rem : List (T × Int × Nat × Nat) → Nat → List En
 |[], _ => []
 |(t, p, d, pl) :: r, id => t.ents id p d pl ++ rem r (id + t.size)
def pushed (p : Int) (d : Nat) : List T → Nat → List (T × Int × Nat × Nat)
 |[], _ => []
 |u :: us, i => (u, p, d, i) :: pushed p d us (i + 1)
theorem rem_push (p : Int) (d : Nat) (r : List (T × Int × Nat × Nat)) : ∀ (us : List T) (nx i : Nat), rem (pushed p d us i ++ r) nx = kidsE us nx p d i ++ rem r (nx + (us.map T.size).sum)
 |[], nx, i => by simp [pushed, kidsE_nil]
 |u :: us, nx, i => by
  rw [pushed, List.cons_append, rem, rem_push p d r us, kidsE_cons, List.append_assoc]; simp [Nat.add_assoc]
theorem rem_step (t : T) (p : Int) (d pl : Nat) (r : List (T × Int × Nat × Nat)) (id : Nat) : rem ((t, p, d, pl) :: r) id = ⟨p, d, pl, t⟩ :: rem (pushed id (d + 1) t.kids 0 ++ r) (id + 1) := by
 rw [rem, T.ents_eq, rem_push, List.cons_append, T.size_eq, Nat.add_assoc]
theorem pushed_len (p : Int) (d : Nat) : ∀ (us : List T) (i : Nat), (pushed p d us i).length = us.length
 |[], _ => rfl
 |_ :: us, i => by rw [pushed, List.length_cons, pushed_len p d us, List.length_cons]
theorem rem_len : ∀ (st : List (T × Int × Nat × Nat)) (id : Nat), st.length ≤ (rem st id).length
 |[], _ => Nat.le_refl _
 |(t, p, d, pl) :: r, id => by
  rw [rem, List.length_append, T.ents_len, List.length_cons]
  have := rem_len r (id + t.size)
  have := T.size_pos t
  omega
theorem kidsE_dep : ∀ (us : List T), (∀ u ∈ us, ∀ (id : Nat) (p : Int) (d pl : Nat), ∀ e ∈ u.ents id p d pl, e.dep < d + u.size) → ∀ (nx : Nat) (p : Int) (d i : Nat), ∀ e ∈ kidsE us nx p d i, e.dep < d + (us.map T.size).sum
 |[], _, _, _, _, _, e, he => by cases he
 |u :: us, h, nx, p, d, i, e, he => by
  rw [kidsE_cons] at he
  simp only [List.map_cons, List.sum_cons]
  rcases List.mem_append.1 he with he | he
  ·have := h u (by simp) nx p d i e he; omega
  ·have := kidsE_dep us (fun v hv => h v (by simp [hv])) (nx + u.size) p d (i + 1) e he; omega
theorem T.ents_dep : ∀ (t : T) (id : Nat) (p : Int) (d pl : Nat), ∀ e ∈ t.ents id p d pl, e.dep < d + t.size := T.ind' fun t ih id p d pl e he => by
 rw [T.ents_eq] at he
 rw [T.size_eq]
 rcases List.mem_cons.1 he with rfl | he
 ·show d < _; omega
 ·have := kidsE_dep t.kids ih (id + 1) id (d + 1) 0 e he; omega
theorem T.flat_dep (t : T) {e : En} (h : e ∈ t.flat) : e.dep < t.size := by
 have := T.ents_dep t 0 (-1) 0 0 e h; omega
theorem T.flat_bulk (t : T) : ∀ e ∈ t.flat, e.t.bulk ≤ t.bulk := by
 have key : ∀ (t : T) (id : Nat) (p : Int) (d pl : Nat), ∀ e ∈ t.ents id p d pl, e.t.bulk ≤ t.bulk := T.ind' fun t ih id p d pl e he => by
  rw [T.ents_eq] at he
  rcases List.mem_cons.1 he with rfl | he
  ·exact Nat.le_refl _
  ·have go : ∀ (us : List T), (∀ u ∈ us, u ∈ t.kids) → ∀ (nx : Nat) (p : Int) (d i : Nat), e ∈ kidsE us nx p d i → e.t.bulk ≤ t.bulk := by
    intro us
    induction us with
    |nil => intro _ _ _ _ _ he; cases he
    |cons u us ih2 =>
     intro hu nx p d i he
     rw [kidsE_cons] at he
     rcases List.mem_append.1 he with he | he
     ·exact Nat.le_trans (ih u (hu u (by simp)) nx p d i e he) (Nat.le_of_lt (T.kid_bulk (hu u (by simp))))
     ·exact ih2 (fun v hv => hu v (by simp [hv])) _ _ _ _ he
   exact go t.kids (fun u hu => hu) _ _ _ _ he
 exact key t 0 (-1) 0 0
end
section
open Go.RowKit
theorem putAt_right (us : List Value) : ∀ (l m : List Value) (o : Nat), putAt (l ++ m) (l.length + o) us = l ++ putAt m o us := by
 induction us with
 |nil => intro l m o; rfl
 |cons u us ih =>
  intro l m o
  rw [putAt, putAt, List.set_append_right _ _ (by omega), show l.length + o - l.length = o by omega, Nat.add_assoc, ih]
theorem putAt_left (us : List Value) : ∀ (v m : List Value) (o : Nat), o + us.length ≤ v.length → putAt (v ++ m) o us = putAt v o us ++ m := by
 induction us with
 |nil => intro v m o _; rfl
 |cons u us ih =>
  intro v m o h
  simp only [List.length_cons] at h
  rw [putAt, putAt, List.set_append_left _ _ (by omega), ih _ _ _ (by simp; omega)]
theorem putAt_len (us : List Value) : ∀ (v : List Value) (o : Nat), (putAt v o us).length = v.length := by
 induction us with
 |nil => intro v o; rfl
 |cons u us ih => intro v o; rw [putAt, ih, List.length_set]
theorem Own.put {A : List Nat} {w w' : World} {s : Sl} {size g o j : Nat} {T : TypeId} {vs : List (List Value)} {cur us : List Value} (h : Own A w s size T vs) (ha : s.a = some ⟨g, 0, none⟩) (hb : Box w g T cur) (hj : j < vs.length) (ho : o + us.length ≤ size) (hb' : Box w' g T (putAt cur (j * size + o) us)) :
  Own A w' s size T (vs.set j (putAt (vs.getD j []) o us)) := by
 have hl := h.len
 have hv : (vs.getD j []).length = size := h.each _ (by rw [List.getD_eq_getElem?_getD, List.getElem?_eq_getElem hj]; exact List.getElem_mem hj)
 refine ⟨by rw [List.length_set]; exact hl, h.cap, h.most, fun u hu => ?_, .inr ⟨g, putAt cur (j * size + o) us, ha, ?_, hb', ?_, ?_⟩⟩
 ·rcases List.mem_or_eq_of_mem_set hu with hu | hu
  ·exact h.each u hu
  ·rw [hu, putAt_len]; exact hv
 ·rcases h.at_ with e | ⟨g', cur', h1, h2, _⟩
  ·rw [e] at ha; cases ha
  ·rw [ha] at h1; cases h1; exact h2
 all_goals
  rcases h.at_ with e | ⟨g', cur', h1, h2, h3, h4, h5⟩
  ·rw [e] at ha; cases ha
  ·rw [ha] at h1
   cases h1
   have e : cur = cur' := by unfold Box at hb h3; rw [hb] at h3; simpa using h3
   subst e
   first
   |rw [putAt_len]; exact h4
   |have hsplit : vs = vs.take j ++ vs.getD j [] :: vs.drop (j + 1) := by
     rw [List.getD_eq_getElem?_getD, List.getElem?_eq_getElem hj]
     exact (List.take_append_drop j vs).symm.trans (by rw [List.drop_eq_getElem_cons hj]; rfl)
    have hset : vs.set j (putAt (vs.getD j []) o us) = vs.take j ++ putAt (vs.getD j []) o us :: vs.drop (j + 1) := by
     rw [List.set_eq_take_append_cons_drop, if_pos hj]
    have hcur : cur = vs.flatten ++ cur.drop (s.n * size) := by rw [← h5, List.take_append_drop]
    have hjl : (vs.take j).flatten.length = j * size := by
     rw [flatten_len (vs.take j) (fun u hu => h.each u (List.mem_of_mem_take hu)), List.length_take, Nat.min_eq_left (by omega)]
    have hfl : vs.flatten = (vs.take j).flatten ++ (vs.getD j [] ++ (vs.drop (j + 1)).flatten) := by
     conv => lhs; rw [hsplit]
     rw [List.flatten_append, List.flatten_cons]
    have hlen : vs.flatten.length = s.n * size := by rw [flatten_len vs h.each, hl]
    have e1 : cur = (vs.take j).flatten ++ (vs.getD j [] ++ ((vs.drop (j + 1)).flatten ++ cur.drop (s.n * size))) := by
     conv => lhs; rw [hcur, hfl]
     simp only [List.append_assoc]
    have e2 : putAt cur (j * size + o) us = (vs.take j).flatten ++ (putAt (vs.getD j []) o us ++ ((vs.drop (j + 1)).flatten ++ cur.drop (s.n * size))) := by
     conv => lhs; rw [e1]
     rw [← hjl, putAt_right, putAt_left _ _ _ _ (by omega)]
    generalize cur.drop (s.n * size) = rest at e2
    rw [e2, hset, List.flatten_append, List.flatten_cons]
    have e3 : ((vs.take j).flatten ++ (putAt (vs.getD j []) o us ++ (vs.drop (j + 1)).flatten)).length = s.n * size := by
     rw [← hlen, hfl]; simp only [List.length_append, putAt_len]
    have e4 : (vs.take j).flatten ++ (putAt (vs.getD j []) o us ++ ((vs.drop (j + 1)).flatten ++ rest)) = ((vs.take j).flatten ++ (putAt (vs.getD j []) o us ++ (vs.drop (j + 1)).flatten)) ++ rest := by simp only [List.append_assoc]
    rw [← e3, e4, List.take_left]
end
section
open Go.RowKit
theorem Own.pre {A : List Nat} {w : World} {s : Sl} {size : Nat} {T : TypeId} {vs : List (List Value)} (h : Own A w s size T vs) {k : Nat} (hk : k ≤ vs.length) (hne : s ≠ Sl.nil) : Own A w (s.cut size 0 k s.c) size T (vs.take k) := by
 have hl := h.len
 have hc := h.cap
 have ha : (s.cut size 0 k s.c).a = s.a := by
  simp only [Sl.cut, Nat.zero_mul]
  split
  ·rfl
  ·cases s.a with
   |none => rfl
   |some p => simp [Addr.add_zero']
 refine ⟨by simp [Sl.cut]; omega, by simp [Sl.cut]; omega, by have := h.most; simp [Sl.cut]; omega, fun u hu => h.each u (List.mem_of_mem_take hu), .inr ?_⟩
 rcases h.at_ with e | ⟨g, cur, h1, h2, h3, h4, h5⟩
 ·exact absurd e hne
 ·refine ⟨g, cur, by rw [ha, h1], h2, h3, by simpa [Sl.cut] using h4, ?_⟩
  have hsplit : vs.flatten = (vs.take k).flatten ++ (vs.drop k).flatten := by rw [← List.flatten_append, List.take_append_drop]
  have hlen : (vs.take k).flatten.length = k * size := by
   rw [flatten_len _ (fun u hu => h.each u (List.mem_of_mem_take hu)), List.length_take, Nat.min_eq_left hk]
  have : cur.take (k * size) = (cur.take (s.n * size)).take (k * size) := by
   rw [List.take_take, Nat.min_eq_left (Nat.mul_le_mul_right _ (by omega))]
  simp only [Sl.cut, Nat.sub_zero]
  rw [this, h5, hsplit, ← hlen, List.take_left]
theorem Own.one {A : List Nat} {w : World} {B : Nat} {S : TypeId} {cs : List Value} (h : Box w B S cs) (hA : B ∉ A) : Own A w (Sl.mk (some ⟨B, 0, none⟩) 1 1) cs.length S [cs] :=
 ⟨rfl, Nat.le_refl _, by simp [maxLen], by simp, .inr ⟨B, cs, rfl, hA, h, by simp, by simp⟩⟩
def stc (x : Addr × Int × Nat × Nat) : List Value := [.pointer (some x.1), .int .i64 x.2.1, .int .i64 (x.2.2.1 : Int), .int .i64 (x.2.2.2 : Int)]
theorem ones_stc (x : Addr × Int × Nat × Nat) : ∀ u ∈ [stc x].flatten, u.oneCell' = true := by intro u hu; simp [stc] at hu; rcases hu with rfl | rfl | rfl | rfl <;> rfl
def AtT (A : List Nat) (w : World) (p : Addr) (t : T) : Prop := p.block ∉ A ∧ ∃ sa sk : Sl, Cells w p (tc t (sa, sk)) ∧ RdT A w t sa sk
theorem AtT.chg {A F : List Nat} {w w' : World} {p : Addr} {t : T} (h : AtT A w p t) (c : Chg F w w') (hF : ∀ b ∈ F, b ∈ A) : AtT A w' p t := by
 obtain ⟨h1, sa, sk, h2, h3⟩ := h
 exact ⟨h1, sa, sk, h2.chg c fun hm => h1 (hF _ hm), RdT.chg c hF h3⟩
theorem AtT.ext {A : List Nat} {w w' : World} {p : Addr} {t : T} (h : AtT A w p t) (c : Ext w w') : AtT A w' p t := h.chg c (by simp)
theorem AtT.less {A A' : List Nat} {w : World} {p : Addr} {t : T} (h : AtT A w p t) (hA : ∀ b ∈ A', b ∈ A) : AtT A' w p t := by
 obtain ⟨h1, sa, sk, h2, h3⟩ := h
 exact ⟨fun hm => h1 (hA _ hm), sa, sk, h2, h3.less hA⟩
theorem AtT.lt {A : List Nat} {w : World} {p : Addr} {t : T} (h : AtT A w p t) : p.block < w.heap.size := by
 obtain ⟨_, sa, sk, h2, _⟩ := h
 have := World.block_lt_of_cell? w _ (h2 0 _ rfl)
 simpa [Addr.add_block] using this
theorem RdT.wide {A A' : List Nat} {w : World} {t : T} {sa sk : Sl} (h : RdT A w t sa sk) (hA : ∀ b ∈ A', b ∈ A ∨ w.heap.size ≤ b) : RdT A' w t sa sk := by
 have h2 : ∀ L : List Nat, (∀ b ∈ L, b ∈ A ∨ w.heap.size ≤ b) → RdT (L ++ A) w t sa sk := fun L => by
  induction L with
  |nil => intro _; exact h
  |cons b L ih =>
   intro hL
   have h3 := ih (fun b hb => hL b (List.mem_cons_of_mem _ hb))
   rcases hL b (List.mem_cons_self ..) with hm | hm
   ·refine h3.less fun x hx => ?_
    rcases List.mem_append.1 hx with hx | hx
    ·rcases List.mem_cons.1 hx with e | hx
     ·subst e; exact List.mem_append_right _ hm
     ·exact List.mem_append_left _ hx
    ·exact List.mem_append_right _ hx
   ·exact h3.fresh hm
 exact (h2 A' hA).less fun b hb => List.mem_append_left _ hb
theorem AtT.wide {A A' : List Nat} {w : World} {p : Addr} {t : T} (h : AtT A w p t) (hA : ∀ b ∈ A', b ∈ A ∨ w.heap.size ≤ b) : AtT A' w p t := by
 have hl := h.lt
 obtain ⟨h1, sa, sk, h2, h3⟩ := h
 exact ⟨fun hm => (hA _ hm).elim h1 (fun h => by omega), sa, sk, h2, h3.wide hA⟩
def pushedA (pk : Addr) (p : Int) (d : Nat) : List T → Nat → List (Addr × T × Int × Nat × Nat)
 |[], _ => []
 |u :: us, i => (pk.add (i * 5), u, p, d, i) :: pushedA pk p d us (i + 1)
theorem pushedA_map (pk : Addr) (p : Int) (d : Nat) : ∀ (us : List T) (i : Nat), (pushedA pk p d us i).map (·.2) = pushed p d us i
 |[], _ => rfl
 |u :: us, i => by rw [pushedA, List.map_cons, pushedA_map pk p d us, pushed]
theorem pushedA_len (pk : Addr) (p : Int) (d : Nat) : ∀ (us : List T) (i : Nat), (pushedA pk p d us i).length = us.length
 |[], _ => rfl
 |u :: us, i => by rw [pushedA, List.length_cons, pushedA_len pk p d us, List.length_cons]
theorem pushedA_get (pk : Addr) (p : Int) (d : Nat) : ∀ (us : List T) (i j : Nat), j < us.length → (pushedA pk p d us i)[j]? = some (pk.add ((i + j) * 5), us.getD j T.nul, p, d, i + j)
 |u :: us, i, 0, _ => rfl
 |u :: us, i, j + 1, h => by
  rw [pushedA, List.getElem?_cons_succ, pushedA_get pk p d us (i + 1) j (by simpa using h), List.getD_cons_succ, show i + 1 + j = i + (j + 1) by omega]
theorem pushedA_drop (pk : Addr) (p : Int) (d : Nat) (us : List T) {j : Nat} (h : j < us.length) : (pushedA pk p d us 0).drop j = (pk.add (j * 5), us.getD j T.nul, p, d, j) :: (pushedA pk p d us 0).drop (j + 1) := by
 have h1 := pushedA_get pk p d us 0 j h
 rw [Nat.zero_add] at h1
 have hlt : j < (pushedA pk p d us 0).length := by rw [pushedA_len]; exact h
 rw [List.drop_eq_getElem_cons hlt]
 rw [List.getElem?_eq_getElem hlt] at h1
 rw [Option.some.inj h1]
def stx (x : Addr × T × Int × Nat × Nat) : List Value := stc (x.1, x.2.2)
theorem last_getD {α : Type} (l : List α) (x d : α) : (l ++ [x]).getD l.length d = x := by simp [List.getD_eq_getElem?_getD]
theorem walkEach {f : FuncId} {fst cap : Array Value} (hbody : Body Tryz.prog f) {t : T} (hb : t.bulk ≤ 1099511627776) {p : Addr} {w : World} {H0 : List Nat} (hat : AtT H0 w p t)
  (Φ : List En → List Nat → World → Prop) (hΦs : ∀ es H w w' F, Φ es H w → Chg F w w' → (∀ b ∈ F, b ∉ H) → Φ es H w') (hΦb : ∀ es H w, Φ es H w → ∀ b ∈ H, b < w.heap.size)
  (step : ∀ es e rest q H w1, t.flat = es ++ e :: rest → Φ es H w1 → AtT H w1 q e.t → Calls Tryz.prog f (fst ++ #[.int .i64 (es.length : Int), .agg #[.pointer (some q), .int .i64 e.par, .int .i64 (e.dep : Int), .int .i64 (e.pl : Int)]] ++ cap) w1
   (Ret fun v w2 => v = .bool true ∧ ∃ H', Φ (es ++ [e]) H' w2 ∧ Chg H w1 w2 ∧ ∀ b ∈ H', b ∈ H ∨ w1.heap.size ≤ b)) (h0 : Φ [] H0 w) :
  Calls Tryz.prog 153 #[.pointer (some p), .func (.func f) fst cap] w (Ret fun v w' => v = .tuple #[] ∧ ∃ H', Φ t.flat H' w' ∧ Chg H0 w w' ∧ ∀ b ∈ H', b ∈ H0 ∨ w.heap.size ≤ b) := by
 refine walk_each.ok _ _ ?_
 unfold walk_each.vc
 intro w1 B5 hN5 hE1 hB5
 have hsz := T.size_bulk t
 have hHw := hΦb _ _ _ h0
 refine ⟨fun s id w' => ∃ (st : List (Addr × T × Int × Nat × Nat)) (es : List En) (H : List Nat), id = (es.length : Int) ∧ t.flat = es ++ rem (st.map (·.2)) es.length ∧ Own (H ++ List.range w.heap.size) w' s 4 207 ((st.map stx).reverse) ∧ s.a ≠ none ∧ Φ es H w' ∧ Chg H0 w w' ∧ (∀ b ∈ H, b ∈ H0 ∨ w.heap.size ≤ b) ∧ (∀ x ∈ st, AtT H0 w x.1 x.2.1), fun _ id _ => t.size - id.toNat,
  ⟨[(p, t, -1, 0, 0)], [], H0, rfl, by simp [rem, T.flat], Own.one (show Box w1 B5 _ (stx (p, t, -1, 0, 0)) from hB5) (fun hm => ?_), by simp, hΦs _ _ _ _ _ h0 hE1 (by simp), hE1.mono (by simp), fun b hb => .inl hb, by simpa using hat⟩, ?_⟩
 ·have := hN5.ge
  rcases List.mem_append.1 hm with hm | hm
  ·have := hHw _ hm; omega
  ·have := List.mem_range.1 hm; omega
 rintro s id w2 ⟨st, es, H, rfl, hfl, hOwn, hne, hΦ, hC, hH, hst⟩
 have hn := hOwn.len
 have hcap := hOwn.cap
 have hmost := hOwn.most
 simp only [List.length_reverse, List.length_map] at hn
 simp only [maxLen] at hmost
 have hsne : s ≠ Sl.nil := fun e => hne (by rw [e]; first | done | rfl)
 refine ⟨fun hpos => ?_, fun hz => ?_⟩
 ·cases st with
  |nil => simp at hn; omega
  |cons x st' =>
   obtain ⟨q, u, par, dep, pl⟩ := x
   simp only [List.length_cons] at hn
   have hrev : (((q, u, par, dep, pl) :: st').map stx).reverse = (st'.map stx).reverse ++ [stx (q, u, par, dep, pl)] := by simp
   rw [hrev] at hOwn
   have hlen' : ((st'.map stx).reverse).length = s.n - 1 := by simp; omega
   obtain ⟨ps, hps, hpsb, hcell, _⟩ := hOwn.row.at_ (s.n - 1) (by simp; omega)
   rw [← hlen', last_getD, hlen'] at hcell
   have hidx : ((s.n : Int) - 1).toNat = s.n - 1 := by omega
   have hel : es.length + 1 ≤ t.size := by
    have := congrArg List.length hfl
    rw [T.flat_len, List.length_append] at this
    simp only [List.map_cons, rem, List.length_append, T.ents_len] at this
    have := T.size_pos u
    omega
   rw [hidx]
   have hOwn1 := hOwn.pre (k := s.n - 1) (by simp; omega) hsne
   rw [show ((st'.map stx).reverse ++ [stx (q, u, par, dep, pl)]).take (s.n - 1) = (st'.map stx).reverse by rw [← hlen', List.take_left]] at hOwn1
   refine ⟨⟨by omega, by omega⟩, ⟨⟨by omega, by omega⟩, ps, hps, some q, par, (dep : Int), (pl : Int), hcell, ⟨by omega, by omega⟩, ⟨by omega, by omega⟩, f, fst, cap, rfl, fun w3 B3 hN3 hE3 => ⟨hbody, ?_⟩⟩⟩
   have hat1 := hst (q, u, par, dep, pl) (by simp)
   have hC3 : Chg H0 w w3 := hC.more hE3
   have hfl2 : t.flat = (es ++ [⟨par, dep, pl, u⟩]) ++ rem (pushed es.length (dep + 1) u.kids 0 ++ st'.map (·.2)) (es.length + 1) := by
    rw [hfl, List.map_cons, rem_step]; simp
   have hΦ3 := hΦs _ _ _ _ _ hΦ hE3 (by simp)
   have hatw : ∀ (H1 : List Nat) (w' : World), Chg H0 w w' → (∀ b ∈ H1, b ∈ H0 ∨ w.heap.size ≤ b) → AtT H1 w' q u := fun H1 w' hc hh =>
    AtT.less ((hat1.wide (A' := H1 ++ H0) (fun b hb => (List.mem_append.1 hb).elim (hh b) .inl)).chg hc (fun b hb => List.mem_append_right _ hb)) (fun b hb => List.mem_append_left _ hb)
   have hcall := step es ⟨par, dep, pl, u⟩ (rem (pushed es.length (dep + 1) u.kids 0 ++ st'.map (·.2)) (es.length + 1)) q H w3 (by rw [hfl2]; simp [List.append_assoc]) hΦ3 (hatw H w3 hC3 hH)
   refine Ret.mono hcall ?_
   rintro v w4 ⟨rfl, H', hΦ4, hC4, hH'⟩
   have hHlt := hΦb _ _ _ hΦ
   refine ⟨hC4.noTouch _ (fun b hb hm => ?_), hC4.size, true, rfl, fun h => by simp at h, fun _ => ?_⟩
   ·simp at hb; subst hb
    have := hHlt _ hm; have := hN3.ge; omega
   have hC04 : Chg H0 w w4 := hC3.more' hC4 hH
   have hH4 : ∀ b ∈ H', b ∈ H0 ∨ w.heap.size ≤ b := fun b hb => (hH' b hb).elim (hH b) (fun h => .inr (Nat.le_trans hC3.size h))
   have hH4lt := hΦb _ _ _ hΦ4
   obtain ⟨hqb, sa, sk, hqc, hqr⟩ := hat1
   replace hqr : RdT H0 w u sa sk := hqr
   replace hqb : q.block ∉ H0 := hqb
   replace hqc : Cells w q (tc u (sa, sk)) := hqc
   have hcp := hqr.caps
   have hnk := hqr.nkids
   have hmk := hcp.2.2.2
   simp only [maxLen] at hmk
   have hkc : ∀ w', Chg H0 w w' → w'.cell? (q.add 4) = some sk.v := fun w' hc => hc.cell (hqc 4 _ rfl) (by rw [Addr.add_block]; exact hqb)
   have hdep : (dep : Int) + 1 = ((dep + 1 : Nat) : Int) := by omega
   have hOwn3 : Own (H' ++ List.range w.heap.size) w4 (s.cut 4 0 (s.n - 1) s.c) 4 207 ((st'.map stx).reverse) := by
    have h3 := hOwn1.chg hE3 (by simp)
    have h4 := h3.keep hC4 (fun b hb hm => (h3.blk b hb).1 (List.mem_append_left _ hm))
    refine h4.avoid fun b hb hm => ?_
    rcases List.mem_append.1 hm with hm | hm
    ·rcases hH' b hm with h | h
     ·exact (h3.blk b hb).1 (List.mem_append_left _ h)
     ·have := (h3.blk b hb).2; omega
    ·exact (h3.blk b hb).1 (List.mem_append_right _ hm)
   have hcutne : (s.cut 4 0 (s.n - 1) s.c).a ≠ none := by
    simp only [Sl.cut]; split
    ·exact hne
    ·cases h : s.a with
     |none => exact absurd h hne
     |some _ => simp
   have hdlt : dep + 1 ≤ 1099511627776 := by
    have := T.flat_dep t (e := ⟨par, dep, pl, u⟩) (by rw [hfl2]; simp)
    simp only at this; omega
   have hroom : u.kids.length + st'.length ≤ t.size := by
    have h1 := congrArg List.length hfl2
    have h2 := rem_len (pushed es.length (dep + 1) u.kids 0 ++ st'.map (·.2)) (es.length + 1)
    rw [T.flat_len, List.length_append] at h1
    rw [List.length_append, pushed_len, List.length_map] at h2
    omega
   have hB3lt : B3 < w4.heap.size := Nat.lt_of_lt_of_le hN3.lt hC4.size
   have hB3s : B3 ∉ (s.cut 4 0 (s.n - 1) s.c).blk := fun hm => by
    have := (hOwn1.blk B3 hm).2; have := hN3.ge; omega
   refine ⟨q, rfl, sk, hkc w4 hC04, ⟨by omega, by omega⟩, fun s i w' => ∃ k : Nat, i + 1 = (k : Int) ∧ k ≤ u.kids.length ∧ Own (B3 :: (H' ++ List.range w.heap.size)) w' s 4 207 ((((pushedA (sk.a.getD ⟨0, 0, none⟩) es.length (dep + 1) u.kids 0).drop k ++ st').map stx).reverse) ∧ s.a ≠ none ∧ Φ (es ++ [⟨par, dep, pl, u⟩]) H' w' ∧ Chg H0 w w' ∧ w4.heap.size ≤ w'.heap.size, fun _ i _ => (i + 1).toNat, ⟨u.kids.length, by omega, Nat.le_refl _, ?_, hcutne, hΦ4, hC04, Nat.le_refl _⟩, ?_⟩
   ·rw [List.drop_of_length_le (by rw [pushedA_len]; exact Nat.le_refl _), List.nil_append]; exact hOwn3.cons hB3s
   rintro s5 i w5 ⟨k, hik, hk, hO5, hne5, hΦ5, hC5, hsz5⟩
   refine ⟨fun hi w6 hE6 => ?_, fun hi => ?_⟩
   ·obtain ⟨j, rfl⟩ : ∃ j : Nat, i = (j : Int) := ⟨i.toNat, by omega⟩
    have hj : k = j + 1 := by omega
    subst hj
    have hju : j < u.kids.length := by omega
    obtain ⟨pk, sa', sk', hpk, hpkb, hkcell, hkr⟩ := hqr.kid hju
    have hC6 : Chg H0 w w6 := hC5.more hE6
    refine ⟨q, rfl, sk, hkc w6 hC6, pk, ⟨⟨by omega, by omega⟩, hpk⟩, ⟨by omega, by omega⟩, fun w7 B7 hE7 hB7 hbox _ => ?_⟩
    rw [Int.toNat_natCast] at hbox
    have hO7 := (hO5.ext hE6).ext hE7
    have hC7 : Chg H0 w w7 := hC6.more hE7
    have hn5 := hO5.len
    have hbox' : Box w7 B7 207 (stx (pk.add (j * 5), u.kids.getD j T.nul, (es.length : Int), dep + 1, j)) := by
     rw [hdep] at hbox; exact hbox
    simp only [List.length_reverse, List.length_map, List.length_append, List.length_drop, pushedA_len] at hn5
    refine App.runK Tryz.underlying228 ti_207 rfl (by decide) (.inl hO7) (fun b hb => ?_) (Own.one (A := []) hbox' (by simp)).row (ones_stc _) (by simp) ?_ ?_ ?_ fun s8 w8 hO8 hC8 hb8 => ?_
    ·rcases List.mem_cons.1 hb with rfl | hb
     ·exact Nat.lt_of_lt_of_le hB3lt (Nat.le_trans hsz5 (Nat.le_trans hE6.size hE7.size))
     ·rcases List.mem_append.1 hb with hb | hb
      ·have := (hΦb _ _ _ hΦ5) b hb; have := hE6.size; have := hE7.size; omega
      ·have := List.mem_range.1 hb; have := hC7.size; omega
    ·simp only [maxLen, List.length_singleton]; omega
    ·simp only [List.length_singleton]; omega
    ·intro b hb; simp at hb; subst hb; simp
    ·refine ⟨s8, rfl, ⟨by omega, by omega⟩, fun w9 hE9 => ⟨⟨j, by omega, by omega, ?_, ?_, ?_, ?_, ?_⟩, by dsimp only; omega⟩⟩
     ·have e : ((pushedA (sk.a.getD ⟨0, 0, none⟩) es.length (dep + 1) u.kids 0).drop j ++ st').map stx = stx (pk.add (j * 5), u.kids.getD j T.nul, (es.length : Int), dep + 1, j) :: ((pushedA (sk.a.getD ⟨0, 0, none⟩) es.length (dep + 1) u.kids 0).drop (j + 1) ++ st').map stx := by
       rw [pushedA_drop _ _ _ _ hju, hpk]; rfl
      rw [e, List.reverse_cons]
      exact hO8.chg hE9 (by simp)
     ·rcases hO8.at_ with h | ⟨g, cur, h1, _⟩
      ·have := hO8.len; rw [h] at this; simp [Sl.nil] at this
      ·rw [h1]; simp
     ·exact hΦs _ _ _ _ _ (hΦs _ _ _ _ _ (hΦs _ _ _ _ _ (hΦs _ _ _ _ _ hΦ5 hE6 (by simp)) hE7 (by simp)) hC8 fun b hb hm => (hO7.blk b (Sl.own_blk hb)).1 (by simp [hm])) hE9 (by simp)
     ·refine (hC7.more' hC8 fun b hb => .inr ?_).more hE9
      have := (hO7.blk b (Sl.own_blk hb)).1
      simp at this; omega
     ·exact Nat.le_trans hsz5 (Nat.le_trans hE6.size (Nat.le_trans hE7.size (Nat.le_trans hC8.size hE9.size)))
   ·have hk0 : k = 0 := by omega
    subst hk0
    rw [List.drop_zero] at hO5
    replace hO5 := hO5.less (A' := H' ++ List.range w.heap.size) (fun b hb => List.mem_cons_of_mem _ hb)
    refine ⟨⟨by omega, by omega⟩, ⟨pushedA (sk.a.getD ⟨0, 0, none⟩) es.length (dep + 1) u.kids 0 ++ st', es ++ [⟨par, dep, pl, u⟩], H', by simp, ?_, hO5, hne5, hΦ5, hC5, hH4, fun x hx => ?_⟩, ?_⟩
    ·rw [List.map_append, pushedA_map, List.length_append]; exact hfl2
    ·rcases List.mem_append.1 hx with hx | hx
     ·obtain ⟨j, hj, rfl⟩ := List.getElem_of_mem hx
      rw [pushedA_len] at hj
      have hg := pushedA_get (sk.a.getD ⟨0, 0, none⟩) es.length (dep + 1) u.kids 0 j hj
      rw [List.getElem?_eq_getElem (by rw [pushedA_len]; exact hj)] at hg
      rw [Option.some.inj hg]
      obtain ⟨pk, sa', sk', hpk, hpkb, hkcell, hkr⟩ := hqr.kid hj
      rw [hpk, Nat.zero_add]
      exact ⟨by simp only [Option.getD_some, Addr.add_block]; exact hpkb, sa', sk', hkcell, hkr⟩
     ·exact hst x (List.mem_cons_of_mem _ hx)
    ·dsimp only; omega
 ·have hs0 : st = [] := by cases st with
   |nil => rfl
   |cons x r => simp at hn; omega
  subst hs0
  simp only [List.map_nil, rem, List.append_nil] at hfl
  refine ⟨rfl, H, ?_, hC, hH⟩
  rw [hfl]; exact hΦ
def itc (e : En) (a : Sl) (z h : Nat) : List Value := [.int .i64 e.par, .int .i64 (z : Int), .int .i64 (e.dep : Int), .int .i64 (h : Int), .int .i64 (e.pl : Int), .int .i64 e.t.kind, .string (Bs e.t.name), .string (Bs e.t.text), a.v, Sl.nil.v]
theorem ones_ic (e : En) (a : Sl) (z h : Nat) : ∀ u ∈ [itc e a z h].flatten, u.oneCell' = true := by
 intro u hu; simp [itc] at hu; rcases hu with rfl | rfl | rfl | rfl | rfl | rfl | rfl | rfl | rfl | rfl <;> rfl
def icl (es : List En) (al : List Sl) (z h : Nat → Nat) : List (List Value) := (List.range es.length).map fun i => itc (es.getD i ⟨0, 0, 0, T.nul⟩) (al.getD i Sl.nil) (z i) (h i)
theorem cloneAttrs {A : List Nat} {w : World} {s : Sl} {l : List (Str × Str)} (h : Row A w s 2 (l.map ac)) (hb : l.length ≤ 1099511627776) :
  Calls Tryz.prog 155 #[s.v] w (Ret fun v w' => Ext w w' ∧ ∃ s' : Sl, v = s'.v ∧ Own (List.range w.heap.size) w' s' 2 91 (l.map ac)) := by
 refine slices_Clone__api_Attr_api_Attr_.ok _ ?_
 unfold slices_Clone__api_Attr_api_Attr_.vc
 have hl := h.len
 simp only [List.length_map] at hl
 refine ⟨fun hn => ⟨Chg.refl _ _, Sl.nil, rfl, ?_⟩, fun hn w1 B hN hE hB => ?_⟩
 ·have : l = [] := by
   cases l with
   |nil => rfl
   |cons x r =>
    obtain ⟨p, hp, _⟩ := h.at_ 0 (by simp)
    rw [hp] at hn; simp at hn
  subst this; exact Own.nil _ _ _ _
 ·have hown : Own (List.range w.heap.size) w1 (Sl.mk (some ⟨B, 0, none⟩) 0 0) 2 91 [] :=
   ⟨rfl, Nat.le_refl _, by simp, by simp, .inr ⟨B, [], rfl, by have := hN.ge; simp; omega, hB, by simp, by simp⟩⟩
  cases hx : l with
  |nil =>
   have e := append_none (P := Tryz.prog) (w := w1) (s := Sl.mk (some ⟨B, 0, none⟩) 0 0) (x := s) (t := 36) (ty := 36) Tryz.underlying36 ti_91 (Nat.le_refl _) (by rw [hl, hx]; rfl)
   exact ⟨_, _, e, fun b hb => by simp at hb, Nat.le_refl _, _, rfl, hE, _, rfl, hown⟩
  |cons x r =>
   rw [← hx]
   refine App.runK Tryz.underlying36 ti_91 rfl (by decide) (.inl hown) (fun b hb => Nat.lt_of_lt_of_le (List.mem_range.1 hb) hE.size) ((h.ext hE).less (by simp)) (ones_acs l) (by rw [hx]; simp) (by simp [maxLen]; omega) (by simp; omega) (by simp) fun s' w' ho hc hb => ⟨s', rfl, ?_, s', rfl, by simpa using ho⟩
   exact hE.more (hc.mono (by simp [Sl.own]))
theorem icl_snoc (es : List En) (al : List Sl) (z h : Nat → Nat) (e : En) (a : Sl) (hl : al.length = es.length) : icl (es ++ [e]) (al ++ [a]) z h = icl es al z h ++ [itc e a (z es.length) (h es.length)] := by
 unfold icl
 rw [List.length_append, List.length_singleton, List.range_succ, List.map_append]
 congr 1
 ·refine List.map_congr_left fun i hi => ?_
  have hi' := List.mem_range.1 hi
  simp only [List.getD_eq_getElem?_getD]
  rw [List.getElem?_append_left hi', List.getElem?_append_left (by omega)]
 ·simp only [List.map_cons, List.map_nil, List.getD_eq_getElem?_getD]
  rw [List.getElem?_append_right (Nat.le_refl _), List.getElem?_append_right (by omega), hl]; simp
theorem icl_len (es : List En) (al : List Sl) (z h : Nat → Nat) : (icl es al z h).length = es.length := by simp [icl]
theorem icl_get (es : List En) (al : List Sl) (z h : Nat → Nat) {i : Nat} (hi : i < es.length) : (icl es al z h).getD i [] = itc (es.getD i ⟨0, 0, 0, T.nul⟩) (al.getD i Sl.nil) (z i) (h i) := by
 simp [icl, List.getD_eq_getElem?_getD, hi]
def FlatK (B : Nat) (lo : Nat) (es : List En) (H : List Nat) (w : World) : Prop := ∃ (s : Sl) (al : List Sl), H = B :: (s.blk ++ al.flatMap Sl.blk) ∧ Box w B 158 [s.v] ∧ al.length = es.length ∧ Own (B :: List.range lo) w s 10 161 (icl es al (fun _ => 1) (fun _ => 1)) ∧
 (∀ (i : Nat) (e : En) (a : Sl), es[i]? = some e → al[i]? = some a → ∃ lo', Own (List.range lo') w a 2 91 (e.t.attrs.map ac) ∧ lo ≤ lo' ∧ B < lo' ∧ ∀ b ∈ s.blk, b ∉ a.blk) ∧ lo ≤ w.heap.size
theorem FlatK.lt {B lo : Nat} {es : List En} {H : List Nat} {w : World} (h : FlatK B lo es H w) : ∀ b ∈ H, b < w.heap.size := by
 obtain ⟨s, al, rfl, hB, hl, ho, hr, hlo⟩ := h
 intro b hb
 rcases List.mem_cons.1 hb with rfl | hb
 ·exact hB.lt
 ·rcases List.mem_append.1 hb with hb | hb
  ·exact (ho.blk b hb).2
  ·obtain ⟨a, ha, hb⟩ := List.mem_flatMap.1 hb
   obtain ⟨i, hi, e⟩ := List.getElem_of_mem ha
   obtain ⟨lo', h1, _⟩ := hr i _ a (List.getElem?_eq_getElem (by omega)) (by rw [List.getElem?_eq_getElem hi, e])
   exact (h1.blk b hb).2
theorem FlatK.chg {B lo : Nat} {es : List En} {H : List Nat} {w w' : World} {F : List Nat} (h : FlatK B lo es H w) (c : Chg F w w') (hF : ∀ b ∈ F, b ∉ H) : FlatK B lo es H w' := by
 obtain ⟨s, al, rfl, hB, hl, ho, hr, hlo⟩ := h
 refine ⟨s, al, rfl, hB.keep c (fun hm => hF _ hm (by simp)), hl, ho.keep c (fun b hb hm => hF b hm (by simp [hb])), fun i e a he ha => ?_, Nat.le_trans hlo c.size⟩
 obtain ⟨lo', h1, h2, h3, h4⟩ := hr i e a he ha
 exact ⟨lo', h1.keep c (fun b hb hm => hF b hm (List.mem_cons_of_mem _ (List.mem_append_right _ (List.mem_flatMap.2 ⟨a, List.mem_of_getElem? ha, hb⟩)))), h2, h3, h4⟩
theorem flatStep {B lo : Nat} {es : List En} {e : En} {H : List Nat} {w : World} {q : Addr} (h : FlatK B lo es H w) (hat : AtT H w q e.t) (hes : es.length ≤ 1000000000) (heb : e.t.bulk ≤ 1099511627776) (id : Int) :
  Calls Tryz.prog 154 (#[] ++ #[.int .i64 id, .agg #[.pointer (some q), .int .i64 e.par, .int .i64 (e.dep : Int), .int .i64 (e.pl : Int)]] ++ #[.pointer (some ⟨B, 0, none⟩)]) w
   (Ret fun v w2 => v = .bool true ∧ ∃ H', FlatK B lo (es ++ [e]) H' w2 ∧ Chg H w w2 ∧ ∀ b ∈ H', b ∈ H ∨ w.heap.size ≤ b) := by
 have hHlt := h.lt
 obtain ⟨s, al, rfl, hB, hl, ho, hr, hlo⟩ := h
 obtain ⟨hqb, sa, sk, hqc, hqr⟩ := hat
 refine walk_Flat_1.ok id (some q) e.par (e.dep : Int) (e.pl : Int) ⟨B, 0, none⟩ ?_
 unfold walk_Flat_1.vc
 have hla : e.t.attrs.length ≤ 1099511627776 := by have := T.slots_bulk e.t; have := T.slots_eq e.t; omega
 refine ⟨q, rfl, fun w1 B1 hN1 hE1 => ⟨e.t.kind, e.t.name, e.t.text, sa, sk, hqc.ext hE1, fun w2 B2 hN2 hE2 => ?_⟩⟩
 refine CallK.ext (cloneAttrs ((hqr.ext (hE1.trans hE2)).attrs) hla) ?_
 rintro v w3 hE3 ⟨sc, rfl, hsc⟩
 refine ⟨sc, rfl, fun w4 hC4 => ?_⟩
 have hE02 : Ext w w2 := hE1.trans hE2
 have hB2 : w.heap.size ≤ B2 := Nat.le_trans hE1.size hN2.ge
 have hE04 : Ext w w4 := Chg.fresh (hE02.trans hE3) hC4 (by simpa using hB2)
 have hsc4 : Own (List.range w2.heap.size) w4 sc 2 91 (e.t.attrs.map ac) := hsc.chg hC4 (by intro b hb; simp at hb; subst hb; exact List.mem_range.2 hN2.lt)
 refine ⟨s, (hB.ext hE04).cell 0 _ rfl, fun w5 B5 hN5 hE5 hbox => ?_⟩
 have hE05 := hE04.trans hE5
 have hn := ho.len
 rw [icl_len] at hn
 have hbox' : Box w5 B5 161 (itc e sc 1 1) := hbox
 have ho5 : Own (B1 :: B2 :: (B :: List.range lo)) w5 s 10 161 (icl es al (fun _ => 1) (fun _ => 1)) :=
  ((ho.ext hE05).cons (fun hm => by have := (ho.blk _ hm).2; omega)).cons (fun hm => by have := (ho.blk _ hm).2; have := hN1.ge; omega)
 have hB5lt : B < w.heap.size := hB.lt
 refine App.runK Tryz.underlying158 ti_161 rfl (by decide) (.inl ho5) (fun b hb => ?_) (Own.one (A := []) hbox' (by simp)).row (ones_ic _ _ _ _) (by simp) (by simp only [maxLen, List.length_singleton]; omega) (by simp only [List.length_singleton]; omega) (by intro b hb; simp at hb; rcases hb with rfl | rfl <;> simp) fun s' w6 ho6 hC6 hb6 => ?_
 ·have h1 := hN1.lt; have h2 := hN2.lt; have h3 := hE2.size; have h4 := hE3.size; have h5 := hC4.size; have h6 := hE5.size
  simp only [List.mem_cons, List.mem_range] at hb
  rcases hb with rfl | rfl | rfl | hb <;> omega
 have hsz5 := hE05.size
 have hBs : B ∉ s.own := fun hm => (ho.blk B (Sl.own_blk hm)).1 (by simp)
 have hB6 : Box w6 B 158 [s.v] := (hB.ext hE05).keep hC6 hBs
 refine ⟨s', rfl, B, 0, 158, [s.v], rfl, hB6, by simp, fun b hb => ?_, fun w7 hC7 hB7 => ⟨rfl, B :: (s'.blk ++ (al ++ [sc]).flatMap Sl.blk), ?_, ?_, ?_⟩⟩
 ·simp at hb; have := hN1.ge; rcases hb with rfl | rfl <;> omega
 ·have hBs' : B ∉ s'.blk := fun hm => (ho6.blk B hm).1 (by simp)
  refine ⟨s', al ++ [sc], rfl, hB7, by simp [hl], ?_, fun i f a hf ha => ?_, ?_⟩
  ·rw [icl_snoc _ _ _ _ _ _ hl]
   exact (ho6.less (A' := B :: List.range lo) (fun b hb => List.mem_cons_of_mem _ (List.mem_cons_of_mem _ hb))).keep hC7 (fun b hb hm => hBs' (by simp at hm; rwa [← hm]))
  ·by_cases hi : i < es.length
   ·rw [List.getElem?_append_left hi] at hf
    rw [List.getElem?_append_left (by omega)] at ha
    obtain ⟨lo', h1, h2, h3, h4⟩ := hr i f a hf ha
    have h1' := h1.ext hE05
    have hBa : B ∉ a.blk := fun hm => (h1.blk B hm).1 (List.mem_range.2 h3)
    refine ⟨lo', ((h1'.keep hC6 (fun b hb hm => h4 b (Sl.own_blk hm) hb)).keep hC7 (fun b hb hm => hBa (by simp at hm; rwa [← hm]))), h2, h3, fun b hb hm => ?_⟩
    rcases hb6 b hb with h | h
    ·exact h4 b (Sl.own_blk h) hm
    ·have := (h1.blk b hm).2; omega
   ·rw [List.getElem?_append_right (by omega)] at hf ha
    have hi0 : i - es.length = 0 := by
     have := (List.getElem?_eq_some_iff.1 hf).1
     simpa using this
    rw [hi0] at hf
    rw [hl, hi0] at ha
    simp at hf ha; subst hf; subst ha
    have h5 := hsc4.ext hE5
    have hsb : ∀ b ∈ s.own, b ∉ sc.blk := fun b hb hm => (hsc4.blk b hm).1 (List.mem_range.2 (by have := (ho.blk b (Sl.own_blk hb)).2; have := hE02.size; omega))
    refine ⟨w2.heap.size, (h5.keep hC6 (fun b hb hm => hsb b hm hb)).keep hC7 (fun b hb hm => ?_), Nat.le_trans hlo hE02.size, by have := hE02.size; omega, fun b hb hm => ?_⟩
    ·simp at hm; subst hm; exact (hsc4.blk _ hb).1 (List.mem_range.2 (by have := hE02.size; omega))
    ·rcases hb6 b hb with h | h
     ·exact hsb b h hm
     ·have := (h5.blk b hm).2; omega
  ·have := hC6.size; have := hC7.size; omega
 ·refine ((hE05.mono (by simp)).more' hC6 (fun b hb => .inl ?_)).more' hC7 (fun b hb => .inl (by simp at hb; simp [hb]))
  simp [Sl.own_blk hb]
 ·intro b hb
  rcases List.mem_cons.1 hb with rfl | hb
  ·exact .inl (by simp)
  ·rcases List.mem_append.1 hb with hb | hb
   ·rcases hb6 b hb with h | h
    ·exact .inl (by simp [Sl.own_blk h])
    ·exact .inr (by omega)
   ·rw [List.flatMap_append] at hb
    rcases List.mem_append.1 hb with hb | hb
    ·exact .inl (List.mem_cons_of_mem _ (List.mem_append_right _ hb))
    ·simp at hb
     have := (hsc4.blk b hb).1
     have h2 := hE02.size
     simp at this; exact .inr (by omega)
def upd (f : Nat → Nat) (j v : Nat) : Nat → Nat := fun i => if i = j then v else f i
theorem icl_set (es : List En) (al : List Sl) (z h : Nat → Nat) (j v u : Nat) (hj : j < es.length) : (icl es al z h).set j (itc (es.getD j ⟨0, 0, 0, T.nul⟩) (al.getD j Sl.nil) v u) = icl es al (upd z j v) (upd h j u) := by
 refine List.ext_getElem (by simp [icl]) fun i h1 h2 => ?_
 rw [List.getElem_set]
 simp only [icl, List.getElem_map, List.getElem_range, upd]
 by_cases e : j = i
 ·subst e; simp
 ·simp [e, show ¬ i = j from fun h => e h.symm]
theorem icl_congr (es : List En) (al : List Sl) {z h z' h' : Nat → Nat} (hz : ∀ i, i < es.length → z i = z' i ∧ h i = h' i) : icl es al z h = icl es al z' h' := by
 unfold icl
 refine List.map_congr_left fun i hi => ?_
 have := hz i (List.mem_range.1 hi)
 rw [this.1, this.2]
def sumS (l : List T) : Nat := 1 + (l.map T.size).sum
def maxD (l : List T) : Nat := 1 + (l.map T.depth).foldr max 0
def T.zAt (t : T) (i : Nat) : Nat := (t.flat.getD i ⟨0, 0, 0, T.nul⟩).t.size
def T.hAt (t : T) (i : Nat) : Nat := (t.flat.getD i ⟨0, 0, 0, T.nul⟩).t.depth
theorem T.flat_final (t : T) {i : Nat} (hi : i < t.size) : sumS (selT i (t.flat.drop 1)) = t.zAt i ∧ maxD (selT i (t.flat.drop 1)) = t.hAt i := by
 have hl : i < t.flat.length := by rw [T.flat_len]; exact hi
 have hg := List.getElem?_eq_getElem hl
 have h1 := t.flat_sel hg
 have h0 : t.flat = ⟨-1, 0, 0, t⟩ :: t.flat.drop 1 := by
  conv => lhs; unfold T.flat
  rw [T.ents_eq]
  simp [T.flat, T.ents_eq]
 have h2 := congrArg (selT (i : Int)) h0
 rw [selT_cons, if_neg (show ¬ (-1 : Int) = (i : Int) by omega), List.nil_append, h1] at h2
 rw [← h2]
 unfold T.zAt T.hAt
 rw [List.getD_eq_getElem?_getD, hg, Option.getD_some, T.size_eq, T.depth_eq]
 exact ⟨rfl, rfl⟩
def Items (A : List Nat) (w : World) (s : Sl) (t : T) : Prop := ∃ al : List Sl, al.length = t.flat.length ∧ Own A w s 10 161 (icl t.flat al t.zAt t.hAt) ∧
 ∀ (i : Nat) (e : En) (a : Sl), t.flat[i]? = some e → al[i]? = some a → Row A w a 2 (e.t.attrs.map ac)
theorem walkFlat {A : List Nat} {t : T} (hb : t.bulk ≤ 1000000000) {w : World} {sa sk : Sl} (h : RdT A w t sa sk) :
  Calls Tryz.prog 113 #[tv t sa sk] w (Ret fun v w' => Ext w w' ∧ ∃ s : Sl, v = s.v ∧ Items (List.range w.heap.size) w' s t) := by
 refine walk_Flat.ok _ _ _ _ _ ?_
 unfold walk_Flat.vc
 have hsz := T.size_bulk t
 have hpos := T.size_pos t
 intro w1 B1 B2 hN1 hN2 hne hE1 hB1 hB2
 have hat : AtT [B2] w1 ⟨B1, 0, none⟩ t := ⟨by simpa using hne, sa, sk, hB1.cells, ((h.less (A' := []) (by simp)).fresh hN2.ge).ext hE1⟩
 have hn2 := hN2.ge
 have h0 : FlatK B2 w.heap.size [] [B2] w1 := ⟨Sl.nil, [], by simp [Sl.blk, Sl.nil], hB2, rfl, Own.nil _ _ _ _, by simp, hE1.size⟩
 have hcall := walkEach (f := 154) (fst := #[]) (cap := #[.pointer (some ⟨B2, 0, none⟩)]) ⟨_, Tryz.func154, by decide, rfl⟩ (by omega) hat (FlatK B2 w.heap.size) (fun es H w w' F h c hF => h.chg c hF) (fun es H w h => h.lt)
  (fun es e rest q H w1 hfl hΦ hat => by
   have hl : es.length ≤ t.size := by
    have := congrArg List.length hfl
    rw [T.flat_len, List.length_append] at this; omega
   have he : e.t.bulk ≤ t.bulk := T.flat_bulk t e (by rw [hfl]; simp)
   exact flatStep hΦ hat (by omega) (by omega) _) h0
 refine CallK.chg (F := [B2]) (R := fun v w' => v = .tuple #[] ∧ ∃ H', FlatK B2 w.heap.size t.flat H' w') (Ret.mono hcall fun v w' ⟨h1, H', h2, h3, _⟩ => ⟨h3, h1, H', h2⟩) (by simp) ?_
 rintro v w2 hC2 ⟨rfl, H', s, al, rfl, hbox, hal, hown, hrows, _⟩
 have hE2 : Ext w w2 := Chg.fresh hE1 hC2 (by simpa using hn2)
 have hfl := t.flat_len
 have hn := hown.len
 rw [icl_len, hfl] at hn
 have hcap := hown.cap
 have hmost := hown.most
 simp only [maxLen] at hmost
 have hB2s : B2 ∉ s.blk := fun hm => (hown.blk B2 hm).1 (by simp)
 refine ⟨rfl, s, hbox.cell 0 _ rfl, ⟨by omega, by omega⟩, fun i w' => ∃ (k : Nat) (z h : Nat → Nat), i = (k : Int) ∧ k < t.size ∧ Box w' B2 158 [s.v] ∧ Own (B2 :: List.range w.heap.size) w' s 10 161 (icl t.flat al z h) ∧ Chg s.blk w2 w' ∧
  (∀ j, j < t.size → z j = sumS (selT j (t.flat.drop (k + 1))) ∧ h j = maxD (selT j (t.flat.drop (k + 1)))), fun i _ => i.toNat,
  ⟨t.size - 1, fun _ => 1, fun _ => 1, by omega, by omega, hbox, hown, Chg.refl _ _, fun j _ => ?_⟩, ?_⟩
 ·rw [List.drop_of_length_le (by omega)]; exact ⟨rfl, rfl⟩
 rintro i w3 ⟨k, z, h, rfl, hk, hb3, ho3, hC3, hzh⟩
 refine ⟨fun hi w4 hE4 => ?_, fun hi => ?_⟩
 ·obtain ⟨e, he⟩ : ∃ e, t.flat[k]? = some e := ⟨_, List.getElem?_eq_getElem (by omega)⟩
  obtain ⟨k', rfl⟩ : ∃ k', k = k' + 1 := ⟨k - 1, by omega⟩
  have hpar := t.flat_par he
  have hlt := t.flat_lt he
  obtain ⟨p, hp⟩ : ∃ p : Nat, e.par = (p : Int) := ⟨e.par.toNat, by omega⟩
  have hps : p < t.size := by omega
  have hpk : p < k' + 1 := by omega
  have hek : t.flat.getD (k' + 1) ⟨0, 0, 0, T.nul⟩ = e := by rw [List.getD_eq_getElem?_getD, he]; rfl
  have ho4 := ho3.ext hE4
  have hzk : z (k' + 1) = e.t.size ∧ h (k' + 1) = e.t.depth := by
   have := hzh (k' + 1) hk
   rw [t.flat_drop he] at this
   rw [T.size_eq, T.depth_eq]; exact this
  have hzb : ∀ j, j < t.size → z j ≤ t.bulk ∧ h j ≤ t.bulk := fun j hj => by
   obtain ⟨f, hf⟩ : ∃ f, t.flat[j]? = some f := ⟨_, List.getElem?_eq_getElem (by omega)⟩
   have h1 := t.flat_sel hf
   rw [← List.take_append_drop (k' + 1 + 1) t.flat, selT_app] at h1
   have h2 := T.flat_bulk t f (List.mem_of_getElem? hf)
   have h3 := T.size_bulk f.t
   have h4 := T.size_eq f.t
   have h5 := T.depth_size f.t
   have h6 := T.depth_eq f.t
   have h7 := hzh j hj
   rw [← h1, List.map_append, List.sum_append] at h4
   have h8 : ∀ x ∈ (selT (j : Int) (t.flat.drop (k' + 1 + 1))).map T.depth, x ≤ (f.t.kids.map T.depth).foldr max 0 := fun x hx => by
    have hm : x ∈ f.t.kids.map T.depth := by rw [← h1, List.map_append]; exact List.mem_append_right _ hx
    have go : ∀ l : List Nat, x ∈ l → x ≤ l.foldr max 0 := fun l => by
     induction l with
     |nil => intro h; cases h
     |cons a r ih =>
      intro h
      simp only [List.foldr_cons]
      rcases List.mem_cons.1 h with rfl | h
      ·omega
      ·have := ih h; omega
    exact go _ hm
   have h9 := T.foldr_max_le h8
   rw [h7.1, h7.2]
   unfold sumS maxD
   omega
  obtain ⟨g, cur, ha, hgA, hg4, hcl, hct⟩ : ∃ g cur, s.a = some ⟨g, 0, none⟩ ∧ g ∉ B2 :: List.range w.heap.size ∧ Box w4 g 161 cur ∧ cur.length = s.c * 10 ∧ cur.take (s.n * 10) = (icl t.flat al z h).flatten := by
   rcases ho4.at_ with h1 | h1
   ·rw [h1] at hn; simp [Sl.nil] at hn; omega
   ·exact h1
  have cell : ∀ {w' : World} {z h : Nat → Nat}, Own (B2 :: List.range w.heap.size) w' s 10 161 (icl t.flat al z h) → ∀ j, j < t.size → Cells w' ((⟨g, 0, none⟩ : Addr).add (j * 10)) (itc (t.flat.getD j ⟨0, 0, 0, T.nul⟩) (al.getD j Sl.nil) (z j) (h j)) := fun ho j hj => by
   have := ho.row.cells1 (i := j) (by rw [icl_len]; omega) ha
   rwa [icl_get _ _ _ _ (by omega)] at this
  have ck := cell ho4 (k' + 1) hk
  rw [hek] at ck
  have b4 := hb3.ext hE4
  have hgB : g ≠ B2 := fun hh => hgA (by simp [hh])
  refine ⟨s, b4.cell 0 _ rfl, s, b4.cell 0 _ rfl, ⟨g, 0, none⟩, ⟨⟨by omega, by omega⟩, ha⟩, (p : Int), by rw [← hp]; exact ck 0 _ rfl, ⟨g, 0, none⟩, ⟨⟨by omega, by omega⟩, ha⟩, fun w5 hE5 => ?_⟩
  have b5 := b4.ext hE5
  have ho5 := ho4.ext hE5
  have zp := hzb p hps
  have zk := hzb (k' + 1) hk
  refine ⟨(z p : Int), cell ho5 p hps 1 _ rfl, s, b5.cell 0 _ rfl, ⟨g, 0, none⟩, ⟨⟨by omega, by omega⟩, ha⟩, (z (k' + 1) : Int), cell ho5 (k' + 1) hk 1 _ rfl, ⟨by omega, by omega⟩, fun w6 hE6 => ?_⟩
  have b6 := b5.ext hE6
  have ho6 := ho5.ext hE6
  have hg6 := (hg4.ext hE5).ext hE6
  refine ⟨g, p * 10 + 1, 161, cur, by simp [Addr.add_lit], hg6, by omega, by simp, fun w7 hC7 hB7 w8 hE8 => ?_⟩
  have ho7 := ho6.put (o := 1) (us := [.int .i64 ((z p : Int) + (z (k' + 1) : Int))]) ha hg6 (j := p) (by rw [icl_len]; omega) (by simp) hB7
  rw [icl_get _ _ _ _ (by omega)] at ho7
  have ho7' : Own (B2 :: List.range w.heap.size) w7 s 10 161 (icl t.flat al (upd z p (z p + z (k' + 1))) h) := by
   have e1 := icl_set t.flat al z h p (z p + z (k' + 1)) (h p) (by omega)
   rw [icl_congr t.flat al (z' := upd z p (z p + z (k' + 1))) (h' := h) (fun i _ => ⟨rfl, by unfold upd; split <;> simp_all⟩)] at e1
   rw [← e1]; exact ho7
  have b8 := (b6.keep hC7 (by simpa using fun hh : B2 = g => hgB hh.symm)).ext hE8
  have ho8 := ho7'.ext hE8
  refine ⟨(h p : Int), cell ho8 p hps 3 _ rfl, s, b8.cell 0 _ rfl, ⟨g, 0, none⟩, ⟨⟨by omega, by omega⟩, ha⟩, (h (k' + 1) : Int), cell ho8 (k' + 1) hk 3 _ rfl, ⟨by omega, by omega⟩, fun w9 hE9 => ?_⟩
  have ho9 := ho8.ext hE9
  have hg9 := (hB7.ext hE8).ext hE9
  refine ⟨g, p * 10 + 3, 161, _, by simp [Addr.add_lit], hg9, by rw [putAt_len]; omega, by simp, fun w10 hC10 hB10 => ?_⟩
  have ho10 := ho9.put (o := 3) (us := [.int .i64 (max (h p : Int) ((h (k' + 1) : Int) + 1))]) ha hg9 (j := p) (by rw [icl_len]; omega) (by simp) hB10
  rw [icl_get _ _ _ _ (by omega)] at ho10
  have em : max (h p : Int) ((h (k' + 1) : Int) + 1) = ((max (h p) (h (k' + 1) + 1) : Nat) : Int) := by omega
  rw [em] at ho10
  have ho10' : Own (B2 :: List.range w.heap.size) w10 s 10 161 (icl t.flat al (upd z p (z p + z (k' + 1))) (upd h p (max (h p) (h (k' + 1) + 1)))) := by
   have e1 := icl_set t.flat al (upd z p (z p + z (k' + 1))) h p (upd z p (z p + z (k' + 1)) p) (max (h p) (h (k' + 1) + 1)) (by omega)
   rw [icl_congr t.flat al (z' := upd z p (z p + z (k' + 1))) (h' := upd h p (max (h p) (h (k' + 1) + 1))) (fun i _ => ⟨by unfold upd; split <;> simp_all, rfl⟩)] at e1
   rw [← e1]; exact ho10
  have hgs : ∀ b ∈ [g], b ∈ s.blk := by simp [Sl.blk, ha]
  refine ⟨⟨by omega, by omega⟩, ⟨k', upd z p (z p + z (k' + 1)), upd h p (max (h p) (h (k' + 1) + 1)), by omega, by omega, (b8.ext hE9).keep hC10 (by simpa using fun hh : B2 = g => hgB hh.symm), ho10', ?_, fun j hj => ?_⟩, by dsimp only; omega⟩
  ·exact (((((((hC3.more hE4).more hE5).more hE6).trans (hC7.mono hgs)).more hE8).more hE9).trans (hC10.mono hgs))
  ·have hd : t.flat.drop (k' + 1) = e :: t.flat.drop (k' + 1 + 1) := by
    rw [List.drop_eq_getElem_cons (by omega)]
    congr 1
    rw [List.getElem?_eq_getElem (by omega)] at he
    exact Option.some.inj he
   have hj' := hzh j hj
   rw [hd, selT_cons, hp]
   unfold upd
   by_cases hjp : j = p
   ·subst hjp
    rw [if_pos rfl, if_pos rfl, if_pos rfl, hj'.1, hj'.2, hzk.1, hzk.2]
    simp only [sumS, maxD, List.cons_append, List.nil_append, List.map_cons, List.sum_cons, List.foldr_cons]
    omega
   ·rw [if_neg hjp, if_neg hjp, if_neg (by omega)]
    exact hj'
 ·have hk0 : k = 0 := by omega
  subst hk0
  have e1 : icl t.flat al z h = icl t.flat al t.zAt t.hAt := icl_congr _ _ fun i hi => by
   have h1 := hzh i (by omega)
   have h2 := t.flat_final (i := i) (by omega)
   exact ⟨h1.1.trans h2.1, h1.2.trans h2.2⟩
  rw [e1] at ho3
  refine ⟨s, hb3.cell 0 _ rfl, Chg.fresh hE2 hC3 (fun b hb => ?_), s, rfl, al, hal, ho3.less (fun b hb => List.mem_cons_of_mem _ hb), fun i e a he ha => ?_⟩
  ·have := (hown.blk b hb).1
   simp at this; omega
  ·obtain ⟨lo', h1, h2, h3, h4⟩ := hrows i e a he ha
   exact ((h1.keep hC3 (fun b hb hm => h4 b hm hb)).less (fun b hb => List.mem_range.2 (by have := List.mem_range.1 hb; omega))).row
end
section
open Go.RowKit
theorem kidsE_end : ∀ (us : List T), (∀ u ∈ us, ∀ (id : Nat) (p : Int) (d pl : Nat), ∀ (j : Nat) (e : En), (u.ents id p d pl)[j]? = some e → j + e.t.size ≤ u.size) →
  ∀ (nx : Nat) (p : Int) (d i : Nat), ∀ (j : Nat) (e : En), (kidsE us nx p d i)[j]? = some e → j + e.t.size ≤ (us.map T.size).sum
 |[], _, _, _, _, _, j, e, he => by simp [kidsE_nil] at he
 |u :: us, h, nx, p, d, i, j, e, he => by
  rw [kidsE_cons] at he
  simp only [List.map_cons, List.sum_cons]
  by_cases hj : j < u.size
  ·rw [List.getElem?_append_left (by rw [T.ents_len]; exact hj)] at he
   have := h u (by simp) nx p d i j e he; omega
  ·rw [List.getElem?_append_right (by rw [T.ents_len]; omega), T.ents_len] at he
   have := kidsE_end us (fun v hv => h v (by simp [hv])) (nx + u.size) p d (i + 1) (j - u.size) e he; omega
theorem T.ents_end : ∀ (t : T) (id : Nat) (p : Int) (d pl : Nat), ∀ (j : Nat) (e : En), (t.ents id p d pl)[j]? = some e → j + e.t.size ≤ t.size := T.ind' fun t ih id p d pl j e he => by
 rw [T.ents_eq] at he
 cases j with
 |zero =>
  simp only [List.getElem?_cons_zero, Option.some.injEq] at he
  subst he; show 0 + t.size ≤ _; omega
 |succ j =>
  rw [List.getElem?_cons_succ] at he
  have := kidsE_end t.kids ih (id + 1) id (d + 1) 0 j e he
  rw [T.size_eq t]; omega
theorem T.flat_get (t : T) {j : Nat} (h : j < t.size) : t.flat[j]? = some (t.flat.getD j ⟨0, 0, 0, T.nul⟩) := by
 have hl : j < t.flat.length := by rw [T.flat_len]; exact h
 rw [List.getD_eq_getElem?_getD, List.getElem?_eq_getElem hl]; rfl
theorem T.zAt_end (t : T) {j : Nat} (h : j < t.size) : j + t.zAt j ≤ t.size ∧ 1 ≤ t.zAt j :=
 ⟨T.ents_end t 0 (-1) 0 0 j _ (t.flat_get h), T.size_pos _⟩
theorem Own.apart {A B : List Nat} {w : World} {s a : Sl} {m n : Nat} {T S : TypeId} {vs us : List (List Value)} (h : Own A w s m T vs) (k : Own B w a n S us) (hne : T ≠ S) : ∀ b ∈ s.blk, b ∉ a.blk := by
 intro b hb hm
 rcases h.at_ with e | ⟨g, cur, h1, _, h3, _⟩
 ·rw [e] at hb; simp [Sl.blk, Sl.nil] at hb
 ·simp [Sl.blk, h1] at hb; subst hb
  exact (k.other h3 (Ne.symm hne)) hm
end
section
open Go.RowKit
def rc (e : En) (a sa sk : Sl) (z h : Nat) : List Value := [.int .i64 e.par, .int .i64 (z : Int), .int .i64 (e.dep : Int), .int .i64 (h : Int), .int .i64 (e.pl : Int), .int .i64 e.t.kind, .string (Bs e.t.name), .string (Bs e.t.text), a.v, Sl.nil.v, .int .i64 e.t.kind, .string (Bs e.t.name), .string (Bs e.t.text), sa.v, sk.v]
def RIok (w : World) (e : En) (z h : Nat) (u : List Value) : Prop := ∃ a sa sk : Sl, u = rc e a sa sk z h ∧ Own [] w a 2 91 (e.t.attrs.map ac)
def RIs (w : World) (es : List En) (rows : List (List Value)) : Prop := rows.length = es.length ∧ ∀ (i : Nat) (e : En) (u : List Value), es[i]? = some e → rows[i]? = some u → RIok w e e.t.size e.t.depth u
theorem RIok.keep {w w' : World} {e : En} {z h : Nat} {u : List Value} (k : RIok w e z h u) {A : List Nat} {s : Sl} {vs : List (List Value)} {F : List Nat} (ho : Own A w s 15 167 vs) (c : Chg F w w') (hF : ∀ b ∈ F, b ∈ s.blk) : RIok w' e z h u := by
 obtain ⟨a, sa, sk, h1, h2⟩ := k
 exact ⟨a, sa, sk, h1, h2.keep c fun b hb hm => (ho.apart h2 (by decide)) b (hF b hm) hb⟩
theorem RIok.ext {w w' : World} {e : En} {z h : Nat} {u : List Value} (k : RIok w e z h u) (c : Ext w w') : RIok w' e z h u := by
 obtain ⟨a, sa, sk, h1, h2⟩ := k
 exact ⟨a, sa, sk, h1, h2.ext c⟩
theorem RIs.keep {w w' : World} {es : List En} {rows : List (List Value)} (k : RIs w es rows) {A : List Nat} {s : Sl} {vs : List (List Value)} {F : List Nat} (ho : Own A w s 15 167 vs) (c : Chg F w w') (hF : ∀ b ∈ F, b ∈ s.blk) : RIs w' es rows :=
 ⟨k.1, fun i e u he hu => (k.2 i e u he hu).keep ho c hF⟩
theorem RIs.ext {w w' : World} {es : List En} {rows : List (List Value)} (k : RIs w es rows) (c : Ext w w') : RIs w' es rows := ⟨k.1, fun i e u he hu => (k.2 i e u he hu).ext c⟩
def RItems (w : World) (s : Sl) (t : T) : Prop := ∃ rows : List (List Value), Own [] w s 15 167 rows ∧ RIs w t.flat rows
theorem RItems.ext {w w' : World} {s : Sl} {t : T} (h : RItems w s t) (c : Ext w w') : RItems w' s t := by
 obtain ⟨rows, h1, h2⟩ := h
 exact ⟨rows, h1.ext c, h2.ext c⟩
theorem RItems.len {w : World} {s : Sl} {t : T} (h : RItems w s t) : s.n = t.size := by
 obtain ⟨rows, h1, h2⟩ := h
 rw [h1.len, h2.1, T.flat_len]
end
section
open Go.RowKit Go.MapKept
def T.nd (t : T) (j : Nat) : En := t.flat.getD j ⟨0, 0, 0, T.nul⟩
theorem Items.cell {A : List Nat} {w : World} {a : Sl} {t : T} (h : Items A w a t) : a.n = t.size ∧ ∃ (p : Addr) (al : List Sl), a.a = some p ∧ ∀ j, j < t.size → Cells w (p.add (j * 10)) (itc (t.nd j) (al.getD j Sl.nil) (t.zAt j) (t.hAt j)) ∧ Row A w (al.getD j Sl.nil) 2 ((t.nd j).t.attrs.map ac) := by
 obtain ⟨al, hal, ho, hr⟩ := h
 have hpos := T.size_pos t
 have hfl := T.flat_len t
 obtain ⟨p, hp, _⟩ := ho.row.at_ 0 (by rw [icl_len]; omega)
 refine ⟨by rw [ho.len, icl_len, hfl], p, al, hp, fun j hj => ⟨?_, ?_⟩⟩
 ·have := ho.row.cells1 (i := j) (by rw [icl_len]; omega) hp
  rwa [icl_get _ _ _ _ (by omega)] at this
 ·refine hr j _ _ (t.flat_get hj) ?_
  rw [List.getD_eq_getElem?_getD, List.getElem?_eq_getElem (by omega)]; rfl
theorem Items.ext {A : List Nat} {w w' : World} {a : Sl} {t : T} (h : Items A w a t) (c : Ext w w') : Items A w' a t := by
 obtain ⟨al, hal, ho, hr⟩ := h
 exact ⟨al, hal, ho.ext c, fun i e a he ha => (hr i e a he ha).ext c⟩
theorem Items.chg {A F : List Nat} {w w' : World} {a : Sl} {t : T} (h : Items A w a t) (c : Chg F w w') (hF : ∀ b ∈ F, b ∈ A) : Items A w' a t := by
 obtain ⟨al, hal, ho, hr⟩ := h
 exact ⟨al, hal, ho.chg c hF, fun i e a he ha => (hr i e a he ha).chg c hF⟩
theorem Items.less {A A' : List Nat} {w : World} {a : Sl} {t : T} (h : Items A w a t) (hA : ∀ b ∈ A', b ∈ A) : Items A' w a t := by
 obtain ⟨al, hal, ho, hr⟩ := h
 exact ⟨al, hal, ho.less hA, fun i e a he ha => (hr i e a he ha).less hA⟩
theorem Items.fresh {A : List Nat} {w : World} {a : Sl} {t : T} (h : Items A w a t) {B : Nat} (hB : w.heap.size ≤ B) : Items (B :: A) w a t := by
 obtain ⟨al, hal, ho, hr⟩ := h
 exact ⟨al, hal, ho.fresh hB, fun i e a he ha => (hr i e a he ha).fresh (by decide) hB⟩
end
section
open Go.RowKit Cdc
theorem divPow (x n : Nat) : ((x : Nat) : Int) / 2 ^ n = ((x / 2 ^ n : Nat) : Int) := by push_cast; rfl
theorem mulPow (x n : Nat) : ((x : Nat) : Int) * 2 ^ n = ((x * 2 ^ n : Nat) : Int) := by push_cast; rfl
theorem mixArg {h v : Nat} (hh : h < 18446744073709551616) (hv : v < 18446744073709551616) :
  bits .xor .u64 (IntKind.u64.wrap ((bits .xor .u64 (h : Int) (v : Int)) * 11400714819323198485)) ((IntKind.u64.wrap ((bits .xor .u64 (h : Int) (v : Int)) * 11400714819323198485)) / 2 ^ 29) =
   (((((h ^^^ v) * Hsh.golden % 2 ^ 64) ^^^ ((h ^^^ v) * Hsh.golden % 2 ^ 64 / 2 ^ 29) : Nat)) : Int) := by
 rw [Go.u64_xor_nat h v hh hv]
 have e : IntKind.u64.wrap (((h ^^^ v : Nat) : Int) * 11400714819323198485) = (((h ^^^ v) * Hsh.golden % 2 ^ 64 : Nat) : Int) := by
  rw [show (((h ^^^ v : Nat) : Int) * 11400714819323198485) = (((h ^^^ v) * Hsh.golden : Nat) : Int) by rw [Hsh.golden, Int.natCast_mul]; rfl, IntKind.wrap_u64]
  omega
 rw [e, divPow]
 have h1 : (h ^^^ v) * Hsh.golden % 2 ^ 64 < 2 ^ 64 := Nat.mod_lt _ (by decide)
 generalize (h ^^^ v) * Hsh.golden % 2 ^ 64 = y at h1
 exact Go.u64_xor_nat _ _ (by omega) (by omega)
theorem bitsTurn {v : Nat} (hv : v < 18446744073709551616) {w : World} : Calls Tryz.prog 185 #[.int .u64 (v : Int), .int .i64 31] w (Ret fun u w' => Ext w w' ∧ u = .int .u64 ((Hsh.rot v : Nat) : Int)) := by
 refine bits_Turn.ok _ _ ?_
 unfold bits_Turn.vc
 have e1 : bits .and .u64 (IntKind.u64.wrap 31) 63 = 31 := by decide
 have e2 : IntKind.u64.wrap (64 - 31) = 33 := by decide
 rw [e1, e2]
 refine ⟨⟨by omega, by omega⟩, ⟨by omega, by omega⟩, Chg.refl _ _, ?_⟩
 have e3 : IntKind.u64.wrap ((v : Int) * 2 ^ (31 : Int).toNat) = ((v * 2 ^ 31 % 2 ^ 64 : Nat) : Int) := by
  rw [show (31 : Int).toNat = 31 from rfl, mulPow, IntKind.wrap_u64]; omega
 have e4 : ((v : Int) / 2 ^ (33 : Int).toNat) = ((v / 2 ^ 33 : Nat) : Int) := divPow v 33
 rw [e3, e4, Go.u64_or_nat _ _ (by omega) (by omega)]
 rfl
theorem bitsMix {h v : Nat} (hh : h < 18446744073709551616) (hv : v < 18446744073709551616) {w : World} : Calls Tryz.prog 156 #[.int .u64 (h : Int), .int .u64 (v : Int)] w (Ret fun u w' => Ext w w' ∧ u = .int .u64 ((Hsh.mix h v : Nat) : Int)) := by
 refine bits_Mix.ok _ _ ?_
 unfold bits_Mix.vc
 rw [mixArg hh hv]
 have h1 : (h ^^^ v) * Hsh.golden % 2 ^ 64 < 2 ^ 64 := Nat.mod_lt _ (by decide)
 refine CallK.exact (bitsTurn (Nat.xor_lt_two_pow (n := 64) h1 (by omega))) fun w1 hE1 => ⟨_, rfl, hE1, rfl⟩
theorem refBit {v i : Nat} (hv : v < 18446744073709551616) (hi : i < 64) {w : World} : Calls Tryz.prog 131 #[.int .u64 (v : Int), .int .i64 (i : Int)] w (Ret fun u w' => Ext w w' ∧ u = .int .u64 ((v / 2 ^ i % 2 : Nat) : Int)) := by
 refine ref01_bit.ok _ _ ?_
 unfold ref01_bit.vc
 have e1 : IntKind.u64.wrap (i : Int) = (i : Int) := by rw [IntKind.wrap_u64]; omega
 rw [e1]
 refine ⟨⟨by omega, by omega⟩, Chg.refl _ _, ?_⟩
 have e4 : ((v : Int) / 2 ^ (i : Int).toNat) = ((v / 2 ^ i : Nat) : Int) := divPow v i
 have hlt : v / 2 ^ i < 18446744073709551616 := Nat.lt_of_le_of_lt (Nat.div_le_self _ _) hv
 rw [e4, show (1 : Int) = ((1 : Nat) : Int) from rfl, Go.u64_and_nat _ _ hlt (by decide)]
 have := Nat.and_two_pow_sub_one_eq_mod (v / 2 ^ i) 1
 simp only [Nat.pow_one] at this
 rw [show (1 : Nat) = 2 - 1 from rfl, this]
theorem refTurn {v : Nat} (hv : v < 18446744073709551616) {w : World} : Calls Tryz.prog 85 #[.int .u64 (v : Int), .int .i64 31] w (Ret fun u w' => Ext w w' ∧ u = .int .u64 ((Hsh.rot v : Nat) : Int)) := by
 refine ref01_Turn.ok _ _ ?_
 unfold ref01_Turn.vc
 refine ⟨fun k w' => k = 31 ∧ Ext w w', ⟨fun h => absurd h (by decide), fun _ => ⟨by decide, Chg.refl _ _⟩⟩, ?_⟩
 rintro _ w1 ⟨rfl, hE1⟩
 refine ⟨fun x i w' => ∃ n : Nat, n ≤ 64 ∧ i = (n : Int) ∧ x = ((Hsh.turnN v n : Nat) : Int) ∧ Ext w w', fun _ i _ => 64 - i.toNat, ⟨0, by omega, rfl, rfl, hE1⟩, ?_⟩
 rintro _ _ w2 ⟨n, hn, rfl, rfl, hE2⟩
 refine ⟨fun hi => CallK.exact (refBit hv (i := n) (by omega)) fun w3 hE3 => ⟨_, rfl, ⟨by omega, by omega⟩, ?_⟩, fun hi => ⟨hE2, ?_⟩⟩
 ·have e1 : ((n : Int) + 31).tmod 64 = (((n + 31) % 64 : Nat) : Int) := by rw [Int.tmod_eq_emod_of_nonneg (by omega)]; omega
  have e2 : IntKind.u64.wrap (((n + 31) % 64 : Nat) : Int) = (((n + 31) % 64 : Nat) : Int) := by rw [IntKind.wrap_u64]; omega
  rw [e1, e2]
  have hp : 2 ^ ((n + 31) % 64) ≤ 2 ^ 63 := Nat.pow_le_pow_right (by decide) (by omega)
  have hb : (v / 2 ^ n % 2) * 2 ^ ((n + 31) % 64) ≤ 1 * 2 ^ ((n + 31) % 64) := Nat.mul_le_mul_right _ (by omega)
  have e3 : IntKind.u64.wrap (((v / 2 ^ n % 2 : Nat) : Int) * 2 ^ (((n + 31) % 64 : Nat) : Int).toNat) = (((v / 2 ^ n % 2) * 2 ^ ((n + 31) % 64) : Nat) : Int) := by
   rw [Int.toNat_natCast, show (((v / 2 ^ n % 2 : Nat) : Int) * 2 ^ ((n + 31) % 64)) = (((v / 2 ^ n % 2) * 2 ^ ((n + 31) % 64) : Nat) : Int) by push_cast; rfl, IntKind.wrap_u64]
   omega
  have hT : Hsh.turnN v n < 2 ^ 64 := by
   apply Nat.lt_pow_two_of_testBit
   intro i hi
   rw [Hsh.turnN_test v n hn]
   have : ¬ i < 64 := by omega
   simp [this]
  rw [e3, Go.u64_or_nat _ _ (by omega) (by omega)]
  exact ⟨⟨by omega, by omega⟩, ⟨by omega, by omega⟩, ⟨n + 1, by omega, by omega, rfl, hE2.trans hE3⟩, by dsimp only; omega⟩
 ·rw [show n = 64 by omega, Hsh.turn_eq hv]
theorem refMix {h v : Nat} (hh : h < 18446744073709551616) (hv : v < 18446744073709551616) {w : World} : Calls Tryz.prog 47 #[.int .u64 (h : Int), .int .u64 (v : Int)] w (Ret fun u w' => Ext w w' ∧ u = .int .u64 ((Hsh.mix h v : Nat) : Int)) := by
 refine ref01_Mix.ok _ _ ?_
 unfold ref01_Mix.vc
 rw [mixArg hh hv]
 have h1 : (h ^^^ v) * Hsh.golden % 2 ^ 64 < 2 ^ 64 := Nat.mod_lt _ (by decide)
 refine CallK.exact (refTurn (Nat.xor_lt_two_pow (n := 64) h1 (by omega))) fun w1 hE1 => ⟨_, rfl, hE1, rfl⟩
theorem refOf {A : List Nat} {w : World} {b : Sl} {xs : List UInt8} (h : RdB A w b xs) (hx : xs.length ≤ 8) :
  Calls Tryz.prog 22 #[b.v] w (Ret fun u w' => Ext w w' ∧ u = .int .u64 ((val (xs.map fun b => b.toNat) : Nat) : Int)) := by
 refine ref01_Of.ok _ ?_
 unfold ref01_Of.vc
 have hl := h.len
 have hns : ∀ x ∈ xs.map (fun b => b.toNat), x < 256 := by
  intro x hx; simp only [List.mem_map] at hx; obtain ⟨b, _, rfl⟩ := hx; exact b.toNat_lt
 refine ⟨fun v i w' => ∃ n : Nat, n ≤ xs.length ∧ i = (n : Int) ∧ Ext w w' ∧ v = ((val ((xs.map fun b => b.toNat).take n) : Nat) : Int), fun _ i _ => 8 - i.toNat, ⟨0, by omega, rfl, Chg.refl _ _, rfl⟩, ?_⟩
 rintro _ _ w2 ⟨n, hn8, rfl, hE2, rfl⟩
 refine ⟨fun hlt => ?_, fun hge => ⟨hE2, ?_⟩⟩
 ·obtain ⟨p, hp, _, hc⟩ := (h.ext hE2).at (i := (n : Int)) (by omega) (by omega)
  have hlt' : n < (xs.map fun b => b.toNat).length := by rw [List.length_map]; omega
  have hv := val_take_lt _ hns n
  have hy : (xs.map fun b => b.toNat).getD n 0 = (xs.getD n 0).toNat := by
   have : n < xs.length := by omega
   simp [List.getD_eq_getElem?_getD, this]
  have hvt := val_take _ hlt'
  rw [hy] at hvt
  rw [Int.toNat_natCast] at hc ⊢
  have hx8 := (xs.getD n 0).toNat_lt
  generalize (xs.getD n 0).toNat = y at hc hvt hx8
  have hp8 : 2 ^ (8 * n) ≤ 2 ^ 56 := Nat.pow_le_pow_right (by decide) (by omega)
  have hfit : y * 2 ^ (8 * n) ≤ 255 * 2 ^ (8 * n) := Nat.mul_le_mul_right _ (by omega)
  have e0 : IntKind.u64.wrap (8 * (n : Int)) = 8 * (n : Int) := by rw [IntKind.wrap_u64]; omega
  have e1 : IntKind.u64.wrap (y : Int) = (y : Int) := by rw [IntKind.wrap_u64]; omega
  have e2 : IntKind.u64.wrap ((y : Int) * 2 ^ (8 * (n : Int)).toNat) = ((y * 2 ^ (8 * n) : Nat) : Int) := by
   rw [show (8 * (n : Int)).toNat = 8 * n by omega, show ((y : Int) * 2 ^ (8 * n)) = ((y * 2 ^ (8 * n) : Nat) : Int) by push_cast; rfl, IntKind.wrap_u64]; omega
  refine ⟨⟨by omega, by omega⟩, p, hp, _, hc, ⟨by omega, by omega⟩, ?_⟩
  rw [e0, e1, e2, Go.u64_or_nat _ _ (by omega) (by omega)]
  refine ⟨⟨by omega, by omega⟩, ⟨by omega, by omega⟩, ⟨n + 1, by omega, by omega, hE2, ?_⟩, by dsimp only; omega⟩
  rw [hvt, Nat.or_comm, Nat.mul_comm y, ← Nat.two_pow_add_eq_or_of_lt hv, Nat.add_comm]
 ·rw [List.take_of_length_le (by rw [List.length_map]; omega)]
theorem convStrB {w : World} (s : Str) (hs : s.length ≤ 1000000) : ∃ (b : Sl) (w' : World), (convert 9 27 (.string (Bs s))).run Tryz.prog w = .ok b.v w' ∧ Ext w w' ∧ RdB [] w' b s := by
 have hr := Lib.run_convert_string_bytes (P := Tryz.prog) w 9 27 5 (Bs s) Tryz.underlying9 Tryz.underlying27 Tryz.underlying5
 have hsz := Bs_size s
 have hE : Ext w (Lib.bytesWorld w 5 (Bs s)) := by
  refine ⟨?_, ?_, ?_, ?_, fun k hk _ => Lib.bytesWorld_at_old w 5 (Bs s) k hk⟩
  ·unfold Lib.bytesWorld World.freeze; split <;> rfl
  ·unfold Lib.bytesWorld World.freeze; split <;> rfl
  ·unfold Lib.bytesWorld World.freeze; split <;> rfl
  ·rw [Lib.bytesWorld_size]; omega
 refine ⟨⟨some ⟨w.heap.size, 0, none⟩, (Bs s).size, grownCap w (Bs s).size 0 5⟩, _, hr, hE, ?_⟩
 have hge := grownCap_ge w (Bs s).size 0 5
 have hcm := grownCap_le_maxLen w (Bs s).size 0 5 (by rw [hsz]; simp [maxLen]; omega)
 rw [hsz] at hge hcm ⊢
 refine RdB.of_cells (xs := s) (fun j v hv => ?_) hge hcm [] (by simp)
 rw [Addr.add_lit, Nat.zero_add]
 have hlt : j < s.length := by
  have := (List.getElem?_eq_some_iff.1 hv).1
  simpa using this
 rw [Lib.bytesWorld_cell w 5 (Bs s) j (by rw [hsz]; exact hlt), Bs_data]
 simp [hlt] at hv
 rw [← hv]
 simp [List.getD_eq_getElem?_getD, hlt]
theorem copy_str {P : Program} {w : World} {dT sT ty e T : TypeId} {z : Value} {g n c : Nat} {xs : Str} {cur : List Value} (hu : P.underlying dT = some (.slice e)) (hi : TI P e z 1 1) (hB : Box w g T cur) (hn : n ≤ cur.length) :
  ∃ w', (Builtin.copy_ #[dT, sT] ty #[.slice (some ⟨g, 0, none⟩) n c, .string (Bs xs)]).run P w = .ok (goInt ((min xs.length n : Nat) : Int)) w' ∧ Chg [g] w w' ∧ Box w' g T (((xs.take n).map fun x => .int .u8 ((x.toNat : Nat) : Int)) ++ cur.drop (min xs.length n)) := by
 obtain ⟨i, hi0, hz, hs, hb⟩ := hi
 have hsz := Bs_size xs
 have hg : w.heap[g]? = some (.cells cur.toArray T (0, 0)) := hB
 have hmin : Nat.min xs.length n = min xs.length n := rfl
 have hlen : ((xs.take n).map fun x => Value.int .u8 ((x.toNat : Nat) : Int)).length = min xs.length n := by rw [List.length_map, List.length_take, Nat.min_comm]
 have hst := run_storeCells_at P g 0 T ((xs.take n).map fun x => Value.int .u8 ((x.toNat : Nat) : Int)) 0 cur.toArray w hg (by rw [hlen]; simp; omega) (fun v hv => by
  simp only [List.mem_map] at hv
  obtain ⟨b, _, rfl⟩ := hv
  rfl)
 rw [hlen] at hst
 simp only [Nat.add_zero, Nat.zero_add, List.take_zero, List.nil_append] at hst
 have htk : List.take (min xs.length n) (List.map (fun b : UInt8 => Value.int .u8 (b.toNat : Int)) xs) = (xs.take n).map fun x => Value.int .u8 ((x.toNat : Nat) : Int) := by
  rw [← List.map_take]
  congr 1
  rcases Nat.le_total n xs.length with h | h
  ·rw [Nat.min_eq_right h]
  ·rw [Nat.min_eq_left h, List.take_of_length_le (Nat.le_refl _), List.take_of_length_le h]
 refine ⟨w.setRow g ((((xs.take n).map fun x => Value.int .u8 ((x.toNat : Nat) : Int)) ++ cur.drop (min xs.length n)).toArray), ?_, setRow_chg w g _, ?_⟩
 rotate_left
 ·unfold Box
  exact setRow_heap w g cur.toArray _ T _ hg
 ·simp [Builtin.copy_, run_underlying hu, Builtin.lenOf, Builtin.firstCells, sizeOf, typeInfo, hi0, hsz, hmin, Bs_data, hs]
  rw [htk, hst]
  simp [Result.andThen]
end
section
open Go.RowKit Cdc
theorem eight {l : List Int} (h : l.length = 8) : ∃ c0 c1 c2 c3 c4 c5 c6 c7, l = [c0, c1, c2, c3, c4, c5, c6, c7] := by
 match l, h with
 |[c0, c1, c2, c3, c4, c5, c6, c7], _ => exact ⟨c0, c1, c2, c3, c4, c5, c6, c7, rfl⟩
theorem chunk_val (s : Str) : val ((s.take 8).map fun b => b.toNat) < 18446744073709551616 := by
 have := Hsh.val_lt (s.take 8)
 have hl : (s.take 8).length ≤ 8 := by rw [List.length_take]; omega
 have hp : 256 ^ (s.take 8).length ≤ 256 ^ 8 := Nat.pow_le_pow_right (by decide) hl
 have e : (256 : Nat) ^ 8 = 18446744073709551616 := by decide
 omega
theorem hashText {s : Str} (hs : s.length ≤ 1099511627776) {w : World} : Calls Tryz.prog 157 #[.string (Bs s)] w (Ret fun u w' => Ext w w' ∧ u = .int .u64 ((Hsh.text s : Nat) : Int)) := by
 refine hash_Text.ok _ ?_
 unfold hash_Text.vc
 have e0 : IntKind.u64.wrap (s.length : Int) = (s.length : Int) := by rw [IntKind.wrap_u64]; omega
 rw [e0]
 refine ⟨fun h at_ w' => ∃ n k : Nat, at_ = (n : Int) ∧ h = (k : Int) ∧ k < 18446744073709551616 ∧ Ext w w' ∧ Hsh.text s = Hsh.chunks k (s.drop n), fun _ at_ _ => s.length - at_.toNat, ⟨0, s.length, rfl, rfl, by omega, Chg.refl _ _, rfl⟩, ?_⟩
 rintro _ _ w1 ⟨n, k, rfl, rfl, hk, hE1, heq⟩
 refine ⟨fun hlt w2 B hN hE2 => ⟨⟨by omega, by omega⟩, fun w3 hE3 hB => ?_⟩, fun hge => ⟨hE1, ?_⟩⟩
 ·rw [Int.toNat_natCast]
  have hne : ¬ s.drop n = [] := fun h => by
   have := congrArg List.length h
   simp only [List.length_drop, List.length_nil] at this; omega
  rw [Hsh.chunks, dif_neg hne] at heq
  generalize hrd : s.drop n = r at heq
  obtain ⟨w4, hr, hC4, hB4⟩ := copy_str (P := Tryz.prog) (dT := 27) (sT := 9) (ty := 3) (xs := r) (n := 8) (c := 8) Tryz.underlying27 ti_5 hB (by simp)
  have hBge : w1.heap.size ≤ B := hN.ge
  have hE4 : Ext w w4 := Chg.fresh ((hE1.trans hE2).trans hE3) hC4 (by simpa using Nat.le_trans hE1.size hBge)
  refine ⟨_, _, hr, (fun _ hb => by cases hb), hC4.size, _, rfl, ?_⟩
  -- the eight cells
  have hns : ∃ ns : List Nat, ns = (r.take 8).map (fun b => b.toNat) ++ List.replicate (8 - min r.length 8) 0 := ⟨_, rfl⟩
  obtain ⟨ns, hns⟩ := hns
  have hnl : ns.length = 8 := by rw [hns, List.length_append, List.length_map, List.length_take, List.length_replicate]; omega
  have hn256 : ∀ x ∈ ns, x < 256 := by
   intro x hx
   rw [hns] at hx
   rcases List.mem_append.1 hx with h | h
   ·simp only [List.mem_map] at h; obtain ⟨b, _, rfl⟩ := h; exact b.toNat_lt
   ·rw [(List.mem_replicate.1 h).2]; decide
  have hnv : val ns = val ((r.take 8).map fun b => b.toNat) := by rw [hns, Hsh.val_pad]
  have hcells : (((r.take 8).map fun x => Value.int .u8 ((x.toNat : Nat) : Int)) ++ [Value.int .u8 0, .int .u8 0, .int .u8 0, .int .u8 0, .int .u8 0, .int .u8 0, .int .u8 0, .int .u8 0].drop (min r.length 8)) = (ns.map fun n => ((n : Nat) : Int)).map (Value.int .u8) := by
   have e : [Value.int .u8 0, .int .u8 0, .int .u8 0, .int .u8 0, .int .u8 0, .int .u8 0, .int .u8 0, .int .u8 0] = List.replicate 8 (Value.int .u8 ((0 : Nat) : Int)) := rfl
   rw [e, List.drop_replicate, hns, List.map_append, List.map_append, List.map_map, List.map_map, List.map_replicate, List.map_replicate]
   rfl
  rw [hcells] at hB4
  obtain ⟨c0, c1, c2, c3, c4, c5, c6, c7, hc⟩ := eight (l := ns.map fun n => ((n : Nat) : Int)) (by rw [List.length_map, hnl])
  rw [hc] at hB4
  have hv := chunk_val r
  refine ⟨c0, c1, c2, c3, c4, c5, c6, c7, hB4.cells, CallK.exact (bitsOf hnl hn256 hc.symm) fun w5 hE5 => ⟨_, rfl, ?_⟩⟩
  rw [hnv]
  refine CallK.exact (bitsMix hk hv) fun w6 hE6 => ⟨_, rfl, ⟨by omega, by omega⟩, ⟨n + 8, _, by omega, rfl, Hsh.mix_lt _ _, hE4.trans (hE5.trans hE6), ?_⟩, by dsimp only; omega⟩
  rw [heq, ← hrd, List.drop_drop]
 ·rw [heq, List.drop_eq_nil_of_le (by omega), Hsh.chunks, dif_pos rfl]
theorem refText {s : Str} (hs : s.length ≤ 1099511627776) {w : World} : Calls Tryz.prog 48 #[.string (Bs s)] w (Ret fun u w' => Ext w w' ∧ u = .int .u64 ((Hsh.text s : Nat) : Int)) := by
 refine ref18_Text.ok _ ?_
 unfold ref18_Text.vc
 have e0 : IntKind.u64.wrap (s.length : Int) = (s.length : Int) := by rw [IntKind.wrap_u64]; omega
 rw [e0]
 refine ⟨fun h at_ w' => ∃ n k : Nat, at_ = (n : Int) ∧ h = (k : Int) ∧ k < 18446744073709551616 ∧ Ext w w' ∧ Hsh.text s = Hsh.chunks k (s.drop n), fun _ at_ _ => s.length - at_.toNat, ⟨0, s.length, rfl, rfl, by omega, Chg.refl _ _, rfl⟩, ?_⟩
 rintro _ _ w1 ⟨n, k, rfl, rfl, hk, hE1, heq⟩
 refine ⟨fun hlt => ⟨⟨by omega, by omega⟩, ⟨by omega, by omega, by omega⟩, ?_⟩, fun hge => ⟨hE1, ?_⟩⟩
 ·rw [Int.toNat_natCast]
  have hne : ¬ s.drop n = [] := fun h => by
   have := congrArg List.length h
   simp only [List.length_drop, List.length_nil] at this; omega
  rw [Hsh.chunks, dif_neg hne] at heq
  have htk : (s.drop n).take ((min ((n : Int) + 8) (s.length : Int)).toNat - n) = (s.drop n).take 8 := by
   rcases Nat.le_total 8 (s.length - n) with h | h
   ·rw [show (min ((n : Int) + 8) (s.length : Int)).toNat - n = 8 by omega]
   ·rw [List.take_of_length_le (by rw [List.length_drop]; omega), List.take_of_length_le (by rw [List.length_drop]; omega)]
  rw [htk]
  have hl8 : ((s.drop n).take 8).length ≤ 8 := by rw [List.length_take]; omega
  have hv := chunk_val (s.drop n)
  obtain ⟨b, w2, hr, hE2, hrd⟩ := convStrB (w := w1) ((s.drop n).take 8) (by omega)
  refine ⟨_, _, hr, hE2.noTouch _, hE2.size, b, rfl, CallK.exact (refOf hrd hl8) fun w3 hE3 => ⟨_, rfl, CallK.exact (refMix hk hv) fun w4 hE4 => ⟨_, rfl, ⟨by omega, by omega⟩, ⟨n + 8, _, by omega, rfl, Hsh.mix_lt _ _, hE1.trans (hE2.trans (hE3.trans hE4)), ?_⟩, by dsimp only; omega⟩⟩⟩
  rw [heq, List.drop_drop]
 ·rw [heq, List.drop_eq_nil_of_le (by omega), Hsh.chunks, dif_pos rfl]
end
section
open Go.RowKit Cdc
def uc (n : Nat) : List Value := [.int .u64 (n : Int)]
theorem ones_uc (n : Nat) : ∀ u ∈ [uc n].flatten, u.oneCell' = true := by intro u hu; simp [uc] at hu; subst hu; rfl
theorem Row.uAt {A : List Nat} {w : World} {s : Sl} {xs : List Nat} (h : Row A w s 1 (xs.map uc)) {k : Nat} (hk : k < xs.length) : ∃ p, s.a = some p ∧ w.cell? (p.add (k * 1)) = some (.int .u64 ((xs.getD k 0 : Nat) : Int)) := by
 obtain ⟨p, h1, _, h3, _⟩ := h.at_ k (by simpa using hk)
 refine ⟨p, h1, ?_⟩
 have := h3 0 (.int .u64 ((xs.getD k 0 : Nat) : Int)) (by simp [List.getD_eq_getElem?_getD, hk, uc])
 rwa [Addr.add_zero'] at this
theorem Row.pairAt {A : List Nat} {s : Sl} {l : List (Str × Str)} {w : World} (h : Row A w s 2 (l.map ac)) {k : Nat} (hk : k < l.length) : ∃ p, s.a = some p ∧ Cells w (p.add (k * 2)) (ac (l.getD k ([], []))) := by
 obtain ⟨p, h1, _, h3, _⟩ := h.at_ k (by simpa using hk)
 refine ⟨p, h1, ?_⟩
 have e : (l.map ac).getD k [] = ac (l.getD k ([], [])) := by simp [List.getD_eq_getElem?_getD, hk]
 rwa [e] at h3
theorem drop_getD {α : Type} (l : List α) (d : α) {k : Nat} (h : k < l.length) : l.drop k = l.getD k d :: l.drop (k + 1) := by
 rw [List.drop_eq_getElem_cons h, List.getD_eq_getElem?_getD, List.getElem?_eq_getElem h]; rfl
theorem wrapKind (k : Int) : IntKind.u64.wrap k = (((IntKind.u64.wrap k).toNat : Nat) : Int) ∧ (IntKind.u64.wrap k).toNat < 18446744073709551616 := by
 rw [IntKind.wrap_u64]; omega
theorem getDIn {α : Type} {l : List α} {d : α} {k : Nat} (h : k < l.length) : l.getD k d ∈ l := by
 rw [List.getD_eq_getElem?_getD, List.getElem?_eq_getElem h]; exact List.getElem_mem h
def own4 (t : T) : Nat := t.attrs.foldl Hsh.attrH (Hsh.mix (Hsh.mix (Hsh.mix (IntKind.u64.wrap t.kind).toNat (Hsh.text t.name)) (Hsh.text t.text)) t.attrs.length)
theorem hT_own (t : T) : Hsh.hT t = (t.kids.map Hsh.hT).foldl Hsh.mix (Hsh.mix (own4 t) t.kids.length) := Hsh.hT_eq t
theorem hashNode {A A' : List Nat} {w : World} {t : T} {sa sl sk : Sl} {ns : List Nat} (ha : Row A w sa 2 (t.attrs.map ac)) (hk : Row A' w sl 1 (ns.map uc)) (hb : t.bulk ≤ 1099511627776) (hn : ∀ x ∈ ns, x < 18446744073709551616) (hnl : ns.length ≤ 1099511627776) :
  Calls Tryz.prog 114 #[.agg #[.int .i64 t.kind, .string (Bs t.name), .string (Bs t.text), sa.v, sk.v], sl.v] w (Ret fun u w' => Ext w w' ∧ u = .int .u64 ((ns.foldl Hsh.mix (Hsh.mix (own4 t) ns.length) : Nat) : Int)) := by
 refine hash_node.ok _ _ _ _ _ _ ?_
 unfold hash_node.vc
 have hbe := T.bulk_eq t
 have hal := ha.len
 have hkl := hk.len
 rw [List.length_map] at hal hkl
 have hab := T.len_abulk t.attrs
 obtain ⟨wk1, wk2⟩ := wrapKind t.kind
 have hE : ∀ p ∈ t.attrs, p.1.length ≤ 1099511627776 ∧ p.2.length ≤ 1099511627776 := fun p hp => by have := T.attr_bulk hp; omega
 intro w1 B1 _ hE1
 refine CallK.exact (hashText (s := t.name) (by omega)) fun w2 hE2 => ⟨_, rfl, ?_⟩
 rw [wk1]
 have t1 := Hsh.text_lt t.name (by omega)
 have t2 := Hsh.text_lt t.text (by omega)
 refine CallK.exact (bitsMix wk2 t1) fun w3 hE3 => ⟨_, rfl, CallK.exact (hashText (s := t.text) (by omega)) fun w4 hE4 => ⟨_, rfl, CallK.exact (bitsMix (Hsh.mix_lt _ _) t2) fun w5 hE5 => ⟨_, rfl, ?_⟩⟩⟩
 have e1 : IntKind.u64.wrap (sa.n : Int) = ((t.attrs.length : Nat) : Int) := by rw [IntKind.wrap_u64]; omega
 have e2 : IntKind.u64.wrap (sl.n : Int) = ((ns.length : Nat) : Int) := by rw [IntKind.wrap_u64]; omega
 rw [e1, e2]
 refine CallK.exact (bitsMix (Hsh.mix_lt _ _) (by omega)) fun w6 hE6 => ⟨_, rfl, ?_⟩
 have hE06 := hE1.trans (hE2.trans (hE3.trans (hE4.trans (hE5.trans hE6))))
 refine ⟨fun h x w' => ∃ n k : Nat, x = (n : Int) ∧ n ≤ t.attrs.length ∧ h = (k : Int) ∧ k < 18446744073709551616 ∧ Ext w w' ∧ own4 t = (t.attrs.drop n).foldl Hsh.attrH k, fun _ x _ => t.attrs.length - x.toNat, ⟨0, _, rfl, by omega, rfl, Hsh.mix_lt _ _, hE06, rfl⟩, ?_⟩
 rintro _ _ w7 ⟨n, k, rfl, hnn, rfl, hk7, hE7, heq⟩
 refine ⟨fun hlt => ?_, fun hge => ?_⟩
 ·have hn' : n < t.attrs.length := by omega
  obtain ⟨p, hp, hc⟩ := (ha.ext hE7).pairAt hn'
  rw [drop_getD t.attrs ([], []) hn', List.foldl_cons] at heq
  have hpb := hE _ (getDIn (d := ([], [])) hn')
  generalize t.attrs.getD n ([], []) = q at hc heq hpb
  refine ⟨⟨by omega, by omega⟩, p, hp, q.1, q.2, by rw [Int.toNat_natCast]; exact hc, fun w8 B8 _ hE8 => ?_⟩
  refine CallK.exact (hashText (s := q.1) hpb.1) fun w9 hE9 => ⟨_, rfl, CallK.exact (bitsMix hk7 (Hsh.text_lt q.1 (by omega))) fun w10 hE10 => ⟨_, rfl, CallK.exact (hashText (s := q.2) hpb.2) fun w11 hE11 => ⟨_, rfl, CallK.exact (bitsMix (Hsh.mix_lt _ _) (Hsh.text_lt q.2 (by omega))) fun w12 hE12 => ⟨_, rfl, ⟨by omega, by omega⟩, ⟨n + 1, _, by omega, by omega, rfl, Hsh.mix_lt _ _, hE7.trans (hE8.trans (hE9.trans (hE10.trans (hE11.trans hE12)))), heq⟩, by dsimp only; omega⟩⟩⟩⟩
 ·have hnl' : n = t.attrs.length := by omega
  rw [hnl', List.drop_length, List.foldl_nil] at heq
  refine CallK.exact (bitsMix hk7 (by omega)) fun w8 hE8 => ⟨_, rfl, ?_⟩
  rw [← heq]
  refine ⟨fun h x w' => ∃ n k : Nat, x = (n : Int) ∧ n ≤ ns.length ∧ h = (k : Int) ∧ k < 18446744073709551616 ∧ Ext w w' ∧ ns.foldl Hsh.mix (Hsh.mix (own4 t) ns.length) = (ns.drop n).foldl Hsh.mix k, fun _ x _ => ns.length - x.toNat, ⟨0, _, rfl, by omega, rfl, Hsh.mix_lt _ _, hE7.trans hE8, rfl⟩, ?_⟩
  rintro _ _ w9 ⟨m, j, rfl, hm, rfl, hj, hE9, heq9⟩
  refine ⟨fun hlt => ?_, fun hge => ⟨hE9, ?_⟩⟩
  ·have hm' : m < ns.length := by omega
   obtain ⟨p, hp, hc⟩ := (hk.ext hE9).uAt hm'
   rw [drop_getD ns 0 hm', List.foldl_cons] at heq9
   have hx := hn _ (getDIn (d := 0) hm')
   generalize ns.getD m 0 = x at hc heq9 hx
   refine ⟨⟨by omega, by omega⟩, p, hp, _, by rw [Int.toNat_natCast]; exact hc, CallK.exact (bitsMix hj hx) fun w10 hE10 => ⟨_, rfl, ⟨by omega, by omega⟩, ⟨m + 1, _, by omega, by omega, rfl, Hsh.mix_lt _ _, hE9.trans hE10, heq9⟩, by dsimp only; omega⟩⟩
  ·rw [heq9, show m = ns.length by omega, List.drop_length]; rfl
theorem ref18Of {A : List Nat} : ∀ t : T, t.bulk ≤ 1099511627776 → ∀ {w : World} {sa sk : Sl}, RdT A w t sa sk →
  Calls Tryz.prog 18 #[tv t sa sk] w (Ret fun u w' => Ext w w' ∧ u = .int .u64 ((Hsh.hT t : Nat) : Int)) := T.ind' fun t ih hb w sa sk hr => by
 refine ref18_Of.ok _ _ _ _ _ ?_
 unfold ref18_Of.vc
 have hbe := T.bulk_eq t
 have hal := hr.nattrs
 have hkl := hr.nkids
 have hkb := T.kids_len t
 have hab := T.len_abulk t.attrs
 obtain ⟨wk1, wk2⟩ := wrapKind t.kind
 have hE : ∀ p ∈ t.attrs, p.1.length ≤ 1099511627776 ∧ p.2.length ≤ 1099511627776 := fun p hp => by have := T.attr_bulk hp; omega
 have t1 := Hsh.text_lt t.name (by omega)
 have t2 := Hsh.text_lt t.text (by omega)
 intro w1 B1 _ hE1
 rw [wk1]
 refine ⟨_, fun w' _ => refText (s := t.name) (by omega), _, fun w' _ => refMix wk2 t1, fun w2 hE2 => ?_⟩
 refine CallK.exact (refText (s := t.text) (by omega)) fun w3 hE3 => ⟨_, rfl, CallK.exact (refMix (Hsh.mix_lt _ _) t2) fun w4 hE4 => ⟨_, rfl, ?_⟩⟩
 have e1 : IntKind.u64.wrap (sa.n : Int) = ((t.attrs.length : Nat) : Int) := by rw [IntKind.wrap_u64]; omega
 have e2 : IntKind.u64.wrap (sk.n : Int) = ((t.kids.length : Nat) : Int) := by rw [IntKind.wrap_u64]; omega
 rw [e1, e2]
 refine CallK.exact (refMix (Hsh.mix_lt _ _) (by omega)) fun w6 hE6 => ⟨_, rfl, ?_⟩
 have hE06 := hE1.trans (hE2.trans (hE3.trans (hE4.trans hE6)))
 refine ⟨fun h x w' => ∃ n k : Nat, x = (n : Int) ∧ n ≤ t.attrs.length ∧ h = (k : Int) ∧ k < 18446744073709551616 ∧ Ext w w' ∧ own4 t = (t.attrs.drop n).foldl Hsh.attrH k, fun _ x _ => t.attrs.length - x.toNat, ⟨0, _, rfl, by omega, rfl, Hsh.mix_lt _ _, hE06, rfl⟩, ?_⟩
 rintro _ _ w7 ⟨n, k, rfl, hnn, rfl, hk7, hE7, heq⟩
 refine ⟨fun hlt => ?_, fun hge => ?_⟩
 ·have hn' : n < t.attrs.length := by omega
  obtain ⟨p, hp, _⟩ := hr.attrs.pairAt hn'
  have hcell : ∀ w', Ext w w' → Cells w' (p.add (n * 2)) (ac (t.attrs.getD n ([], []))) := fun w' hE' => by
   obtain ⟨p', hp', hc'⟩ := (hr.attrs.ext hE').pairAt hn'
   rw [hp] at hp'; cases hp'; exact hc'
  rw [drop_getD t.attrs ([], []) hn', List.foldl_cons] at heq
  have hpb := hE _ (getDIn (d := ([], [])) hn')
  generalize t.attrs.getD n ([], []) = q at hcell heq hpb
  refine ⟨⟨by omega, by omega⟩, p, hp, q.1, by rw [Int.toNat_natCast]; exact hcell w7 hE7 0 _ rfl, CallK.exact (refText (s := q.1) hpb.1) fun w9 hE9 => ⟨_, rfl, CallK.exact (refMix hk7 (Hsh.text_lt q.1 (by omega))) fun w10 hE10 => ⟨_, rfl, ⟨by omega, by omega⟩, p, hp, q.2, ?_, ?_⟩⟩⟩
  ·rw [Int.toNat_natCast]; exact hcell w10 (hE7.trans (hE9.trans hE10)) 1 _ rfl
  ·exact CallK.exact (refText (s := q.2) hpb.2) fun w11 hE11 => ⟨_, rfl, CallK.exact (refMix (Hsh.mix_lt _ _) (Hsh.text_lt q.2 (by omega))) fun w12 hE12 => ⟨_, rfl, ⟨by omega, by omega⟩, ⟨n + 1, _, by omega, by omega, rfl, Hsh.mix_lt _ _, hE7.trans (hE9.trans (hE10.trans (hE11.trans hE12))), heq⟩, by dsimp only; omega⟩⟩
 ·have hnl' : n = t.attrs.length := by omega
  rw [hnl', List.drop_length, List.foldl_nil] at heq
  refine CallK.exact (refMix hk7 (by omega)) fun w8 hE8 => ⟨_, rfl, ?_⟩
  rw [← heq]
  refine ⟨fun h x w' => ∃ n k : Nat, x = (n : Int) ∧ n ≤ t.kids.length ∧ h = (k : Int) ∧ k < 18446744073709551616 ∧ Ext w w' ∧ Hsh.hT t = ((t.kids.drop n).map Hsh.hT).foldl Hsh.mix k, fun _ x _ => t.kids.length - x.toNat, ⟨0, _, rfl, by omega, rfl, Hsh.mix_lt _ _, hE7.trans hE8, hT_own t⟩, ?_⟩
  rintro _ _ w9 ⟨m, j, rfl, hm, rfl, hj, hE9, heq9⟩
  refine ⟨fun hlt => ?_, fun hge => ⟨hE9, ?_⟩⟩
  ·have hm' : m < t.kids.length := by omega
   obtain ⟨p, sa', sk', hp, _, hc, hrk⟩ := (hr.ext hE9).kid hm'
   rw [drop_getD t.kids T.nul hm', List.map_cons, List.foldl_cons] at heq9
   have hx := getD_mem (d := T.nul) hm'
   generalize t.kids.getD m T.nul = u at hc heq9 hx hrk
   have hub := T.kid_bulk hx
   refine ⟨⟨by omega, by omega⟩, p, hp, u.kind, u.name, u.text, sa', sk', by rw [Int.toNat_natCast]; exact hc, CallK.exact (ih u hx (by omega) hrk) fun w10 hE10 => ⟨_, rfl, CallK.exact (refMix hj (Hsh.hT_lt u)) fun w11 hE11 => ⟨_, rfl, ⟨by omega, by omega⟩, ⟨m + 1, _, by omega, by omega, rfl, Hsh.mix_lt _ _, hE9.trans (hE10.trans hE11), heq9⟩, by dsimp only; omega⟩⟩⟩
  ·rw [heq9, show m = t.kids.length by omega, List.drop_length]; rfl
end
section
open Go.RowKit Cdc
theorem kidsE_drop : ∀ (us : List T), (∀ u ∈ us, ∀ (id : Nat) (p : Int) (d pl : Nat) (j : Nat) (e : En), (u.ents id p d pl)[j]? = some e → ∃ rest, (u.ents id p d pl).drop j = e.t.ents (id + j) e.par e.dep e.pl ++ rest) →
  ∀ (nx : Nat) (p : Int) (d i : Nat) (j : Nat) (e : En), (kidsE us nx p d i)[j]? = some e → ∃ rest, (kidsE us nx p d i).drop j = e.t.ents (nx + j) e.par e.dep e.pl ++ rest
 |[], _, nx, p, d, i, j, e, he => by simp [kidsE_nil] at he
 |u :: us, h, nx, p, d, i, j, e, he => by
  rw [kidsE_cons] at he ⊢
  have hl := T.ents_len u nx p d i
  by_cases hj : j < u.size
  ·rw [List.getElem?_append_left (by rw [hl]; exact hj)] at he
   obtain ⟨rest, hr⟩ := h u (by simp) nx p d i j e he
   exact ⟨rest ++ kidsE us (nx + u.size) p d (i + 1), by rw [List.drop_append_of_le_length (by rw [hl]; omega), hr, List.append_assoc]⟩
  ·rw [List.getElem?_append_right (by rw [hl]; omega), hl] at he
   obtain ⟨rest, hr⟩ := kidsE_drop us (fun v hv => h v (by simp [hv])) (nx + u.size) p d (i + 1) (j - u.size) e he
   refine ⟨rest, ?_⟩
   rw [List.drop_append, List.drop_eq_nil_of_le (by rw [hl]; omega), List.nil_append, hl, hr]
   rw [show nx + u.size + (j - u.size) = nx + j by omega]
theorem T.ents_drop : ∀ (t : T) (id : Nat) (p : Int) (d pl : Nat) (j : Nat) (e : En), (t.ents id p d pl)[j]? = some e → ∃ rest, (t.ents id p d pl).drop j = e.t.ents (id + j) e.par e.dep e.pl ++ rest := T.ind' fun t ih id p d pl j e he => by
 cases j with
 |zero =>
  rw [T.ents_eq] at he
  simp only [List.getElem?_cons_zero, Option.some.injEq] at he
  subst he
  exact ⟨[], by simp⟩
 |succ j =>
  rw [T.ents_eq] at he ⊢
  rw [List.getElem?_cons_succ] at he
  obtain ⟨rest, hr⟩ := kidsE_drop t.kids ih (id + 1) id (d + 1) 0 j e he
  refine ⟨rest, ?_⟩
  rw [List.drop_succ_cons, hr, show id + 1 + j = id + (j + 1) by omega]
theorem T.flat_kids (t : T) {j : Nat} (hj : j < t.size) : ∃ d rest, t.flat.drop (j + 1) = kidsE (t.nd j).t.kids (j + 1) (j : Int) d 0 ++ rest := by
 obtain ⟨rest, hr⟩ := t.ents_drop 0 (-1) 0 0 j _ (t.flat_get hj)
 refine ⟨(t.nd j).dep + 1, rest, ?_⟩
 have h2 : t.flat.drop j = (t.nd j).t.ents j (t.nd j).par (t.nd j).dep (t.nd j).pl ++ rest := by
  rw [Nat.zero_add] at hr; exact hr
 rw [T.ents_eq] at h2
 have h3 : t.flat.drop (j + 1) = (t.flat.drop j).drop 1 := by rw [List.drop_drop]
 rw [h3, h2]; rfl
theorem T.flat_next (t : T) {u : T} {us : List T} {k : Nat} {p : Int} {d i : Nat} {rest : List En} (h : t.flat.drop k = kidsE (u :: us) k p d i ++ rest) :
  k < t.size ∧ (t.nd k).t = u ∧ t.zAt k = u.size ∧ t.flat.drop (k + u.size) = kidsE us (k + u.size) p d (i + 1) ++ rest := by
 rw [kidsE_cons, List.append_assoc] at h
 have hl := T.ents_len u k p d i
 have hpos := T.size_pos u
 have hlen := congrArg List.length h
 rw [List.length_drop, T.flat_len, List.length_append, hl] at hlen
 have hk : k < t.size := by omega
 have hget := t.flat_get hk
 have h0 : (t.flat.drop k)[0]? = some ⟨p, d, i, u⟩ := by rw [h, T.ents_eq]; rfl
 rw [List.getElem?_drop, Nat.add_zero, hget] at h0
 have he : t.nd k = ⟨p, d, i, u⟩ := Option.some.inj h0
 have hz : t.zAt k = (t.nd k).t.size := rfl
 refine ⟨hk, by rw [he], by rw [hz, he], ?_⟩
 have h3 : t.flat.drop (k + u.size) = (t.flat.drop k).drop u.size := by rw [List.drop_drop]
 rw [h3, h, ← hl, List.drop_left, hl]
theorem flatten_uc (vs : List Nat) : (vs.map uc).flatten = vs.map fun n => .int .u64 ((n : Nat) : Int) := by
 induction vs with
 |nil => rfl
 |cons x r ih => simp only [List.map_cons, List.flatten_cons, ih, uc, List.singleton_append]
theorem Own.setU {A : List Nat} {w : World} {s : Sl} {S : TypeId} {vs : List Nat} (h : Own A w s 1 S (vs.map uc)) {i : Nat} (hi : i < vs.length) :
  ∃ g cur, s.a = some ⟨g, 0, none⟩ ∧ Box w g S cur ∧ i + 1 ≤ cur.length ∧ ∀ w' (x : Nat), Box w' g S (putAt cur i [.int .u64 ((x : Nat) : Int)]) → Own A w' s 1 S ((vs.set i x).map uc) := by
 have hl := h.len
 rw [List.length_map] at hl
 rcases h.at_ with e | ⟨g, cur, h1, h2, h3, h4, h5⟩
 ·rw [e] at hl; simp [Sl.nil] at hl; omega
 ·have hc := h.cap
  refine ⟨g, cur, h1, h3, by omega, fun w' x hB => ⟨by simpa using hl, h.cap, h.most, ?_, .inr ⟨g, cur.set i (.int .u64 ((x : Nat) : Int)), h1, h2, hB, by simpa using h4, ?_⟩⟩⟩
  ·intro u hu
   simp only [List.mem_map] at hu
   obtain ⟨y, _, rfl⟩ := hu; rfl
  ·rw [flatten_uc] at h5 ⊢
   rw [List.map_set, ← h5, List.take_set]
theorem Cells.from {w : World} {p : Addr} {cs : List Value} (h : Cells w p cs) (n : Nat) : Cells w (p.add n) (cs.drop n) := fun j v hv => by
 rw [List.getElem?_drop] at hv
 rw [Addr.add_add]; exact h (n + j) v hv
theorem hashAll {A : List Nat} {t : T} (hb : t.bulk ≤ 1000000000) {w : World} {sa sk : Sl} (hr : RdT A w t sa sk) :
  Calls Tryz.prog 63 #[tv t sa sk] w (Ret fun v w' => Ext w w' ∧ ∃ (s : Sl) (vs : List Nat), v = s.v ∧ Row [] w' s 1 (vs.map uc) ∧ vs.length = t.size ∧ ∀ j, j < t.size → vs.getD j 0 = Hsh.hT (t.nd j).t) := by
 refine hash_All.ok _ _ _ _ _ ?_
 unfold hash_All.vc
 have hsz := T.size_bulk t
 intro w1 B1 _ hE1
 refine CallK.ext (walkFlat hb (hr.ext hE1)) ?_
 rintro v w2 hE2 ⟨s, rfl, hI⟩
 have hsn := hI.cell.1
 refine ⟨s, rfl, ?_⟩
 rw [hsn]
 refine makeRow (A := []) (n := t.size) Tryz.underlying108 ti_22 rfl (by omega) (by omega) (by simp) fun w3 hO3 hE3 => ⟨_, rfl, ⟨by omega, by omega⟩, ?_⟩
 obtain ⟨g, hg⟩ : ∃ g, g = w2.heap.size := ⟨_, rfl⟩
 rw [← hg] at hO3 ⊢
 have hI3 : Items [g] w3 s t := ((hI.fresh (Nat.le_of_eq hg.symm)).less (by simp)).ext hE3
 have hE03 := hE1.trans (hE2.trans hE3)
 have hge : w.heap.size ≤ g := by rw [hg]; exact (hE1.trans hE2).size
 refine ⟨fun i w' => ∃ (k : Nat) (vs : List Nat), i = (k : Int) - 1 ∧ k ≤ t.size ∧ Chg [g] w3 w' ∧ Own [] w' ⟨some ⟨g, 0, none⟩, t.size, t.size⟩ 1 22 (vs.map uc) ∧ vs.length = t.size ∧ ∀ j, k ≤ j → j < t.size → vs.getD j 0 = Hsh.hT (t.nd j).t, fun i _ => (i + 1).toNat,
  ⟨t.size, List.replicate t.size 0, by omega, by omega, Chg.refl _ _, by rw [List.map_replicate]; exact hO3, by simp, fun j h1 h2 => by omega⟩, ?_⟩
 rintro _ w4 ⟨k, vs, rfl, hk, hC4, hO4, hvl, hvs⟩
 have hE04 : Ext w w4 := Chg.fresh hE03 hC4 (by simpa using hge)
 refine ⟨fun h0 => ?_, fun hneg => ⟨hE04, _, vs, rfl, hO4.row, hvl, fun j hj => hvs j (by omega) hj⟩⟩
 obtain ⟨i, rfl⟩ : ∃ i, k = i + 1 := ⟨k - 1, by omega⟩
 have hi : i < t.size := by omega
 rw [show (((i + 1 : Nat) : Int) - 1) = (i : Int) by omega]
 obtain ⟨d, rest, hfk⟩ := t.flat_kids hi
 have hzi : t.zAt i = 1 + ((t.nd i).t.kids.map T.size).sum := T.size_eq (t.nd i).t
 have hend := t.zAt_end hi
 have hI4 : ∀ w', Ext w4 w' → Items [g] w' s t := fun w' hE => (hI3.chg hC4 (by simp)).ext hE
 have hnb : (t.nd i).t.bulk ≤ t.bulk := by
  refine T.flat_bulk t _ ?_
  unfold T.nd
  rw [List.getD_eq_getElem?_getD, List.getElem?_eq_getElem (by rw [T.flat_len]; exact hi)]; exact List.getElem_mem _
 generalize hu : (t.nd i).t = u at *
 have hkl := T.kids_len u
 refine ⟨⟨by omega, by omega⟩, fun ks k w' => ∃ (k' : Nat) (us : List T) (hs : List Nat) (ix : Nat), k = (k' : Int) ∧ i < k' ∧ t.flat.drop k' = kidsE us k' (i : Int) d ix ++ rest ∧ k' + (us.map T.size).sum = i + t.zAt i ∧ Own [] w' ks 1 22 (hs.map uc) ∧ (∀ b ∈ ks.blk, w4.heap.size ≤ b) ∧ hs ++ us.map Hsh.hT = u.kids.map Hsh.hT ∧ Ext w4 w', fun _ k _ => t.size - k.toNat,
  ⟨i + 1, u.kids, [], 0, by omega, by omega, hfk, by omega, Own.nil _ _ _ _, by simp [Sl.blk], rfl, Chg.refl _ _⟩, ?_⟩
 rintro ks _ w5 ⟨k, us, hs, ix, rfl, hik, hfl, hsum, hO5, hb5, hhs, hE5⟩
 obtain ⟨_, p, al, hp, hcells⟩ := (hI4 w5 hE5).cell
 have hc1 := (hcells i hi).1
 have hks := congrArg List.length hhs
 rw [List.length_append, List.length_map, List.length_map] at hks
 have hOl := hO5.len
 rw [List.length_map] at hOl
 refine ⟨⟨by omega, by omega⟩, p, hp, (t.zAt i : Int), by rw [Int.toNat_natCast]; exact hc1 1 _ rfl, ⟨by omega, by omega⟩, fun hlt => ?_, fun hge5 => ?_⟩
 ·cases us with
  |nil => simp at hsum; omega
  |cons x us =>
   obtain ⟨hkt, hxk, hzk, hnext⟩ := t.flat_next hfl
   have hv := hvs k (by omega) hkt
   rw [hxk] at hv
   obtain ⟨q, hq, hcv⟩ := ((hO4.ext hE5).row).uAt (k := k) (by omega)
   rw [hv] at hcv
   have hzk' := (t.zAt_end hkt).1
   simp only [List.map_cons, List.sum_cons] at hsum
   refine ⟨⟨by omega, by simp; omega⟩, q, hq, _, by rw [Int.toNat_natCast]; exact hcv, fun w6 B6 hN6 hE6 hB6 => ?_⟩
   refine App.runK Tryz.underlying108 ti_22 rfl (by decide) (.inl (hO5.ext hE6)) (by simp) (Own.many (us := [uc (Hsh.hT x)]) hB6 (by simp [uc]) (by simp [maxLen]) (by simp)).row (ones_uc _) (by simp) (by simp [maxLen]; omega) (by simp; omega) (by simp) fun s' w7 hO7 hC7 hb7 => ?_
   have hE7 : Ext w4 w7 := Chg.fresh (hE5.trans hE6) hC7 (fun b hb => hb5 b (Sl.own_blk hb))
   obtain ⟨_, p', al', hp', hcells'⟩ := (hI4 w7 hE7).cell
   rw [hp] at hp'; cases hp'
   refine ⟨s', rfl, ⟨by omega, by omega⟩, p, hp, (t.zAt k : Int), by rw [Int.toNat_natCast]; exact (hcells' k hkt).1 1 _ rfl, ⟨by omega, by omega⟩, ⟨k + x.size, us, hs ++ [Hsh.hT x], ix + 1, by rw [hzk]; push_cast; rfl, by omega, hnext, by omega, by simpa using hO7, fun b hb => (hb7 b hb).elim (fun h => hb5 b (Sl.own_blk h)) (fun h => Nat.le_trans (hE5.trans hE6).size h), by rw [← hhs]; simp, hE7⟩, ?_⟩
   have := T.size_pos x
   dsimp only
   omega
 ·have hus : us = [] := by
   cases us with
   |nil => rfl
   |cons x us =>
    have := T.size_pos x
    simp only [List.map_cons, List.sum_cons] at hsum; omega
  subst hus
  rw [List.map_nil, List.append_nil] at hhs
  have hc5 := hc1.from 5
  rw [Addr.add_add] at hc5
  have hrow := (hcells i hi).2
  rw [hu] at hrow
  refine ⟨⟨by omega, by omega⟩, p, hp, u.kind, u.name, u.text, al.getD i Sl.nil, Sl.nil, ?_, ?_⟩
  ·rw [Int.toNat_natCast, Addr.add_add]
   have e : (itc (t.nd i) (al.getD i Sl.nil) (t.zAt i) (t.hAt i)).drop 5 = [.int .i64 u.kind, .string (Bs u.name), .string (Bs u.text), (al.getD i Sl.nil).v, Sl.nil.v] := by
    rw [← hu]; rfl
   rw [e] at hc5; exact hc5
  have hns : ∀ x ∈ hs, x < 18446744073709551616 := by
   rw [hhs]; intro x hx
   simp only [List.mem_map] at hx
   obtain ⟨y, _, rfl⟩ := hx; exact Hsh.hT_lt y
  refine CallK.exact (hashNode hrow hO5.row (by omega) hns (by omega)) fun w6 hE6 => ⟨_, rfl, ⟨by omega, by simp; omega⟩, _, rfl, ?_⟩
  have hval : hs.foldl Hsh.mix (Hsh.mix (own4 u) hs.length) = Hsh.hT u := by rw [hT_own, hhs, List.length_map]
  rw [hval]
  obtain ⟨g', cur, hga, hB, hcl, hput⟩ := (hO4.ext (hE5.trans hE6)).setU (i := i) (by omega)
  cases hga
  refine ⟨g, i, _, cur, by rw [Addr.add_lit, Nat.zero_add, Nat.mul_one, Int.toNat_natCast], hB, by omega, (fun _ hb => by cases hb), fun w7 hC7 hB7 => ⟨⟨by omega, by omega⟩, ⟨i, vs.set i (Hsh.hT u), rfl, by omega, (hC4.trans (hE5.trans hE6).ext).trans hC7, hput w7 _ hB7, by simpa using hvl, fun j hj1 hj2 => ?_⟩, by dsimp only; omega⟩⟩
  by_cases hji : i = j
  ·subst hji
   rw [List.getD_eq_getElem?_getD, List.getElem?_set_self (by omega), hu]; rfl
  ·have := hvs j (by omega) hj2
   rw [List.getD_eq_getElem?_getD, List.getElem?_set_ne hji, ← List.getD_eq_getElem?_getD]; exact this
theorem hashOf {A : List Nat} {t : T} (hb : t.bulk ≤ 1000000000) {w : World} {sa sk : Sl} (hr : RdT A w t sa sk) :
  Calls Tryz.prog 36 #[tv t sa sk] w (Ret fun u w' => Ext w w' ∧ u = .int .u64 ((Hsh.hT t : Nat) : Int)) := by
 refine hash_Of.ok _ _ _ _ _ ?_
 unfold hash_Of.vc
 intro w1 B1 _ hE1
 refine CallK.ext (hashAll hb (hr.ext hE1)) ?_
 rintro v w2 hE2 ⟨s, vs, rfl, hR, hl, hv⟩
 have hpos := T.size_pos t
 have hsl := hR.len
 rw [List.length_map] at hsl
 obtain ⟨p, hp, hc⟩ := hR.uAt (k := 0) (by omega)
 have h0 : (t.nd 0).t = t := by unfold T.nd; rw [List.getD_eq_getElem?_getD, t.flat_zero]; rfl
 rw [hv 0 hpos, h0] at hc
 exact ⟨s, rfl, ⟨by omega, by omega⟩, p, hp, _, hc, hE1.trans hE2, rfl⟩
end
section
open Go.RowKit
theorem ones_ics (l : List Int) : ∀ u ∈ (l.map ic).flatten, u.oneCell' = true := by
 intro u hu
 obtain ⟨l1, h1, h2⟩ := List.mem_flatten.1 hu
 obtain ⟨z, _, rfl⟩ := List.mem_map.1 h1
 simp [ic] at h2; subst h2; rfl
theorem Row.int {A : List Nat} {w : World} {s : Sl} {l : List Int} (h : Row A w s 1 (l.map ic)) {k : Nat} (hk : k < l.length) : ∃ p, s.a = some p ∧ w.cell? (p.add (k * 1)) = some (.int .i64 (l.getD k 0)) := by
 obtain ⟨p, hp, _, hc, _⟩ := h.at_ k (by simpa using hk)
 refine ⟨p, hp, ?_⟩
 have e : (l.map ic).getD k [] = ic (l.getD k 0) := by simp [List.getD_eq_getElem?_getD, hk]
 rw [e] at hc
 have := hc 0 _ rfl
 rwa [Addr.add_zero'] at this
end
section
open Go.RowKit
def insAt {α : Type} (i : Nat) (u : α) (l : List α) : List α := l.take i ++ u :: l.drop i
inductive I where
 |node (id kind : Int) (name text : Str) (attrs : List (Str × Str)) (kids : List I)
structure Rec where
 id : Int
 par : Int
 kind : Int
 name : Str
 text : Str
 attrs : List (Str × Str)
 kids : List Int
theorem inj_of_nodup {α β : Type} {f : α → β} : ∀ {l : List α}, (l.map f).Nodup → ∀ {x y : α}, x ∈ l → y ∈ l → f x = f y → x = y
 |[], _, _, _, h, _, _ => by cases h
 |a :: r, hn, x, y, hx, hy, e => by
  rw [List.map_cons] at hn
  obtain ⟨h1, h2⟩ := List.nodup_cons.1 hn
  rcases List.mem_cons.1 hx with hx | hx
  ·rcases List.mem_cons.1 hy with hy | hy
   ·rw [hx, hy]
   ·exact absurd (by rw [← hx, e]; exact List.mem_map_of_mem hy) h1
  ·rcases List.mem_cons.1 hy with hy | hy
   ·exact absurd (by rw [← hy, ← e]; exact List.mem_map_of_mem hx) h1
   ·exact inj_of_nodup h2 hx hy e
namespace I
def id : I → Int | .node i _ _ _ _ _ => i
def kind : I → Int | .node _ k _ _ _ _ => k
def name : I → Str | .node _ _ n _ _ _ => n
def text : I → Str | .node _ _ _ x _ _ => x
def attrs : I → List (Str × Str) | .node _ _ _ _ a _ => a
def kids : I → List I | .node _ _ _ _ _ ks => ks
theorem ind {P : I → Prop} (h : ∀ i k n x ats ks, (∀ t ∈ ks, P t) → P (.node i k n x ats ks)) : ∀ t, P t
 |.node i k n x ats ks => h i k n x ats ks fun t _ => ind h t
theorem ind' {P : I → Prop} (h : ∀ t, (∀ u ∈ t.kids, P u) → P t) : ∀ t, P t := ind fun _ _ _ _ _ _ ih => h _ ih
theorem mk_id (i k : Int) (n x : Str) (a : List (Str × Str)) (ks : List I) : (node i k n x a ks).id = i := rfl
theorem mk_kind (i k : Int) (n x : Str) (a : List (Str × Str)) (ks : List I) : (node i k n x a ks).kind = k := rfl
theorem mk_name (i k : Int) (n x : Str) (a : List (Str × Str)) (ks : List I) : (node i k n x a ks).name = n := rfl
theorem mk_text (i k : Int) (n x : Str) (a : List (Str × Str)) (ks : List I) : (node i k n x a ks).text = x := rfl
theorem mk_attrs (i k : Int) (n x : Str) (a : List (Str × Str)) (ks : List I) : (node i k n x a ks).attrs = a := rfl
theorem mk_kids (i k : Int) (n x : Str) (a : List (Str × Str)) (ks : List I) : (node i k n x a ks).kids = ks := rfl
def toT : I → T | .node _ k n x a ks => .node k n x a (ks.attach.map fun ⟨u, _⟩ => toT u)
theorem toT_eq (s : I) : s.toT = .node s.kind s.name s.text s.attrs (s.kids.map toT) := by cases s; rw [toT]; simp [kind, name, text, attrs, kids]
def rec0 (s : I) (p : Int) : Rec := ⟨s.id, p, s.kind, s.name, s.text, s.attrs, s.kids.map I.id⟩
def all : I → Int → Nat → List (I × Int × Nat) | .node i k n x a ks, p, d => (.node i k n x a ks, p, d) :: (ks.attach.map fun ⟨u, _⟩ => all u i (d + 1)).flatten
theorem all_eq (s : I) (p : Int) (d : Nat) : s.all p d = (s, p, d) :: s.kids.flatMap fun u => u.all s.id (d + 1) := by
 cases s with
 |node i k n x a ks =>
  rw [all, List.flatMap]
  congr 2
  exact List.attach_map_val (f := fun u => all u i (d + 1))
def recs (s : I) (p : Int) : List Rec := (s.all p 1).map fun e => e.1.rec0 e.2.1
theorem map_flatMap_congr {α β γ : Type} {f : β → γ} {g : α → List β} {h : α → List γ} : ∀ {l : List α}, (∀ x ∈ l, (g x).map f = h x) → (l.flatMap g).map f = l.flatMap h
 |[], _ => rfl
 |x :: r, e => by
  rw [List.flatMap_cons, List.flatMap_cons, List.map_append, e x (by simp), map_flatMap_congr (fun y hy => e y (by simp [hy]))]
theorem all_recs : ∀ (s : I) (p : Int) (d : Nat), ((s.all p d).map fun e => e.1.rec0 e.2.1) = s.recs p := ind' fun s ih p d => by
 unfold recs
 rw [all_eq, all_eq s p 1, List.map_cons, List.map_cons, map_flatMap_congr (fun u hu => ih u hu s.id (d + 1)), map_flatMap_congr (fun u hu => ih u hu s.id (1 + 1))]
theorem recs_eq (s : I) (p : Int) : s.recs p = s.rec0 p :: s.kids.flatMap fun u => u.recs s.id := by
 unfold recs
 rw [all_eq, List.map_cons, map_flatMap_congr (fun u _ => all_recs u s.id (1 + 1))]; rfl
def ids (s : I) : List Int := (s.recs 0).map Rec.id
theorem recs_ids : ∀ (s : I) (p q : Int), (s.recs p).map Rec.id = (s.recs q).map Rec.id := fun s p q => by
 rw [recs_eq, recs_eq, List.map_cons, List.map_cons]; rfl
theorem ids_eq (s : I) : s.ids = s.id :: s.kids.flatMap ids := by
 unfold ids
 rw [recs_eq, List.map_cons, map_flatMap_congr (fun u _ => recs_ids u s.id 0)]; rfl
theorem recs_id (s : I) (p : Int) : (s.recs p).map Rec.id = s.ids := recs_ids s p 0
theorem id_mem (s : I) : s.id ∈ s.ids := by rw [ids_eq]; simp
def ins : I → Int → Nat → I → I | .node id k n x a ks, p, i, u => if id = p then .node id k n x a (insAt i u ks) else .node id k n x a (ks.attach.map fun ⟨v, _⟩ => ins v p i u)
def insK (p : Int) (i : Nat) (k : Int) (r : Rec) : Rec := if r.id = p then { r with kids := insAt i k r.kids } else r
theorem all_ids (s : I) (p : Int) (d : Nat) : (s.all p d).map (fun e => e.1.id) = s.ids := by
 rw [← recs_id s p, ← all_recs s p d, List.map_map]; rfl
def insE (p : Int) (i : Nat) (u : I) (e : I × Int × Nat) : I × Int × Nat := (e.1.ins p i u, e.2)
theorem nodup_kids {s : I} (h : s.ids.Nodup) : s.id ∉ s.kids.flatMap ids ∧ (s.kids.flatMap ids).Nodup := by
 rw [ids_eq] at h; exact List.nodup_cons.1 h
theorem nodup_kid {ks : List I} (h : (ks.flatMap ids).Nodup) : ∀ u ∈ ks, u.ids.Nodup := fun u hu => by
 obtain ⟨a, b, rfl⟩ := List.append_of_mem hu
 rw [List.flatMap_append, List.flatMap_cons] at h
 exact (List.nodup_append.1 (List.nodup_append.1 h).2.1).1
theorem all_inj {s : I} {p : Int} {d : Nat} (hn : s.ids.Nodup) {e f : I × Int × Nat} (he : e ∈ s.all p d) (hf : f ∈ s.all p d) (h : e.1.id = f.1.id) : e = f := by
 rw [← all_ids s p d] at hn
 exact inj_of_nodup hn he hf h
theorem all_mem {s : I} {x : Int} (h : x ∈ s.ids) (p : Int) (d : Nat) : ∃ e ∈ s.all p d, e.1.id = x := by
 rw [← all_ids s p d] at h
 exact List.mem_map.1 h
theorem mem_all {s : I} {p : Int} {d : Nat} {e : I × Int × Nat} (h : e ∈ s.all p d) : e.1.id ∈ s.ids := by
 rw [← all_ids s p d]; exact List.mem_map_of_mem (f := fun e : I × Int × Nat => e.1.id) h
end I
end
end Go.Proofs.YteacalmdpoblpaaGreat
