/-
  Comparing, plainly: by one thing and then by another, by lists, by trees.
-/
import Derived.Test.YteohbfaechfliaaTreeR
import Derived.Lib.Bytealg
namespace Go.Proofs.Yteohbfaechfliaa
open Go.RowKit

/-- A comparison that is an order. -/
structure Cmp {α : Type} (c : α → α → Int) (P : α → Prop) : Prop where
  anti : ∀ x y, P x → P y → c x y = - c y x
  zero : ∀ x y, P x → P y → (c x y = 0 ↔ x = y)
  trans : ∀ x y z, P x → P y → P z → c x y ≤ 0 → c y z ≤ 0 → c x z ≤ 0

def cmpI (x y : Int) : Int := if x < y then -1 else if y < x then 1 else 0
theorem cmpI_cmp : Cmp cmpI (fun _ => True) where
  anti x y _ _ := by unfold cmpI; split <;> split <;> (try split) <;> omega
  zero x y _ _ := by unfold cmpI; split <;> (try split) <;> omega
  trans x y z _ _ _ h1 h2 := by
    unfold cmpI at *
    split at h1 <;> split at h2 <;> (try split at h1) <;> (try split at h2) <;> split <;> (try split) <;> omega

/-- By lists: the first that differs; else the shorter one first. -/
def lexM {α β : Type} (c : α → β → Int) : List α → List β → Int
  | [], [] => 0
  | [], _ :: _ => -1
  | _ :: _, [] => 1
  | x :: xs, y :: ys => if c x y = 0 then lexM c xs ys else c x y
theorem lexM_map {α β γ : Type} (c : α → β → Int) (g : γ → α) : ∀ (l : List γ) (m : List β), lexM c (l.map g) m = lexM (fun t u => c (g t) u) l m
  | [], [] => rfl
  | [], _ :: _ => rfl
  | _ :: _, [] => rfl
  | x :: xs, y :: ys => by simp only [List.map_cons, lexM, lexM_map c g xs ys]
theorem lexM_cmp {α : Type} {c : α → α → Int} {P : α → Prop} (h : Cmp c P) : Cmp (lexM c) (fun l => ∀ x ∈ l, P x) where
  anti := by
    intro xs
    induction xs with
    | nil => intro ys _ _; cases ys <;> rfl
    | cons x xs ih =>
      intro ys hx hy
      cases ys with
      | nil => rfl
      | cons y ys =>
        have a := h.anti x y (hx x (by simp)) (hy y (by simp))
        have i := ih ys (fun z hz => hx z (by simp [hz])) (fun z hz => hy z (by simp [hz]))
        simp only [lexM]
        split <;> split <;> omega
  zero := by
    intro xs
    induction xs with
    | nil => intro ys _ _; cases ys <;> simp [lexM]
    | cons x xs ih =>
      intro ys hx hy
      cases ys with
      | nil => simp [lexM]
      | cons y ys =>
        have a := h.zero x y (hx x (by simp)) (hy y (by simp))
        have i := ih ys (fun z hz => hx z (by simp [hz])) (fun z hz => hy z (by simp [hz]))
        simp only [lexM, List.cons.injEq]
        split
        · rename_i hc; rw [i]; simp [a.1 hc]
        · rename_i hc
          constructor
          · intro hh; exact absurd hh hc
          · intro hh; exact absurd (a.2 hh.1) hc
  trans := by
    intro xs
    induction xs with
    | nil => intro ys zs _ _ _ h1 h2; cases ys <;> cases zs <;> simp_all [lexM]
    | cons x xs ih =>
      intro ys zs hx hy hz h1 h2
      cases ys with
      | nil => simp [lexM] at h1
      | cons y ys =>
        cases zs with
        | nil => simp [lexM] at h2
        | cons z zs =>
          have px := hx x (by simp); have py := hy y (by simp); have pz := hz z (by simp)
          have t := h.trans x y z px py pz
          have z1 := h.zero x y px py; have z2 := h.zero y z py pz; have z3 := h.zero x z px pz
          have a1 := h.anti x y px py; have a2 := h.anti y z py pz
          have i := ih ys zs (fun q hq => hx q (by simp [hq])) (fun q hq => hy q (by simp [hq])) (fun q hq => hz q (by simp [hq]))
          simp only [lexM] at h1 h2 ⊢
          by_cases e1 : c x y = 0
          · rw [if_pos e1] at h1
            have exy := z1.1 e1
            subst exy
            by_cases e2 : c x z = 0
            · rw [if_pos e2] at h2 ⊢; exact i h1 h2
            · rw [if_neg e2] at h2 ⊢; exact h2
          · rw [if_neg e1] at h1
            by_cases e2 : c y z = 0
            · have eyz := z2.1 e2
              subst eyz
              rw [if_neg e1]; exact h1
            · rw [if_neg e2] at h2
              by_cases e3 : c x z = 0
              · have exz := z3.1 e3
                subst exz
                omega
              · rw [if_neg e3]; exact t h1 h2

/-- By one thing, and then by another. -/
def or2 (a b : Int) : Int := if a = 0 then b else a
theorem or2_cmp {α β γ : Type} {c : β → β → Int} {d : γ → γ → Int} {P : β → Prop} {Q : γ → Prop} (hc : Cmp c P) (hd : Cmp d Q) (f : α → β) (g : α → γ) (inj : ∀ x y, f x = f y → g x = g y → x = y) : Cmp (fun x y => or2 (c (f x) (f y)) (d (g x) (g y))) (fun x => P (f x) ∧ Q (g x)) where
  anti x y hx hy := by
    have a := hc.anti _ _ hx.1 hy.1; have b := hd.anti _ _ hx.2 hy.2
    unfold or2; split <;> split <;> omega
  zero x y hx hy := by
    have a := hc.zero _ _ hx.1 hy.1; have b := hd.zero _ _ hx.2 hy.2
    unfold or2
    split
    · rename_i h; rw [b]; exact ⟨fun e => inj x y (a.1 h) e, fun e => by rw [e]⟩
    · rename_i h; exact ⟨fun e => absurd e h, fun e => absurd (a.2 (by rw [e])) h⟩
  trans x y z hx hy hz h1 h2 := by
    have t1 := hc.trans _ _ _ hx.1 hy.1 hz.1; have t2 := hd.trans _ _ _ hx.2 hy.2 hz.2
    have z1 := hc.zero _ _ hx.1 hy.1; have z2 := hc.zero _ _ hy.1 hz.1; have z3 := hc.zero _ _ hx.1 hz.1
    have a2 := hc.anti _ _ hy.1 hz.1
    unfold or2 at *
    by_cases e1 : c (f x) (f y) = 0
    · rw [if_pos e1] at h1
      have exy := z1.1 e1
      rw [exy] at *
      by_cases e2 : c (f y) (f z) = 0
      · rw [if_pos e2] at h2 ⊢; exact t2 h1 h2
      · rw [if_neg e2] at h2 ⊢; exact h2
    · rw [if_neg e1] at h1
      by_cases e2 : c (f y) (f z) = 0
      · have eyz := z2.1 e2
        rw [← eyz, if_neg e1]; exact h1
      · rw [if_neg e2] at h2
        by_cases e3 : c (f x) (f z) = 0
        · have exz := z3.1 e3
          rw [exz] at h1 e1; omega
        · rw [if_neg e3]; exact t1 h1 h2

theorem pair_cmp {β γ : Type} {c : β → β → Int} {d : γ → γ → Int} {P : β → Prop} {Q : γ → Prop} (hc : Cmp c P) (hd : Cmp d Q) : Cmp (fun x y : β × γ => or2 (c x.1 y.1) (d x.2 y.2)) (fun x => P x.1 ∧ Q x.2) :=
  or2_cmp hc hd (fun x => x.1) (fun x => x.2) (fun _ _ h1 h2 => Prod.ext h1 h2)

def cmpB (a b : UInt8) : Int := cmpI (a.toNat : Int) (b.toNat : Int)
theorem cmpB_cmp : Cmp cmpB (fun _ => True) where
  anti x y _ _ := cmpI_cmp.anti _ _ trivial trivial
  zero x y _ _ := by
    unfold cmpB; rw [cmpI_cmp.zero _ _ trivial trivial]
    constructor
    · intro h; exact UInt8.toNat_inj.1 (by omega)
    · intro h; rw [h]
  trans x y z _ _ _ := cmpI_cmp.trans _ _ _ trivial trivial trivial
theorem compareBytes_lex : ∀ a b : Str, Lib.compareBytes a b = lexM cmpB a b
  | [], [] => rfl
  | [], _ :: _ => rfl
  | _ :: _, [] => rfl
  | x :: xs, y :: ys => by
    have ih := compareBytes_lex xs ys
    simp only [Lib.compareBytes, lexM, UInt8.lt_iff_toNat_lt]
    by_cases h1 : x.toNat < y.toNat
    · have hv : cmpB x y = -1 := by unfold cmpB cmpI; rw [if_pos (by omega)]
      simp [hv, h1]
    · by_cases h2 : y.toNat < x.toNat
      · have hv : cmpB x y = 1 := by unfold cmpB cmpI; rw [if_neg (by omega), if_pos (by omega)]
        simp [hv, h1, h2]
      · have hv : cmpB x y = 0 := by unfold cmpB cmpI; rw [if_neg (by omega), if_neg (by omega)]
        simp [hv, h1, h2, ih]
def cmpS (a b : Str) : Int := Lib.compareBytes a b
theorem cmpS_cmp : Cmp cmpS (fun _ => True) := by
  have e : cmpS = lexM cmpB := by funext a b; exact compareBytes_lex a b
  rw [e]
  have := lexM_cmp cmpB_cmp
  exact ⟨fun x y _ _ => this.anti x y (fun _ _ => trivial) (fun _ _ => trivial), fun x y _ _ => this.zero x y (fun _ _ => trivial) (fun _ _ => trivial), fun x y z _ _ _ => this.trans x y z (fun _ _ => trivial) (fun _ _ => trivial) (fun _ _ => trivial)⟩
def cmpA (p q : Str × Str) : Int := or2 (cmpS p.1 q.1) (cmpS p.2 q.2)
theorem cmpA_cmp : Cmp cmpA (fun _ => True) := by
  have := or2_cmp cmpS_cmp cmpS_cmp (fun p : Str × Str => p.1) (fun p => p.2) (fun x y h1 h2 => Prod.ext h1 h2)
  exact ⟨fun x y _ _ => this.anti x y ⟨trivial, trivial⟩ ⟨trivial, trivial⟩, fun x y _ _ => this.zero x y ⟨trivial, trivial⟩ ⟨trivial, trivial⟩, fun x y z _ _ _ => this.trans x y z ⟨trivial, trivial⟩ ⟨trivial, trivial⟩ ⟨trivial, trivial⟩⟩

/-- Two trees. -/
def T.cmp : T → T → Int
  | .node k n x ats ks, u => or2 (or2 (or2 (cmpI k u.kind) (or2 (cmpS n u.name) (cmpS x u.text))) (lexM cmpA ats u.attrs)) (lexM (fun (t : { x // x ∈ ks }) v => T.cmp t.1 v) ks.attach u.kids)
termination_by t => SizeOf.sizeOf t
decreasing_by
  have := List.sizeOf_lt_of_mem t.2
  simp; omega
theorem T.cmp_eq (t u : T) : T.cmp t u = or2 (or2 (or2 (cmpI t.kind u.kind) (or2 (cmpS t.name u.name) (cmpS t.text u.text))) (lexM cmpA t.attrs u.attrs)) (lexM T.cmp t.kids u.kids) := by
  cases t with
  | node k n x ats ks =>
    rw [T.cmp]
    have := lexM_map (fun t v => T.cmp t v) (fun t : { x // x ∈ ks } => t.1) ks.attach u.kids
    rw [← this, List.attach_map_subtype_val]; rfl
theorem T.ext {t u : T} (h1 : t.kind = u.kind) (h2 : t.name = u.name) (h3 : t.text = u.text) (h4 : t.attrs = u.attrs) (h5 : t.kids = u.kids) : t = u := by
  cases t; cases u; cases h1; cases h2; cases h3; cases h4; cases h5; rfl

theorem T.cmp_cmp : ∀ n : Nat, Cmp T.cmp (fun t => t.size ≤ n) := by
  intro n
  induction n with
  | zero => exact ⟨fun x y hx => by rw [T.size_eq] at hx; omega, fun x y hx => by rw [T.size_eq] at hx; omega, fun x y z hx => by rw [T.size_eq] at hx; omega⟩
  | succ n ih =>
    have h1 := pair_cmp cmpS_cmp cmpS_cmp
    have h2 := pair_cmp cmpI_cmp h1
    have h3 := pair_cmp h2 (lexM_cmp cmpA_cmp)
    have h4 := pair_cmp h3 (lexM_cmp ih)
    have key : ∀ t : T, t.size ≤ n + 1 → (fun x : ((Int × Str × Str) × List (Str × Str)) × List T => ((fun _ => True) x.1.1.1 ∧ ((fun _ => True) x.1.1.2.1 ∧ (fun _ => True) x.1.1.2.2)) ∧ (∀ a ∈ x.1.2, True)) (((t.kind, t.name, t.text), t.attrs), t.kids) ∧ ∀ u ∈ t.kids, u.size ≤ n := fun t ht =>
      ⟨⟨⟨trivial, trivial, trivial⟩, fun _ _ => trivial⟩, fun u hu => by have := T.size_eq t; have := T.mem_sum T.size hu; omega⟩
    have e : ∀ t u : T, T.cmp t u = (fun x y : ((Int × Str × Str) × List (Str × Str)) × List T => or2 (or2 (or2 (cmpI x.1.1.1 y.1.1.1) (or2 (cmpS x.1.1.2.1 y.1.1.2.1) (cmpS x.1.1.2.2 y.1.1.2.2))) (lexM cmpA x.1.2 y.1.2)) (lexM T.cmp x.2 y.2)) (((t.kind, t.name, t.text), t.attrs), t.kids) (((u.kind, u.name, u.text), u.attrs), u.kids) := fun t u => T.cmp_eq t u
    exact ⟨fun x y hx hy => by rw [e, e]; exact h4.anti _ _ (key x hx) (key y hy), fun x y hx hy => by
      rw [e]
      refine (h4.zero _ _ (key x hx) (key y hy)).trans ⟨fun h => ?_, fun h => by rw [h]⟩
      simp only [Prod.mk.injEq] at h
      exact T.ext h.1.1.1 h.1.1.2.1 h.1.1.2.2 h.1.2 h.2, fun x y z hx hy hz => by rw [e, e, e]; exact h4.trans _ _ _ (key x hx) (key y hy) (key z hz)⟩
theorem T.cmp_anti (x y : T) : T.cmp x y = - T.cmp y x := (T.cmp_cmp (max x.size y.size)).anti x y (Nat.le_max_left _ _) (Nat.le_max_right _ _)
theorem T.cmp_zero (x y : T) : T.cmp x y = 0 ↔ x = y := (T.cmp_cmp (max x.size y.size)).zero x y (Nat.le_max_left _ _) (Nat.le_max_right _ _)
theorem T.cmp_trans {x y z : T} (h1 : T.cmp x y ≤ 0) (h2 : T.cmp y z ≤ 0) : T.cmp x z ≤ 0 := (T.cmp_cmp (x.size + y.size + z.size)).trans x y z (by omega) (by omega) (by omega) h1 h2

end Go.Proofs.Yteohbfaechfliaa
