/-
  What the proof of the statement leans on: texts one behind the other.
-/
import Derived.Test.YteacalmdpoblpaaGreatQCodecTurned1
import Derived.Test.YteacalmdpoblpaaGreatQCodecTurnedGref05P1
import Derived.Test.YteacalmdpoblpaaGreatQCodecTurnedGlaw24CodecTurned
import Derived.Lib.Bytealg
namespace Go.Proofs.YteacalmdpoblpaaGreat
section
open Go.RowKit

/-- What may be said of the kids of a tree that is grown. -/
structure Grove (us : List T) : Prop where
  ne : us ≠ []
  each : ∀ u ∈ us, Sprout 6 u
  few : (us.map T.size).sum ≤ 40

def grownT (us : List T) : T := .node 1 [] [] [] us

theorem Grove.bulk {us : List T} (h : Grove us) : (grownT us).bulk ≤ 601 := by
  have h2 : (us.map T.bulk).sum ≤ (us.map fun u => 15 * u.size).sum := T.sum_le _ _ us fun u hm => (h.each u hm).few
  have h3 : (us.map fun u => 15 * u.size).sum = 15 * (us.map T.size).sum := by
    have key : ∀ l : List T, (l.map fun u => 15 * u.size).sum = 15 * (l.map T.size).sum := fun l => by induction l with
      | nil => rfl
      | cons u r ih => simp only [List.map_cons, List.sum_cons, ih]; omega
    exact key us
  have h4 := h.few
  rw [T.bulk_eq]
  simp only [grownT, T.name, T.text, T.attrs, T.kids, List.length_nil, List.map_nil, List.sum_nil]; omega

theorem Grove.check {us : List T} (h : Grove us) : (grownT us).check = true := by
  have hs : (grownT us).size ≤ 41 := by rw [T.size_eq]; have := h.few; simp only [grownT, T.kids]; omega
  have hd : (grownT us).depth ≤ 7 := by
    rw [T.depth_eq]
    have : ((grownT us).kids.map T.depth).foldr max 0 ≤ 6 := T.foldr_max_le fun x hx => by
      obtain ⟨u, hm, rfl⟩ := List.mem_map.1 hx
      exact (h.each u hm).deep
    omega
  have hk : kidsOk (grownT us) = true := by
    unfold kidsOk
    rw [List.all_eq_true]
    intro u hm
    have := h.each u hm
    have h3 := this.kind
    rw [this.ok, decide_eq_false (by omega : ¬ u.kind = 5)]; rfl
  unfold T.check
  rw [hk, decide_eq_true (show (grownT us).size ≤ 300 by omega), decide_eq_true (show (grownT us).depth ≤ 60 by omega)]; rfl
end

section
open Go.RowKit

/-- A comparison that is an order. -/
structure Cmp {α : Type} (c : α → α → Int) (P : α → Prop) : Prop where
  anti : ∀ x y, P x → P y → c x y = - c y x
  zero : ∀ x y, P x → P y → (c x y = 0 ↔ x = y)
  trans : ∀ x y z, P x → P y → P z → c x y ≤ 0 → c y z ≤ 0 → c x z ≤ 0

def cmpI (x y : Int) : Int := if x < y then -1 else if y < x then 1 else 0

theorem cmpI_cmp : Cmp cmpI (fun _ => True) where
  anti x y _ _ := by unfold cmpI; split <;> split <;> (try split) <;> omega
  zero x y _ _ := by unfold cmpI; split <;> (try split) <;> omega
  trans x y z _ _ _ h1 h2 := by
    unfold cmpI at *
    split at h1 <;> split at h2 <;> (try split at h1) <;> (try split at h2) <;> split <;> (try split) <;> omega

/-- By lists: the first that differs; else the shorter one first. -/
def lexM {α β : Type} (c : α → β → Int) : List α → List β → Int
  | [], [] => 0
  | [], _ :: _ => -1
  | _ :: _, [] => 1
  | x :: xs, y :: ys => if c x y = 0 then lexM c xs ys else c x y

theorem lexM_map {α β γ : Type} (c : α → β → Int) (g : γ → α) : ∀ (l : List γ) (m : List β), lexM c (l.map g) m = lexM (fun t u => c (g t) u) l m
  | [], [] => rfl
  | [], _ :: _ => rfl
  | _ :: _, [] => rfl
  | x :: xs, y :: ys => by simp only [List.map_cons, lexM, lexM_map c g xs ys]

theorem lexM_cmp {α : Type} {c : α → α → Int} {P : α → Prop} (h : Cmp c P) : Cmp (lexM c) (fun l => ∀ x ∈ l, P x) where
  anti := by
    intro xs
    induction xs with
    | nil => intro ys _ _; cases ys <;> rfl
    | cons x xs ih =>
      intro ys hx hy
      cases ys with
      | nil => rfl
      | cons y ys =>
        have a := h.anti x y (hx x (by simp)) (hy y (by simp))
        have i := ih ys (fun z hz => hx z (by simp [hz])) (fun z hz => hy z (by simp [hz]))
        simp only [lexM]
        split <;> split <;> omega
  zero := by
    intro xs
    induction xs with
    | nil => intro ys _ _; cases ys <;> simp [lexM]
    | cons x xs ih =>
      intro ys hx hy
      cases ys with
      | nil => simp [lexM]
      | cons y ys =>
        have a := h.zero x y (hx x (by simp)) (hy y (by simp))
        have i := ih ys (fun z hz => hx z (by simp [hz])) (fun z hz => hy z (by simp [hz]))
        simp only [lexM, List.cons.injEq]
        split
        · rename_i hc; rw [i]; simp [a.1 hc]
        · rename_i hc
          constructor
          · intro hh; exact absurd hh hc
          · intro hh; exact absurd (a.2 hh.1) hc
  trans := by
    intro xs
    induction xs with
    | nil => intro ys zs _ _ _ h1 h2; cases ys <;> cases zs <;> simp_all [lexM]
    | cons x xs ih =>
      intro ys zs hx hy hz h1 h2
      cases ys with
      | nil => simp [lexM] at h1
      | cons y ys =>
        cases zs with
        | nil => simp [lexM] at h2
        | cons z zs =>
          have px := hx x (by simp); have py := hy y (by simp); have pz := hz z (by simp)
          have t := h.trans x y z px py pz
          have z1 := h.zero x y px py; have z2 := h.zero y z py pz; have z3 := h.zero x z px pz
          have a1 := h.anti x y px py; have a2 := h.anti y z py pz
          have i := ih ys zs (fun q hq => hx q (by simp [hq])) (fun q hq => hy q (by simp [hq])) (fun q hq => hz q (by simp [hq]))
          simp only [lexM] at h1 h2 ⊢
          by_cases e1 : c x y = 0
          · rw [if_pos e1] at h1
            have exy := z1.1 e1
            subst exy
            by_cases e2 : c x z = 0
            · rw [if_pos e2] at h2 ⊢; exact i h1 h2
            · rw [if_neg e2] at h2 ⊢; exact h2
          · rw [if_neg e1] at h1
            by_cases e2 : c y z = 0
            · have eyz := z2.1 e2
              subst eyz
              rw [if_neg e1]; exact h1
            · rw [if_neg e2] at h2
              by_cases e3 : c x z = 0
              · have exz := z3.1 e3
                subst exz
                omega
              · rw [if_neg e3]; exact t h1 h2

/-- By one thing, and then by another. -/
def or2 (a b : Int) : Int := if a = 0 then b else a

theorem or2_cmp {α β γ : Type} {c : β → β → Int} {d : γ → γ → Int} {P : β → Prop} {Q : γ → Prop} (hc : Cmp c P) (hd : Cmp d Q) (f : α → β) (g : α → γ) (inj : ∀ x y, f x = f y → g x = g y → x = y) : Cmp (fun x y => or2 (c (f x) (f y)) (d (g x) (g y))) (fun x => P (f x) ∧ Q (g x)) where
  anti x y hx hy := by
    have a := hc.anti _ _ hx.1 hy.1; have b := hd.anti _ _ hx.2 hy.2
    unfold or2; split <;> split <;> omega
  zero x y hx hy := by
    have a := hc.zero _ _ hx.1 hy.1; have b := hd.zero _ _ hx.2 hy.2
    unfold or2
    split
    · rename_i h; rw [b]; exact ⟨fun e => inj x y (a.1 h) e, fun e => by rw [e]⟩
    · rename_i h; exact ⟨fun e => absurd e h, fun e => absurd (a.2 (by rw [e])) h⟩
  trans x y z hx hy hz h1 h2 := by
    have t1 := hc.trans _ _ _ hx.1 hy.1 hz.1; have t2 := hd.trans _ _ _ hx.2 hy.2 hz.2
    have z1 := hc.zero _ _ hx.1 hy.1; have z2 := hc.zero _ _ hy.1 hz.1; have z3 := hc.zero _ _ hx.1 hz.1
    have a2 := hc.anti _ _ hy.1 hz.1
    unfold or2 at *
    by_cases e1 : c (f x) (f y) = 0
    · rw [if_pos e1] at h1
      have exy := z1.1 e1
      rw [exy] at *
      by_cases e2 : c (f y) (f z) = 0
      · rw [if_pos e2] at h2 ⊢; exact t2 h1 h2
      · rw [if_neg e2] at h2 ⊢; exact h2
    · rw [if_neg e1] at h1
      by_cases e2 : c (f y) (f z) = 0
      · have eyz := z2.1 e2
        rw [← eyz, if_neg e1]; exact h1
      · rw [if_neg e2] at h2
        by_cases e3 : c (f x) (f z) = 0
        · have exz := z3.1 e3
          rw [exz] at h1 e1; omega
        · rw [if_neg e3]; exact t1 h1 h2

theorem pair_cmp {β γ : Type} {c : β → β → Int} {d : γ → γ → Int} {P : β → Prop} {Q : γ → Prop} (hc : Cmp c P) (hd : Cmp d Q) : Cmp (fun x y : β × γ => or2 (c x.1 y.1) (d x.2 y.2)) (fun x => P x.1 ∧ Q x.2) :=
  or2_cmp hc hd (fun x => x.1) (fun x => x.2) (fun _ _ h1 h2 => Prod.ext h1 h2)

def cmpB (a b : UInt8) : Int := cmpI (a.toNat : Int) (b.toNat : Int)

theorem cmpB_cmp : Cmp cmpB (fun _ => True) where
  anti x y _ _ := cmpI_cmp.anti _ _ trivial trivial
  zero x y _ _ := by
    unfold cmpB; rw [cmpI_cmp.zero _ _ trivial trivial]
    constructor
    · intro h; exact UInt8.toNat_inj.1 (by omega)
    · intro h; rw [h]
  trans x y z _ _ _ := cmpI_cmp.trans _ _ _ trivial trivial trivial

theorem compareBytes_lex : ∀ a b : Str, Lib.compareBytes a b = lexM cmpB a b
  | [], [] => rfl
  | [], _ :: _ => rfl
  | _ :: _, [] => rfl
  | x :: xs, y :: ys => by
    have ih := compareBytes_lex xs ys
    simp only [Lib.compareBytes, lexM, UInt8.lt_iff_toNat_lt]
    by_cases h1 : x.toNat < y.toNat
    · have hv : cmpB x y = -1 := by unfold cmpB cmpI; rw [if_pos (by omega)]
      simp [hv, h1]
    · by_cases h2 : y.toNat < x.toNat
      · have hv : cmpB x y = 1 := by unfold cmpB cmpI; rw [if_neg (by omega), if_pos (by omega)]
        simp [hv, h1, h2]
      · have hv : cmpB x y = 0 := by unfold cmpB cmpI; rw [if_neg (by omega), if_neg (by omega)]
        simp [hv, h1, h2, ih]

def cmpS (a b : Str) : Int := Lib.compareBytes a b

theorem cmpS_cmp : Cmp cmpS (fun _ => True) := by
  have e : cmpS = lexM cmpB := by funext a b; exact compareBytes_lex a b
  rw [e]
  have := lexM_cmp cmpB_cmp
  exact ⟨fun x y _ _ => this.anti x y (fun _ _ => trivial) (fun _ _ => trivial), fun x y _ _ => this.zero x y (fun _ _ => trivial) (fun _ _ => trivial), fun x y z _ _ _ => this.trans x y z (fun _ _ => trivial) (fun _ _ => trivial) (fun _ _ => trivial)⟩

def cmpA (p q : Str × Str) : Int := or2 (cmpS p.1 q.1) (cmpS p.2 q.2)

theorem cmpA_cmp : Cmp cmpA (fun _ => True) := by
  have := or2_cmp cmpS_cmp cmpS_cmp (fun p : Str × Str => p.1) (fun p => p.2) (fun x y h1 h2 => Prod.ext h1 h2)
  exact ⟨fun x y _ _ => this.anti x y ⟨trivial, trivial⟩ ⟨trivial, trivial⟩, fun x y _ _ => this.zero x y ⟨trivial, trivial⟩ ⟨trivial, trivial⟩, fun x y z _ _ _ => this.trans x y z ⟨trivial, trivial⟩ ⟨trivial, trivial⟩ ⟨trivial, trivial⟩⟩

/-- Two trees. -/
def T.cmp : T → T → Int
  | .node k n x ats ks, u => or2 (or2 (or2 (cmpI k u.kind) (or2 (cmpS n u.name) (cmpS x u.text))) (lexM cmpA ats u.attrs)) (lexM (fun (t : { x // x ∈ ks }) v => T.cmp t.1 v) ks.attach u.kids)
termination_by t => SizeOf.sizeOf t
decreasing_by
  have := List.sizeOf_lt_of_mem t.2
  simp; omega

theorem T.cmp_eq (t u : T) : T.cmp t u = or2 (or2 (or2 (cmpI t.kind u.kind) (or2 (cmpS t.name u.name) (cmpS t.text u.text))) (lexM cmpA t.attrs u.attrs)) (lexM T.cmp t.kids u.kids) := by
  cases t with
  | node k n x ats ks =>
    rw [T.cmp]
    have := lexM_map (fun t v => T.cmp t v) (fun t : { x // x ∈ ks } => t.1) ks.attach u.kids
    rw [← this, List.attach_map_subtype_val]; rfl

theorem T.ext {t u : T} (h1 : t.kind = u.kind) (h2 : t.name = u.name) (h3 : t.text = u.text) (h4 : t.attrs = u.attrs) (h5 : t.kids = u.kids) : t = u := by
  cases t; cases u; cases h1; cases h2; cases h3; cases h4; cases h5; rfl

theorem T.cmp_cmp : ∀ n : Nat, Cmp T.cmp (fun t => t.size ≤ n) := by
  intro n
  induction n with
  | zero => exact ⟨fun x y hx => by rw [T.size_eq] at hx; omega, fun x y hx => by rw [T.size_eq] at hx; omega, fun x y z hx => by rw [T.size_eq] at hx; omega⟩
  | succ n ih =>
    have h1 := pair_cmp cmpS_cmp cmpS_cmp
    have h2 := pair_cmp cmpI_cmp h1
    have h3 := pair_cmp h2 (lexM_cmp cmpA_cmp)
    have h4 := pair_cmp h3 (lexM_cmp ih)
    have key : ∀ t : T, t.size ≤ n + 1 → (fun x : ((Int × Str × Str) × List (Str × Str)) × List T => ((fun _ => True) x.1.1.1 ∧ ((fun _ => True) x.1.1.2.1 ∧ (fun _ => True) x.1.1.2.2)) ∧ (∀ a ∈ x.1.2, True)) (((t.kind, t.name, t.text), t.attrs), t.kids) ∧ ∀ u ∈ t.kids, u.size ≤ n := fun t ht =>
      ⟨⟨⟨trivial, trivial, trivial⟩, fun _ _ => trivial⟩, fun u hu => by have := T.size_eq t; have := T.mem_sum T.size hu; omega⟩
    have e : ∀ t u : T, T.cmp t u = (fun x y : ((Int × Str × Str) × List (Str × Str)) × List T => or2 (or2 (or2 (cmpI x.1.1.1 y.1.1.1) (or2 (cmpS x.1.1.2.1 y.1.1.2.1) (cmpS x.1.1.2.2 y.1.1.2.2))) (lexM cmpA x.1.2 y.1.2)) (lexM T.cmp x.2 y.2)) (((t.kind, t.name, t.text), t.attrs), t.kids) (((u.kind, u.name, u.text), u.attrs), u.kids) := fun t u => T.cmp_eq t u
    exact ⟨fun x y hx hy => by rw [e, e]; exact h4.anti _ _ (key x hx) (key y hy), fun x y hx hy => by
      rw [e]
      refine (h4.zero _ _ (key x hx) (key y hy)).trans ⟨fun h => ?_, fun h => by rw [h]⟩
      simp only [Prod.mk.injEq] at h
      exact T.ext h.1.1.1 h.1.1.2.1 h.1.1.2.2 h.1.2 h.2, fun x y z hx hy hz => by rw [e, e, e]; exact h4.trans _ _ _ (key x hx) (key y hy) (key z hz)⟩

theorem T.cmp_zero (x y : T) : T.cmp x y = 0 ↔ x = y := (T.cmp_cmp (max x.size y.size)).zero x y (Nat.le_max_left _ _) (Nat.le_max_right _ _)
end

section
open Go.RowKit

theorem bytesLess_cmp : ∀ a b : Str, Op.bytesLess a b = decide (cmpS a b < 0)
  | [], [] => rfl
  | [], _ :: _ => rfl
  | _ :: _, [] => rfl
  | a :: x, b :: y => by
    have ih := bytesLess_cmp x y
    unfold cmpS at ih ⊢
    simp only [Op.bytesLess, Lib.compareBytes, ih]
    by_cases h1 : a < b
    · simp [h1]
    · by_cases h2 : b < a
      · have : ¬ a = b := fun e => by subst e; exact h1 h2
        simp [h1, h2, this]
      · have : a = b := by
          have e1 : ¬ a.toNat < b.toNat := h1
          have e2 : ¬ b.toNat < a.toNat := h2
          exact UInt8.toNat_inj.1 (by omega)
        simp [this]

theorem cmpS_zero (a b : Str) : cmpS a b = 0 ↔ a = b := cmpS_cmp.zero a b trivial trivial
end

section
open Go.RowKit

theorem lexM_end {α β : Type} (c : α → β → Int) : ∀ (l : List α) (m : List β), (l = [] ∨ m = []) → lexM c l m = cmpI (l.length : Int) (m.length : Int)
  | [], [], _ => rfl
  | [], y :: ys, _ => by unfold lexM cmpI; rw [if_pos (by simp only [List.length_cons, List.length_nil]; omega)]
  | x :: xs, [], _ => by unfold lexM cmpI; rw [if_neg (by simp only [List.length_cons, List.length_nil]; omega), if_pos (by simp only [List.length_cons, List.length_nil]; omega)]
  | _ :: _, _ :: _, h => by simp at h

theorem or2_zero (a : Int) : or2 0 a = a := if_pos rfl

theorem or2_ne {a : Int} (b : Int) (h : a ≠ 0) : or2 a b = a := if_neg h

theorem lexM_step {α β : Type} (c : α → β → Int) (x : α) (y : β) (xs : List α) (ys : List β) : lexM c (x :: xs) (y :: ys) = or2 (c x y) (lexM c xs ys) := rfl

theorem drop_at {α : Type} (l : List α) (d : α) {k : Nat} (h : k < l.length) : l.drop k = l.getD k d :: l.drop (k + 1) := by
  rw [List.drop_eq_getElem_cons h, List.getD_eq_getElem?_getD, List.getElem?_eq_getElem h]; rfl

/-- Behind the loop. -/
theorem lexM_exit {α β : Type} (c : α → β → Int) (l : List α) (m : List β) (x : Int) (k : Nat) (hl : k ≤ l.length) (hm : k ≤ m.length) (h : x ≠ 0 ∨ k = l.length ∨ k = m.length) : or2 x (lexM c (l.drop k) (m.drop k)) = or2 x (cmpI (l.length : Int) (m.length : Int)) := by
  by_cases hx : x = 0
  · subst hx
    have hd : l.drop k = [] ∨ m.drop k = [] := by
      rcases h with h | h | h
      · exact absurd rfl h
      · left; rw [h]; exact List.drop_length
      · right; rw [h]; exact List.drop_length
    rw [or2_zero, or2_zero, lexM_end c _ _ hd]
    simp only [List.length_drop, cmpI]
    have e1 : (((l.length - k : Nat) : Int) < ((m.length - k : Nat) : Int)) ↔ ((l.length : Int) < (m.length : Int)) := by omega
    have e2 : (((m.length - k : Nat) : Int) < ((l.length - k : Nat) : Int)) ↔ ((m.length : Int) < (l.length : Int)) := by omega
    simp only [e1, e2]
  · rw [or2_ne _ hx, or2_ne _ hx]
end

section
open Go.RowKit

theorem refSign {w : World} (x y : Bool) : Calls Tryz.prog 68 #[.bool x, .bool y] w (Ret fun v w' => Ext w w' ∧ v = .int .i64 (if x = true then -1 else if y = true then 1 else 0)) := by
  refine ref05_sign.ok _ _ ?_
  unfold ref05_sign.vc
  refine ⟨fun h => ⟨Chg.refl _ _, by rw [if_pos h]⟩, fun h => ⟨fun h2 => ⟨Chg.refl _ _, by rw [if_neg (by rw [h]; decide), if_pos h2]⟩, fun h2 => ⟨Chg.refl _ _, by rw [if_neg (by rw [h]; decide), if_neg (by rw [h2]; decide)]⟩⟩⟩

theorem sign_int (x y : Int) : (if decide (x < y) = true then (-1 : Int) else if decide (y < x) = true then 1 else 0) = cmpI x y := by
  unfold cmpI; simp

theorem cmpS_small (a b : Str) : -1 ≤ cmpS a b ∧ cmpS a b ≤ 1 := by
  unfold cmpS
  rw [compareBytes_lex]
  induction a generalizing b with
  | nil => cases b <;> simp [lexM]
  | cons x a ih =>
    cases b with
    | nil => simp [lexM]
    | cons y b =>
      have := ih b
      simp only [lexM, or2, cmpB, cmpI]
      split <;> (try split) <;> (try split) <;> omega

theorem sign_str (x y : Str) : (if Op.bytesLess x y = true then (-1 : Int) else if (!(Op.bytesLess x y || decide (x = y))) = true then 1 else 0) = cmpS x y := by
  rw [bytesLess_cmp]
  have h1 := cmpS_small x y
  have h2 := cmpS_zero x y
  by_cases a : cmpS x y < 0
  · simp [a]; omega
  · by_cases b : x = y
    · have := h2.2 b; simp [b] at *; omega
    · have : cmpS x y ≠ 0 := fun e => b (h2.1 e)
      simp [a, b]; omega

theorem sign_attr (p q : Str × Str) : (if (Op.bytesLess p.1 q.1 || (decide (p.1 = q.1) && Op.bytesLess p.2 q.2)) = true then (-1 : Int) else if ((!(Op.bytesLess p.1 q.1 || decide (p.1 = q.1))) || (decide (p.1 = q.1) && !(Op.bytesLess p.2 q.2 || decide (p.2 = q.2)))) = true then 1 else 0) = cmpA p q := by
  unfold cmpA or2
  have s1 := sign_str p.1 q.1
  have s2 := sign_str p.2 q.2
  have z := cmpS_zero p.1 q.1
  by_cases e : p.1 = q.1
  · rw [if_pos (z.2 e), ← s2]
    have : Op.bytesLess p.1 q.1 = false := by rw [bytesLess_cmp]; simp [z.2 e]
    simp [e]
    have h3 : Op.bytesLess q.1 q.1 = false := by rw [e] at this; exact this
    simp [h3]
  · rw [if_neg (fun h => e (z.1 h)), ← s1]
    simp [e]

theorem refNode {A : List Nat} {a b : T} {w : World} {sa sk ta tk : Sl} (ha : RdT A w a sa sk) (hb : RdT A w b ta tk) :
    Calls Tryz.prog 67 #[tv a sa sk, tv b ta tk] w (Ret fun v w' => Ext w w' ∧ v = .int .i64 (or2 (or2 (cmpI a.kind b.kind) (or2 (cmpS a.name b.name) (cmpS a.text b.text))) (lexM cmpA a.attrs b.attrs))) := by
  refine ref05_Node.ok _ _ _ _ _ _ _ _ _ _ ?_
  unfold ref05_Node.vc
  have hna := ha.nattrs
  have hnb := hb.nattrs
  have hca := ha.caps
  have hcb := hb.caps
  simp only [maxLen] at hca hcb
  intro w1 B1 B2 hN1 hN2 _ hE1
  refine CallK.exact (refSign _ _) fun w2 hE2 => ⟨_, rfl, ?_⟩
  rw [sign_int]
  refine ⟨fun c w3 => c = or2 (cmpI a.kind b.kind) (cmpS a.name b.name) ∧ Ext w w3, ⟨fun h0 => CallK.exact (refSign _ _) fun w3 hE3 => ⟨_, rfl, ?_, (hE1.trans hE2).trans hE3⟩, fun h0 => ⟨(or2_ne _ h0).symm, hE1.trans hE2⟩⟩, ?_⟩
  · rw [sign_str, h0, or2_zero]
  rintro _ w3 ⟨rfl, hE3⟩
  generalize hx0 : or2 (cmpI a.kind b.kind) (or2 (cmpS a.name b.name) (cmpS a.text b.text)) = x0
  have hassoc : x0 = or2 (or2 (cmpI a.kind b.kind) (cmpS a.name b.name)) (cmpS a.text b.text) := by
    rw [← hx0]
    by_cases h : cmpI a.kind b.kind = 0
    · rw [h, or2_zero, or2_zero]
    · rw [or2_ne _ h, or2_ne (cmpS a.name b.name) h, or2_ne _ h]
  refine ⟨fun c w4 => c = x0 ∧ Ext w w4, ⟨fun h0 => CallK.exact (refSign _ _) fun w4 hE4 => ⟨_, rfl, ?_, hE3.trans hE4⟩, fun h0 => ⟨by rw [hassoc, or2_ne _ h0], hE3⟩⟩, ?_⟩
  · rw [sign_str, hassoc, h0, or2_zero]
  rintro x0 w4 ⟨rfl, hE4⟩
  refine ⟨fun x i w3 => ∃ k : Nat, i = (k : Int) ∧ k ≤ a.attrs.length ∧ k ≤ b.attrs.length ∧ or2 x0 (lexM cmpA a.attrs b.attrs) = or2 x (lexM cmpA (a.attrs.drop k) (b.attrs.drop k)) ∧ Ext w w3, fun _ i _ => a.attrs.length - i.toNat, ⟨0, rfl, Nat.zero_le _, Nat.zero_le _, rfl, hE4⟩, ?_⟩
  rintro x _ w5 ⟨k, rfl, hk1, hk2, heq, hE5⟩
  rw [Int.toNat_natCast]
  refine ⟨fun hgo w6 hE6 => ?_, fun hend => ?_⟩
  · obtain ⟨⟨hx, hi⟩, hj⟩ := hgo
    subst hx
    have hE56 := hE5.trans hE6
    obtain ⟨p, hp, _, hc⟩ := (ha.ext hE56).attr (i := k) (by omega)
    obtain ⟨q, hq, _, hd⟩ := (hb.ext hE56).attr (i := k) (by omega)
    rw [drop_at a.attrs ([], []) (by omega), drop_at b.attrs ([], []) (by omega), lexM_step, or2_zero] at heq
    refine ⟨p, ⟨⟨by omega, hi⟩, hp⟩, _, _, hc, q, ⟨⟨by omega, hj⟩, hq⟩, _, _, hd, fun w7 B7 B8 hE7 hB7 _ hB8 _ w8 hC8 => CallK.exact (refSign _ _) fun w9 hE9 => ⟨_, rfl, ⟨by omega, by omega⟩, ⟨k + 1, by omega, by omega, by omega, ?_, ?_⟩, by dsimp only; omega⟩⟩
    · rw [sign_attr]; exact heq
    · have hs := hE56.size
      exact (Chg.fresh (hE56.trans hE7) hC8 (by simp; omega)).trans hE9
  · have hex : or2 x0 (lexM cmpA a.attrs b.attrs) = or2 x (cmpI (a.attrs.length : Int) (b.attrs.length : Int)) := by
      rw [heq]
      refine lexM_exit cmpA a.attrs b.attrs x k hk1 hk2 ?_
      rcases hend with (h | h) | h
      · exact .inl h
      · exact .inr (.inl (by omega))
      · exact .inr (.inr (by omega))
    rw [hna, hnb, hex]
    refine ⟨fun h0 => CallK.exact (refSign _ _) fun w6 hE6 => ⟨_, rfl, hE5.trans hE6, ?_⟩, fun h0 => ⟨hE5, by rw [or2_ne _ h0]⟩⟩
    rw [sign_int, h0, or2_zero]

theorem refCompare {A : List Nat} : ∀ a : T, ∀ (b : T) {w : World} {sa sk ta tk : Sl}, RdT A w a sa sk → RdT A w b ta tk →
    Calls Tryz.prog 38 #[tv a sa sk, tv b ta tk] w (Ret fun v w' => Ext w w' ∧ v = .int .i64 (T.cmp a b)) := T.ind' fun a ih b w sa sk ta tk ha hb => by
  refine ref05_Compare.ok _ _ _ _ _ _ _ _ _ _ ?_
  unfold ref05_Compare.vc
  have hnk := ha.nkids
  have hnl := hb.nkids
  have hca := ha.caps
  have hcb := hb.caps
  simp only [maxLen] at hca hcb
  intro w1 B1 B2 _ _ _ hE1
  refine CallK.exact (refNode (ha.ext hE1) (hb.ext hE1)) fun w2 hE2 => ⟨_, rfl, ?_⟩
  rw [T.cmp_eq a b]
  generalize or2 (or2 (cmpI a.kind b.kind) (or2 (cmpS a.name b.name) (cmpS a.text b.text))) (lexM cmpA a.attrs b.attrs) = x1
  refine ⟨fun y i w7 => ∃ k : Nat, i = (k : Int) ∧ k ≤ a.kids.length ∧ k ≤ b.kids.length ∧ or2 x1 (lexM T.cmp a.kids b.kids) = or2 y (lexM T.cmp (a.kids.drop k) (b.kids.drop k)) ∧ Ext w w7, fun _ i _ => a.kids.length - i.toNat, ⟨0, rfl, Nat.zero_le _, Nat.zero_le _, rfl, hE1.trans hE2⟩, ?_⟩
  rintro y _ w7 ⟨j, rfl, hj1, hj2, heq2, hE7⟩
  rw [Int.toNat_natCast]
  refine ⟨fun hgo w8 hE8 => ?_, fun hend => ?_⟩
  · obtain ⟨⟨hy, hi⟩, hj⟩ := hgo
    subst hy
    have hE78 := hE7.trans hE8
    have hj1' : j < a.kids.length := by omega
    have hj2' : j < b.kids.length := by omega
    obtain ⟨p, sa', sk', hp, _, hc, hr⟩ := (ha.ext hE78).kid hj1'
    obtain ⟨q, ta', tk', hq, _, hd, hs⟩ := (hb.ext hE78).kid hj2'
    rw [drop_at a.kids T.nul hj1', drop_at b.kids T.nul hj2', lexM_step, or2_zero] at heq2
    refine ⟨p, ⟨⟨by omega, hi⟩, hp⟩, _, _, _, sa', sk', hc, q, ⟨⟨by omega, hj⟩, hq⟩, _, _, _, ta', tk', hd, _, fun w' hE' => ih _ (getD_mem hj1') _ (hr.ext hE') (hs.ext hE'), ⟨by omega, by omega⟩, fun w9 hE9 => ⟨⟨j + 1, by omega, by omega, by omega, heq2, hE78.trans hE9⟩, by dsimp only; omega⟩⟩
  · have hex2 : or2 x1 (lexM T.cmp a.kids b.kids) = or2 y (cmpI (a.kids.length : Int) (b.kids.length : Int)) := by
      rw [heq2]
      refine lexM_exit T.cmp a.kids b.kids y j hj1 hj2 ?_
      rcases hend with (h | h) | h
      · exact .inl h
      · exact .inr (.inl (by omega))
      · exact .inr (.inr (by omega))
    rw [hnk, hnl, hex2]
    refine ⟨fun h0 => CallK.exact (refSign _ _) fun w6 hE6 => ⟨_, rfl, hE7.trans hE6, ?_⟩, fun h0 => ⟨hE7, by rw [or2_ne _ h0]⟩⟩
    rw [sign_int, h0, or2_zero]

theorem refSame {A : List Nat} (a b : T) {w : World} {sa sk ta tk : Sl} (ha : RdT A w a sa sk) (hb : RdT A w b ta tk) :
    Calls Tryz.prog 13 #[tv a sa sk, tv b ta tk] w (Ret fun v w' => Ext w w' ∧ v = .bool (decide (T.cmp a b = 0))) := by
  refine ref05_Same.ok _ _ _ _ _ _ _ _ _ _ ?_
  unfold ref05_Same.vc
  intro w1 B1 B2 _ _ _ hE1
  exact CallK.exact (refCompare a b (ha.ext hE1) (hb.ext hE1)) fun w2 hE2 => ⟨_, rfl, hE1.trans hE2, rfl⟩
end

section
open Go.RowKit Go.MapKept Cdc

def zeroT : T := .node 0 [] [] [] []

def rootT : T := .node 1 [] [] [] []

theorem rootT_facts : rootT.bulk ≤ 1099511627776 ∧ rootT.check = true := by
  have hs : rootT.size = 1 := by simp [rootT, T.size_eq, T.kids]
  have hd : rootT.depth = 1 := by simp [rootT, T.depth_eq, T.kids]
  refine ⟨by simp [rootT, T.bulk_eq, T.kids, T.name, T.text, T.attrs], ?_⟩
  unfold T.check; rw [hs, hd]
  simp only [rootT, T.kind, T.name, T.text, T.attrs, kidsOk, T.kids, List.all_nil]
  rfl

/-- A patch that is none. -/
theorem patchBad {A : List Nat} {w : World} {t : T} {sa sk p : Sl} {ps : Str} (ht : RdT A w t sa sk) (hb : t.bulk ≤ 1099511627776) (hck : t.check = true) (hp : RdB A w p ps) (hd : (dec ps).2 ≠ 0) :
    Calls Tryz.prog 12 #[tv t sa sk, p.v] w (Ret fun v w' => Ext w w' ∧ v = .tuple #[tv zeroT Sl.nil Sl.nil, .int .i64 (dec ps).2]) := by
  refine codec_Patch.ok _ _ _ _ _ _ ?_
  unfold codec_Patch.vc
  intro w1 B1 B2 hN1 hN2 _ hE1
  refine CallK.exact (treeCheck t hb (ht.ext hE1)) fun w2 hE2 => ⟨t.check, rfl, fun h => absurd h (by rw [hck]; decide), fun _ => ?_⟩
  refine CallK.ext (decode (hp.ext (hE1.trans hE2))) ?_
  rintro v w3 hE3 ⟨l, rfl, _, _⟩
  refine ⟨_, _, l, _, rfl, fun _ w4 hC4 => ⟨Chg.fresh (hE1.trans (hE2.trans hE3)) hC4 (by simpa using hN2.ge), rfl⟩, fun h => absurd hd h⟩

theorem codecTurnedLaw {w : World} (x y : Nat) {l : Sl} {ops : List OpT} (at_ : Int) (row : Nat) (hrow : row < 4294967296) (hl : Row [] w l 7 (ops.map oc)) (hpa : ∀ o ∈ ops, o.par ≤ 9223372036854775807 ∧ o.at_ ≤ 9223372036854775807) :
    Calls Tryz.prog 3 #[.int .u64 (x : Int), .int .u64 (y : Int), l.v, .int .i64 at_, .int .u32 (row : Int)] w (Ret fun v w' => Ext w w' ∧ v = .bool true) := by
  refine law24_CodecTurned.ok _ _ _ _ _ ?_
  unfold law24_CodecTurned.vc
  refine CallK.ext (fewOps hl) ?_
  rintro v w1 hE1 ⟨few, rfl, hfew⟩
  refine ⟨few, rfl, fun _ => CallK.exact (cdcAwake w1) fun w2 hE2 => ⟨_, rfl, hE1.trans hE2, rfl⟩, fun ⟨hf, hr0⟩ => ?_⟩
  have hl100 := hfew hf
  refine CallK.ext (opsCopy (hl.ext hE1) (by omega)) ?_
  rintro v w2 hE2 ⟨l2, rfl, hO2⟩
  refine ⟨l2, rfl, CallK.ext (encode x y hO2.row hpa) ?_⟩
  rintro v w3 hE3 ⟨e, rfl, hO3, hb3⟩
  have hE03 := hE1.trans (hE2.trans hE3)
  have hen := hO3.rd.len
  have hem := hO3.rd.most
  refine ⟨e, _, rfl, fun hbad => ?_, fun hgood => ?_⟩
  · by_cases h0 : (enc x y ops).2 = 0
    · exfalso
      obtain ⟨_, _, h65, hbo⟩ := enc_ok h0
      have := body_len (x := x) (y := y) (ops := ops)
      rw [hbo, List.length_append, lowB_len] at hen
      rcases hbad with h | h
      · exact h h0
      · omega
    · refine ⟨true, fun _ => cdcAwake w3, fun w4 hE4 => ⟨hE03.trans hE4, ?_⟩⟩
      simp [h0]
  obtain ⟨hok', h26⟩ := hgood
  have hok : (enc x y ops).2 = 0 := Classical.byContradiction hok'
  have hd : ∀ {q j : Nat}, q + 5 ≤ (enc x y ops).1.length → j < 8 → dec (Crc.turn (enc x y ops).1 q (row * 2 ^ j) 5) = ((0, 0, []), 11) := fun hq hj => turned_bad hok hq hj hrow (by omega)
  obtain ⟨_, _, h65, hbo⟩ := enc_ok hok
  have hlen : (enc x y ops).1.length ≤ 65536 := by rw [hbo, List.length_append, lowB_len]; omega
  generalize (enc x y ops).1 = xs at *
  have hne : xs ≠ [] := by intro h; rw [h] at hen; simp at hen; omega
  refine ⟨⟨by omega, by omega⟩, ⟨by omega, by omega⟩, CallK.exact (place at_ _ (by omega) (by omega)) fun w4 hE4 => ⟨_, rfl, ?_⟩⟩
  have hk0 := Int.emod_nonneg at_ (show 8 * (e.n : Int) - 39 ≠ 0 by omega)
  have hk1 := Int.emod_lt_of_pos at_ (show (0 : Int) < 8 * (e.n : Int) - 39 by omega)
  obtain ⟨k, hk⟩ : ∃ k : Nat, at_.emod (8 * (e.n : Int) - 39) = (k : Int) := ⟨(at_ % (8 * (e.n : Int) - 39)).toNat, by show at_ % _ = _; omega⟩
  rw [hk]
  have hkn : k + 39 < 8 * e.n := by have : at_ % (8 * (e.n : Int) - 39) = k := hk; omega
  have etm : (k : Int).tmod 8 = ((k % 8 : Nat) : Int) := by rw [Int.tmod_eq_emod_of_nonneg (by omega)]; omega
  have etd : (k : Int).tdiv 8 = ((k / 8 : Nat) : Int) := by rw [Int.tdiv_eq_ediv_of_nonneg (by omega)]; omega
  rw [etm, etd, IntKind.wrap_u64, show ((k % 8 : Nat) : Int) % 18446744073709551616 = ((k % 8 : Nat) : Int) by omega]
  refine ⟨⟨by omega, by omega⟩, fun i w' => ∃ n : Nat, n ≤ 5 ∧ i = (n : Int) ∧ Ext w w' ∧ OwnB [] w' e 5 (Crc.turn xs (k / 8) (row * 2 ^ (k % 8)) n), fun i _ => 5 - i.toNat, ⟨0, by omega, rfl, hE03.trans hE4, Own.ext hO3 hE4⟩, ?_⟩
  rintro _ w5 ⟨n, hn, rfl, hE5, hO5⟩
  refine ⟨fun hi => ?_, fun hi => ?_⟩
  · obtain ⟨g, cur, ha, hg, hB, hcl, htk⟩ := OwnB.box hO5 (by intro h; have := congrArg List.length h; rw [Crc.turn_len] at this; simp at this; exact hne this)
    have hrd := (OwnB.rd hO5).cell (i := ((k / 8 : Nat) : Int) + (n : Int)) (by omega) (by omega) ha
    rw [show (((k / 8 : Nat) : Int) + (n : Int)).toNat = k / 8 + n by omega] at hrd ⊢
    refine ⟨⟨by omega, by omega⟩, ⟨by omega, by omega⟩, ⟨by omega, by omega⟩, _, ha, _, hrd, ⟨by omega, by omega⟩, ⟨by rw [IntKind.wrap_u64]; omega, by rw [IntKind.wrap_u64]; omega⟩, ⟨by omega, by omega⟩, _, ha, g, k / 8 + n, 5, cur, ?_, hB, by omega, by simp, ?_⟩
    · rw [Addr.add_lit, Nat.zero_add, Nat.mul_one]
    · intro w6 hC6 hB6
      have hgw : w.heap.size ≤ g := Nat.le_trans (hE1.trans hE2).size (hb3 g (by simp [Sl.blk, ha]))
      have hE6 : Ext w w6 := Chg.fresh hE5 hC6 (by simpa using hgw)
      refine ⟨⟨by omega, by omega⟩, ⟨n + 1, by omega, by omega, hE6, ?_⟩, by dsimp only; omega⟩
      refine OwnB.put hO5 ha hg hcl htk (k / 8 + n) _ ?_
      have ev : IntKind.u8.wrap ((IntKind.u64.wrap ((IntKind.u64.wrap (row : Int)) * 2 ^ ((k % 8 : Nat) : Int).toNat)) / 2 ^ (IntKind.u64.wrap (8 * (n : Int))).toNat) = (((UInt8.ofNat (row * 2 ^ (k % 8) / 2 ^ (8 * n))).toNat : Nat) : Int) := by
        have h1 : (IntKind.u64.wrap (8 * (n : Int))).toNat = 8 * n := by rw [IntKind.wrap_u64]; omega
        have h2 : IntKind.u64.wrap (row : Int) = (row : Int) := by rw [IntKind.wrap_u64]; omega
        have h3 : ((k % 8 : Nat) : Int).toNat = k % 8 := by omega
        have hb : row * 2 ^ (k % 8) < 18446744073709551616 := by
          have : 2 ^ (k % 8) ≤ 2 ^ 7 := Nat.pow_le_pow_right (by decide) (by omega)
          have h1 : row * 2 ^ (k % 8) ≤ row * 2 ^ 7 := Nat.mul_le_mul_left _ this
          omega
        have h4 : IntKind.u64.wrap ((row : Int) * 2 ^ (k % 8)) = ((row * 2 ^ (k % 8) : Nat) : Int) := by
          rw [IntKind.wrap_u64, show ((row : Int) * 2 ^ (k % 8)) = ((row * 2 ^ (k % 8) : Nat) : Int) by push_cast; rfl]; omega
        rw [h1, h2, h3, h4, IntKind.wrap_u8]
        rw [show ((row * 2 ^ (k % 8) : Nat) : Int) / 2 ^ (8 * n) = ((row * 2 ^ (k % 8) / 2 ^ (8 * n) : Nat) : Int) by push_cast; rfl]
        simp
      rw [ev, bx8] at hB6
      exact hB6
  · have hn5 : n = 5 := by omega
    subst hn5
    have hdd := hd (q := k / 8) (j := k % 8) (by omega) (by omega)
    generalize Crc.turn xs (k / 8) (row * 2 ^ (k % 8)) 5 = ys at hO5 hdd
    refine CallK.ext (decode (OwnB.rd hO5)) ?_
    rintro v w6 hE6 ⟨m, rfl, hm, _⟩
    rw [hdd] at hm ⊢
    have hml := hm.len
    have hroot := rootT_facts
    have hrd0 : RdT [] w6 rootT Sl.nil Sl.nil := RdT.nil [] w6 1 [] []
    have hne0 : (dec ys).2 ≠ 0 := by rw [hdd]; decide
    have hpb := patchBad hrd0 hroot.1 hroot.2 (OwnB.rd (Own.ext hO5 hE6)) hne0
    rw [hdd] at hpb
    refine ⟨_, _, m, _, rfl, CallK.exact hpb fun w7 hE7 => ⟨_, _, _, Sl.nil, Sl.nil, _, rfl, fun w8 B8 hN8 hE8 => ?_⟩⟩
    refine ⟨true, fun _ => ?_, fun w9 hE9 => ⟨true, fun _ => cdcAwake w9, fun w10 hE10 => ⟨hE5.trans (hE6.trans (hE7.trans (hE8.trans (hE9.trans hE10)))), ?_⟩⟩⟩
    · have := refSame zeroT zeroT (RdT.nil [] w8 0 [] []) (RdT.nil [] w8 0 [] [])
      rw [decide_eq_true ((T.cmp_zero zeroT zeroT).2 rfl)] at this
      exact this
    · rw [hml]; rfl
end


end Go.Proofs.YteacalmdpoblpaaGreat
