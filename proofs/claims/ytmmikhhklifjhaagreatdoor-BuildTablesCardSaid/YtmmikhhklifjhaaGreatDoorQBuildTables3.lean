/-
  Walks in which all that is known stands in the goal: what is made, written, called; ways that meet; loops; a call's end.
-/
import Derived.Test.YtmmikhhklifjhaaGreatDoorQBuildTables2
namespace Go.Proofs.YtmmikhhklifjhaaGreatDoor
open Go.RowKit

def opps (L : List (Nat × Value)) : List (Nat × Operand) → Option (List (Nat × Value))
  | [] => some []
  | (i, x) :: r => (opv L x).bind fun v => (opps L r).map fun vs => (i, v) :: vs

theorem OPs.of {L : List (Nat × Value)} {c : Bool} : ∀ {xs : List (Nat × Operand)} {vs : List (Nat × Value)}, opps L xs = some vs → OPs L c xs vs
  | [], vs, h => by simp [opps] at h; subst h; exact .nil
  | (i, x) :: r, vs, h => by
    rw [opps] at h
    cases h1 : opv L x with
    | none => rw [h1] at h; simp at h
    | some v =>
      cases h2 : opps L r with
      | none => rw [h1, h2] at h; simp at h
      | some us =>
        rw [h1, h2] at h
        simp at h
        subst h
        exact .cons (OPs.of h2) (OG.pl h1)

section runs3

variable {P : Program} {ρ : Operand → Value} {w : World} {dst : Option Nat} {ty : TypeId} {pos : String} {after : Array Edge} {guard : Option (Nat × Bool)}

end runs3

section

variable {P : Program} {ops : Array Oper} {Q : Exit → Act → World → Prop} {X : List Oper → Act → World → Prop} {K C : Act → World → Prop} {n : Nat} {a : Act} {w wa : World} {L : List (Nat × Value)} {G N : List Nat} {bs : List BX} {V : Prop} {r : List Oper}

section effs

variable {d : Nat} {op : Op} {ty : TypeId} {pos : String} {after : Array Edge} {v : Value}

/-- All of them, if is names all. -/
def keepB (is : List Nat) (bs : List BX) : List BX := bif (List.range bs.length).all (fun j => is.contains j) then bs else pickB is bs

section store

variable {t : TypeId} {x y : Operand} {B o : Nat} {T : TypeId} {cs vs : List Value} {z : Value} {bytes : Nat}

end store

end effs

theorem dT {p : Prop} [Decidable p] (h : decide p = true) : p := of_decide_eq_true h

theorem dF {p : Prop} [Decidable p] (h : decide p = false) : ¬ p := of_decide_eq_false h

theorem oT {x y : Bool} (h : (x || y) = true) : x = true ∨ y = true := b_or_t h

theorem gi {x : Operand} {c e : Code} {b : Bool} {p q V1 V2 : Prop} (h1 : b = true → p) (h2 : b = false → q) (k1 : Go n L wa w G bs N V1 (c.wp P Q)) (k2 : Go n L wa w G bs N V2 (e.wp P Q)) (hx : opv L x = some (.bool b) := by rfl) : Go n L wa w G bs N ((p → V1) ∧ (q → V2)) ((Code.cond x c e).wp P Q) := fun a s hv =>
  wp_cond_split (s.ag.opv hx) (fun h => k1 a s (hv.1 (h1 h))) (fun h => k2 a s (hv.2 (h2 h)))

def lkS (L : List (Nat × Value)) : List (Nat × Value) → List (Option Value)
  | [] => []
  | (d, _) :: r => lookupL d L :: lkS L r

def smS : List (Nat × Value) → List (Option Value)
  | [] => []
  | (_, v) :: r => some v :: smS r

theorem subS {L : List (Nat × Value)} : ∀ L', lkS L L' = smS L' → SubL L L'
  | [], _ => trivial
  | (_, _) :: r, h => by
    injection h with h1 h2
    exact ⟨h1, subS r h2⟩

/-- What is known where ways meet, or at a loop's head. -/
def Mt (n : Nat) (L : List (Nat × Value)) (bs : List BX) (a : Act) (w : World) : Prop := Ag n a L ∧ ∀ b ∈ bs, Box w b.1 b.2.1 b.2.2

theorem St.mt {L' : List (Nat × Value)} {bs' : List BX} (s : St n a w L wa G bs N) (is : List Nat) (hL : lkS L L' = smS L') (hb : pickB is bs = bs') : Mt n L' bs' a w := ⟨s.ag.keep _ (subS _ hL), fun b hm => s.box b (pickB_mem (is := is) (by rw [hb]; exact hm))⟩

theorem k1 {α0 : Type}  {z0 : α0} {J : α0 → World → Prop} {gf : α0 → List (Nat × Value)} {bf : α0 → List BX} {Lk : List (Nat × Value)} {Bk : List BX} {mu : α0 → World → Nat} {q : Nat} (is : List Nat) (hL : lkS L (gf z0 ++ Lk) = smS (gf z0 ++ Lk) := by kernel_rfl) (hb : pickB is bs = (bf z0 ++ Bk) := by kernel_rfl) : Go n L wa w G bs N (J z0 w ∧ mu z0 w < q) (Exit.then (fun a w => ∃ (y0 : α0), Mt n (gf y0 ++ Lk) (bf y0 ++ Bk) a w ∧ J y0 w ∧ mu y0 w < q) Q .normal) := fun _ s hv => ⟨z0, s.mt is hL hb, hv.1, hv.2⟩

theorem k2 {α0 α1 : Type}  {z0 : α0} {z1 : α1} {J : α0 → α1 → World → Prop} {gf : α0 → α1 → List (Nat × Value)} {bf : α0 → α1 → List BX} {Lk : List (Nat × Value)} {Bk : List BX} {mu : α0 → α1 → World → Nat} {q : Nat} (is : List Nat) (hL : lkS L (gf z0 z1 ++ Lk) = smS (gf z0 z1 ++ Lk) := by kernel_rfl) (hb : pickB is bs = (bf z0 z1 ++ Bk) := by kernel_rfl) : Go n L wa w G bs N (J z0 z1 w ∧ mu z0 z1 w < q) (Exit.then (fun a w => ∃ (y0 : α0) (y1 : α1), Mt n (gf y0 y1 ++ Lk) (bf y0 y1 ++ Bk) a w ∧ J y0 y1 w ∧ mu y0 y1 w < q) Q .normal) := fun _ s hv => ⟨z0, z1, s.mt is hL hb, hv.1, hv.2⟩

section told

variable {D : List (List Nat)} {Vs : List (Nat × RS)} {e : Nat} {F : List (Nat × (World → Prop))} {d : Nat} {op : Op} {ty : TypeId} {pos : String} {after : Array Edge} {v : Value}

end told

section ahead

variable {d : Nat} {op : Op} {ty : TypeId} {pos : String} {after : Array Edge} {v : Value}

end ahead

theorem go {f : FuncId} {fn : Func} {c : Code} {R : Ending → World → Prop} (vs : List Value) (hf : P.funcs[f]? = some fn) (hn : fn.ntmps = n) (hV : V)
    (k : Go n (enterL 0 vs) w w [] [] [] V (c.wp P (bodyPost P fn R))) (hb : fn.body = some c := by rfl) (hle : Nat.ble vs.length n = true := by rfl) : Calls P f vs.toArray w R := enter vs hf hb hn hle fun a hA => k a ⟨hA, Chg.refl _ _, by simp, by simp, by simp, by simp⟩ hV

theorem gz1 {fn : Func} {t : Nat} {v : Value} {R : Value → World → Prop} (hr : fn.results = #[.tmp t] := by rfl) (hv : lookupL t L = some v := by rfl) : Go n L wa w G bs N (R v w) (bodyPost P fn (Ret R) .ret) := fun a s hV => res_tmp hr s.ag hv hV

end

end Go.Proofs.YtmmikhhklifjhaaGreatDoor
