/-
  Walks in which all that is known stands in the goal: what is made, written, called; ways that meet; loops; a call's end.
-/
import Derived.Test.YtmmikhhklifjhaaGreatDoorQBuildAdopts2
namespace Go.Proofs.YtmmikhhklifjhaaGreatDoor
open Go.RowKit

def opps (L : List (Nat × Value)) : List (Nat × Operand) → Option (List (Nat × Value))
  | [] => some []
  | (i, x) :: r => (opv L x).bind fun v => (opps L r).map fun vs => (i, v) :: vs

theorem OPs.of {L : List (Nat × Value)} {c : Bool} : ∀ {xs : List (Nat × Operand)} {vs : List (Nat × Value)}, opps L xs = some vs → OPs L c xs vs
  | [], vs, h => by simp [opps] at h; subst h; exact .nil
  | (i, x) :: r, vs, h => by
    rw [opps] at h
    cases h1 : opv L x with
    | none => rw [h1] at h; simp at h
    | some v =>
      cases h2 : opps L r with
      | none => rw [h1, h2] at h; simp at h
      | some us =>
        rw [h1, h2] at h
        simp at h
        subst h
        exact .cons (OPs.of h2) (OG.pl h1)

section runs3

variable {P : Program} {ρ : Operand → Value} {w : World} {dst : Option Nat} {ty : TypeId} {pos : String} {after : Array Edge} {guard : Option (Nat × Bool)}

end runs3

section

variable {P : Program} {ops : Array Oper} {Q : Exit → Act → World → Prop} {X : List Oper → Act → World → Prop} {K C : Act → World → Prop} {n : Nat} {a : Act} {w wa : World} {L : List (Nat × Value)} {G N : List Nat} {bs : List BX} {V : Prop} {r : List Oper}

section effs

variable {d : Nat} {op : Op} {ty : TypeId} {pos : String} {after : Array Edge} {v : Value}

theorem gn [Eff P ops Q X] (f : Nat → Value) {T : TypeId} {cs : List Value} (hr : ∀ a, Ag n a L → (execOp a.eval ⟨some d, op, ty, pos, after, none⟩).run P w = .ok (.value (f w.heap.size)) (w.alloc (.cells cs.toArray T (0, 0)))) (k : ∀ w' B, Go n ((d, f B) :: L) wa w' G ((B, T, cs) :: bs) (B :: N) V (X r)) (hd : Nat.blt d n = true := by rfl) :
    Go n L wa w G bs N V (X (⟨some d, op, ty, pos, after, none⟩ :: r)) := fun a s hv =>
  Eff.eff (opk_new f s.ag hd (hr a s.ag) fun a' w' B hE hN hB hA _ => k w' B a' ((s.cons hE hN hB).act hA) hv)

/-- All of them, if is names all. -/
def keepB (is : List Nat) (bs : List BX) : List BX := bif (List.range bs.length).all (fun j => is.contains j) then bs else pickB is bs

theorem keepB_in {is : List Nat} {bs : List BX} {b : BX} (h : b ∈ keepB is bs) : b ∈ bs ∧ b.1 ∈ (pickB is bs).map (·.1) := by
  unfold keepB at h
  cases hc : (List.range bs.length).all (fun j => is.contains j) with
  | false => rw [hc] at h; exact ⟨pickB_mem h, List.mem_map.2 ⟨b, h, rfl⟩⟩
  | true =>
    rw [hc] at h
    have h' : b ∈ bs := h
    simp only [List.all_eq_true, List.mem_range, List.contains_iff_mem] at hc
    obtain ⟨j, hj, e⟩ := List.getElem_of_mem h'
    have hm := hc j hj
    exact ⟨h', List.mem_map.2 ⟨b, List.mem_filterMap.2 ⟨j, hm, by rw [List.getElem?_eq_getElem hj, e]⟩, rfl⟩⟩

theorem keepB_nd {is : List Nat} {bs : List BX} (hb : (bs.map (·.1)).Nodup) (hi : distinct is = true) : ((keepB is bs).map (·.1)).Nodup := by
  unfold keepB
  cases (List.range bs.length).all (fun j => is.contains j) with
  | false => exact pickB_nd hb (distinct_nd hi)
  | true => exact hb

theorem St.behind {w' : World} {a' : Act} {L' : List (Nat × Value)} (s : St n a w L wa G bs N) (is : List Nat) (hi : distinct is = true) (hnt : NoTouch ((pickB is bs).map (·.1)) w w') (hA : Ag n a' L') : St n a' w' L' w' [] (keepB is bs) [] :=
  ⟨hA, Chg.refl _ _, fun b hb => (s.box b (keepB_in hb).1).kept hnt (keepB_in hb).2, keepB_nd s.nd hi, by simp, by simp⟩

section store

variable {t : TypeId} {x y : Operand} {B o : Nat} {T : TypeId} {cs vs : List Value} {z : Value} {bytes : Nat}

end store

end effs

theorem dT {p : Prop} [Decidable p] (h : decide p = true) : p := of_decide_eq_true h

theorem dF {p : Prop} [Decidable p] (h : decide p = false) : ¬ p := of_decide_eq_false h

theorem oT {x y : Bool} (h : (x || y) = true) : x = true ∨ y = true := b_or_t h

theorem gi {x : Operand} {c e : Code} {b : Bool} {p q V1 V2 : Prop} (h1 : b = true → p) (h2 : b = false → q) (k1 : Go n L wa w G bs N V1 (c.wp P Q)) (k2 : Go n L wa w G bs N V2 (e.wp P Q)) (hx : opv L x = some (.bool b) := by rfl) : Go n L wa w G bs N ((p → V1) ∧ (q → V2)) ((Code.cond x c e).wp P Q) := fun a s hv =>
  wp_cond_split (s.ag.opv hx) (fun h => k1 a s (hv.1 (h1 h))) (fun h => k2 a s (hv.2 (h2 h)))

def lkS (L : List (Nat × Value)) : List (Nat × Value) → List (Option Value)
  | [] => []
  | (d, _) :: r => lookupL d L :: lkS L r

def smS : List (Nat × Value) → List (Option Value)
  | [] => []
  | (_, v) :: r => some v :: smS r

theorem subS {L : List (Nat × Value)} : ∀ L', lkS L L' = smS L' → SubL L L'
  | [], _ => trivial
  | (_, _) :: r, h => by
    injection h with h1 h2
    exact ⟨h1, subS r h2⟩

/-- What is known where ways meet, or at a loop's head. -/
def Mt (n : Nat) (L : List (Nat × Value)) (bs : List BX) (a : Act) (w : World) : Prop := Ag n a L ∧ ∀ b ∈ bs, Box w b.1 b.2.1 b.2.2

theorem St.mt {L' : List (Nat × Value)} {bs' : List BX} (s : St n a w L wa G bs N) (is : List Nat) (hL : lkS L L' = smS L') (hb : pickB is bs = bs') : Mt n L' bs' a w := ⟨s.ag.keep _ (subS _ hL), fun b hm => s.box b (pickB_mem (is := is) (by rw [hb]; exact hm))⟩

theorem Mt.st {L' : List (Nat × Value)} {bs' : List BX} {a' : Act} {w' : World} (h : Mt n L' bs' a' w') (hn : (bs'.map (·.1)).Nodup) : St n a' w' L' w' [] bs' [] := ⟨h.1, Chg.refl _ _, h.2, hn, by simp, by simp⟩

theorem appS {L : List (Nat × Value)} : ∀ {A B : List (Nat × Value)}, lkS L A = smS A → lkS L B = smS B → lkS L (A ++ B) = smS (A ++ B)
  | [], _, _, h => h
  | (_, _) :: A, _, h, k => by
    injection h with h1 h2
    rw [List.cons_append, lkS, smS, h1, appS h2 k]

theorem j0  {J : World → Prop} {gf : List (Nat × Value)} {bf : List BX} {Lk : List (Nat × Value)} {Bk : List BX} (is : List Nat) (hL : lkS L (gf ++ Lk) = smS (gf ++ Lk) := by kernel_rfl) (hb : pickB is bs = (bf ++ Bk) := by kernel_rfl) : Go n L wa w G bs N (J w) (Exit.then (fun a w => Mt n (gf ++ Lk) (bf ++ Bk) a w ∧ J w) Q .normal) := fun _ s hv => ⟨s.mt is hL hb, hv⟩

theorem l1 {α0 : Type}  {z0 : α0} {J : α0 → World → Prop} {c : Code} {Vb : α0 → World → Prop} (mu : α0 → World → Nat) (gf : α0 → List (Nat × Value)) (Lk : List (Nat × Value)) (bf : α0 → List BX) (Bk : List BX) (is : List Nat)
    (k : ∀ (x0 : α0) w', J x0 w' → Go n (gf x0 ++ Lk) w' w' [] (bf x0 ++ Bk) [] (Vb x0 w') (c.wp P (Exit.then (fun a w => ∃ (y0 : α0), Mt n (gf y0 ++ Lk) (bf y0 ++ Bk) a w ∧ J y0 w ∧ mu y0 w < mu x0 w') Q)))
    (hk : lkS L Lk = smS Lk := by rfl) (hb : pickB is bs = (bf z0 ++ Bk) := by rfl) (hL : lkS L (gf z0) = smS (gf z0) := by kernel_rfl) (hi : distinct is = true := by rfl) (hn : ∀ (x0 : α0), ((bf x0).map (·.1)) = ((bf z0)).map (·.1) := by exact fun _ => rfl) : Go n L wa w G bs N (J z0 w ∧ ∀ (x0 : α0) w', J x0 w' → Vb x0 w') ((Code.loop c).wp P Q) := fun a s hv =>
  wp_loop_st (σ := α0 × World) (fun s a w => Mt n (gf s.1 ++ Lk) (bf s.1 ++ Bk) a w ∧ w = s.2 ∧ J s.1 w) (fun s => mu s.1 s.2) (z0, w) ⟨s.mt is (appS hL hk) hb, rfl, hv.1⟩ fun s' a' w' ⟨h1, h2, h3⟩ => by
    obtain ⟨x0, w1⟩ := s'
    subst h2
    refine wp_mono (k x0 w' h3 a' (h1.st ?_) (hv.2 x0 w' h3)) fun e a2 w2 hq => ?_
    · rw [List.map_append, hn x0, ← List.map_append, ← hb]
      exact pickB_nd s.nd (distinct_nd hi)
    · cases e <;> first | exact hq | (obtain ⟨y0, g1, g2, g3⟩ := hq; exact ⟨(y0, w2), ⟨g1, rfl, g2⟩, g3⟩)

theorem k1 {α0 : Type}  {z0 : α0} {J : α0 → World → Prop} {gf : α0 → List (Nat × Value)} {bf : α0 → List BX} {Lk : List (Nat × Value)} {Bk : List BX} {mu : α0 → World → Nat} {q : Nat} (is : List Nat) (hL : lkS L (gf z0 ++ Lk) = smS (gf z0 ++ Lk) := by kernel_rfl) (hb : pickB is bs = (bf z0 ++ Bk) := by kernel_rfl) : Go n L wa w G bs N (J z0 w ∧ mu z0 w < q) (Exit.then (fun a w => ∃ (y0 : α0), Mt n (gf y0 ++ Lk) (bf y0 ++ Bk) a w ∧ J y0 w ∧ mu y0 w < q) Q .normal) := fun _ s hv => ⟨z0, s.mt is hL hb, hv.1, hv.2⟩

theorem m1 {α0 : Type} {J : α0 → World → Prop} {c : Code} {V1 : Prop} {Vb : α0 → World → Prop} (gf : α0 → List (Nat × Value)) (Lk : List (Nat × Value)) (bf : α0 → List BX) (Bk : List BX) (is : List Nat)
    (k1 : Go n L wa w G bs N V1 (c.wp P (Exit.then (fun a w => ∃ (y0 : α0), Mt n (gf y0 ++ Lk) (bf y0 ++ Bk) a w ∧ J y0 w) Q))) (k : ∀ (x0 : α0) w', J x0 w' → Go n (gf x0 ++ Lk) w' w' [] (bf x0 ++ Bk) [] (Vb x0 w') (Q .normal))
    (_ : lkS L Lk = smS Lk := by rfl) (hn : ∀ (x0 : α0), ((bf x0 ++ Bk).map (·.1)) = (pickB is bs).map (·.1) := by exact fun _ => rfl) (hi : distinct is = true := by rfl) : Go n L wa w G bs N (V1 ∧ ∀ (x0 : α0) w', J x0 w' → Vb x0 w') (c.wp P Q) := fun a s hv =>
  wp_meet _ (k1 a s hv.1) fun a' w' ⟨x0, h1, h2⟩ => by
    refine k x0 w' h2 a' (h1.st ?_) (hv.2 x0 w' h2)
    rw [hn x0]
    exact pickB_nd s.nd (distinct_nd hi)

theorem j1 {α0 : Type}  {z0 : α0} {J : α0 → World → Prop} {gf : α0 → List (Nat × Value)} {bf : α0 → List BX} {Lk : List (Nat × Value)} {Bk : List BX} (is : List Nat) (hL : lkS L (gf z0 ++ Lk) = smS (gf z0 ++ Lk) := by kernel_rfl) (hb : pickB is bs = (bf z0 ++ Bk) := by kernel_rfl) : Go n L wa w G bs N (J z0 w) (Exit.then (fun a w => ∃ (y0 : α0), Mt n (gf y0 ++ Lk) (bf y0 ++ Bk) a w ∧ J y0 w) Q .normal) := fun _ s hv => ⟨z0, s.mt is hL hb, hv⟩

theorem l2 {α0 α1 : Type}  {z0 : α0} {z1 : α1} {J : α0 → α1 → World → Prop} {c : Code} {Vb : α0 → α1 → World → Prop} (mu : α0 → α1 → World → Nat) (gf : α0 → α1 → List (Nat × Value)) (Lk : List (Nat × Value)) (bf : α0 → α1 → List BX) (Bk : List BX) (is : List Nat)
    (k : ∀ (x0 : α0) (x1 : α1) w', J x0 x1 w' → Go n (gf x0 x1 ++ Lk) w' w' [] (bf x0 x1 ++ Bk) [] (Vb x0 x1 w') (c.wp P (Exit.then (fun a w => ∃ (y0 : α0) (y1 : α1), Mt n (gf y0 y1 ++ Lk) (bf y0 y1 ++ Bk) a w ∧ J y0 y1 w ∧ mu y0 y1 w < mu x0 x1 w') Q)))
    (hk : lkS L Lk = smS Lk := by rfl) (hb : pickB is bs = (bf z0 z1 ++ Bk) := by rfl) (hL : lkS L (gf z0 z1) = smS (gf z0 z1) := by kernel_rfl) (hi : distinct is = true := by rfl) (hn : ∀ (x0 : α0) (x1 : α1), ((bf x0 x1).map (·.1)) = ((bf z0 z1)).map (·.1) := by exact fun _ _ => rfl) : Go n L wa w G bs N (J z0 z1 w ∧ ∀ (x0 : α0) (x1 : α1) w', J x0 x1 w' → Vb x0 x1 w') ((Code.loop c).wp P Q) := fun a s hv =>
  wp_loop_st (σ := α0 × α1 × World) (fun s a w => Mt n (gf s.1 s.2.1 ++ Lk) (bf s.1 s.2.1 ++ Bk) a w ∧ w = s.2.2 ∧ J s.1 s.2.1 w) (fun s => mu s.1 s.2.1 s.2.2) (z0, z1, w) ⟨s.mt is (appS hL hk) hb, rfl, hv.1⟩ fun s' a' w' ⟨h1, h2, h3⟩ => by
    obtain ⟨x0, x1, w1⟩ := s'
    subst h2
    refine wp_mono (k x0 x1 w' h3 a' (h1.st ?_) (hv.2 x0 x1 w' h3)) fun e a2 w2 hq => ?_
    · rw [List.map_append, hn x0 x1, ← List.map_append, ← hb]
      exact pickB_nd s.nd (distinct_nd hi)
    · cases e <;> first | exact hq | (obtain ⟨y0, y1, g1, g2, g3⟩ := hq; exact ⟨(y0, y1, w2), ⟨g1, rfl, g2⟩, g3⟩)

theorem k2 {α0 α1 : Type}  {z0 : α0} {z1 : α1} {J : α0 → α1 → World → Prop} {gf : α0 → α1 → List (Nat × Value)} {bf : α0 → α1 → List BX} {Lk : List (Nat × Value)} {Bk : List BX} {mu : α0 → α1 → World → Nat} {q : Nat} (is : List Nat) (hL : lkS L (gf z0 z1 ++ Lk) = smS (gf z0 z1 ++ Lk) := by kernel_rfl) (hb : pickB is bs = (bf z0 z1 ++ Bk) := by kernel_rfl) : Go n L wa w G bs N (J z0 z1 w ∧ mu z0 z1 w < q) (Exit.then (fun a w => ∃ (y0 : α0) (y1 : α1), Mt n (gf y0 y1 ++ Lk) (bf y0 y1 ++ Bk) a w ∧ J y0 y1 w ∧ mu y0 y1 w < q) Q .normal) := fun _ s hv => ⟨z0, z1, s.mt is hL hb, hv.1, hv.2⟩

theorem m2 {α0 α1 : Type} {J : α0 → α1 → World → Prop} {c : Code} {V1 : Prop} {Vb : α0 → α1 → World → Prop} (gf : α0 → α1 → List (Nat × Value)) (Lk : List (Nat × Value)) (bf : α0 → α1 → List BX) (Bk : List BX) (is : List Nat)
    (k1 : Go n L wa w G bs N V1 (c.wp P (Exit.then (fun a w => ∃ (y0 : α0) (y1 : α1), Mt n (gf y0 y1 ++ Lk) (bf y0 y1 ++ Bk) a w ∧ J y0 y1 w) Q))) (k : ∀ (x0 : α0) (x1 : α1) w', J x0 x1 w' → Go n (gf x0 x1 ++ Lk) w' w' [] (bf x0 x1 ++ Bk) [] (Vb x0 x1 w') (Q .normal))
    (_ : lkS L Lk = smS Lk := by rfl) (hn : ∀ (x0 : α0) (x1 : α1), ((bf x0 x1 ++ Bk).map (·.1)) = (pickB is bs).map (·.1) := by exact fun _ _ => rfl) (hi : distinct is = true := by rfl) : Go n L wa w G bs N (V1 ∧ ∀ (x0 : α0) (x1 : α1) w', J x0 x1 w' → Vb x0 x1 w') (c.wp P Q) := fun a s hv =>
  wp_meet _ (k1 a s hv.1) fun a' w' ⟨x0, x1, h1, h2⟩ => by
    refine k x0 x1 w' h2 a' (h1.st ?_) (hv.2 x0 x1 w' h2)
    rw [hn x0 x1]
    exact pickB_nd s.nd (distinct_nd hi)

theorem j2 {α0 α1 : Type}  {z0 : α0} {z1 : α1} {J : α0 → α1 → World → Prop} {gf : α0 → α1 → List (Nat × Value)} {bf : α0 → α1 → List BX} {Lk : List (Nat × Value)} {Bk : List BX} (is : List Nat) (hL : lkS L (gf z0 z1 ++ Lk) = smS (gf z0 z1 ++ Lk) := by kernel_rfl) (hb : pickB is bs = (bf z0 z1 ++ Bk) := by kernel_rfl) : Go n L wa w G bs N (J z0 z1 w) (Exit.then (fun a w => ∃ (y0 : α0) (y1 : α1), Mt n (gf y0 y1 ++ Lk) (bf y0 y1 ++ Bk) a w ∧ J y0 y1 w) Q .normal) := fun _ s hv => ⟨z0, z1, s.mt is hL hb, hv⟩

theorem k3 {α0 α1 α2 : Type}  {z0 : α0} {z1 : α1} {z2 : α2} {J : α0 → α1 → α2 → World → Prop} {gf : α0 → α1 → α2 → List (Nat × Value)} {bf : α0 → α1 → α2 → List BX} {Lk : List (Nat × Value)} {Bk : List BX} {mu : α0 → α1 → α2 → World → Nat} {q : Nat} (is : List Nat) (hL : lkS L (gf z0 z1 z2 ++ Lk) = smS (gf z0 z1 z2 ++ Lk) := by kernel_rfl) (hb : pickB is bs = (bf z0 z1 z2 ++ Bk) := by kernel_rfl) : Go n L wa w G bs N (J z0 z1 z2 w ∧ mu z0 z1 z2 w < q) (Exit.then (fun a w => ∃ (y0 : α0) (y1 : α1) (y2 : α2), Mt n (gf y0 y1 y2 ++ Lk) (bf y0 y1 y2 ++ Bk) a w ∧ J y0 y1 y2 w ∧ mu y0 y1 y2 w < q) Q .normal) := fun _ s hv => ⟨z0, z1, z2, s.mt is hL hb, hv.1, hv.2⟩

theorem m3 {α0 α1 α2 : Type} {J : α0 → α1 → α2 → World → Prop} {c : Code} {V1 : Prop} {Vb : α0 → α1 → α2 → World → Prop} (gf : α0 → α1 → α2 → List (Nat × Value)) (Lk : List (Nat × Value)) (bf : α0 → α1 → α2 → List BX) (Bk : List BX) (is : List Nat)
    (k1 : Go n L wa w G bs N V1 (c.wp P (Exit.then (fun a w => ∃ (y0 : α0) (y1 : α1) (y2 : α2), Mt n (gf y0 y1 y2 ++ Lk) (bf y0 y1 y2 ++ Bk) a w ∧ J y0 y1 y2 w) Q))) (k : ∀ (x0 : α0) (x1 : α1) (x2 : α2) w', J x0 x1 x2 w' → Go n (gf x0 x1 x2 ++ Lk) w' w' [] (bf x0 x1 x2 ++ Bk) [] (Vb x0 x1 x2 w') (Q .normal))
    (_ : lkS L Lk = smS Lk := by rfl) (hn : ∀ (x0 : α0) (x1 : α1) (x2 : α2), ((bf x0 x1 x2 ++ Bk).map (·.1)) = (pickB is bs).map (·.1) := by exact fun _ _ _ => rfl) (hi : distinct is = true := by rfl) : Go n L wa w G bs N (V1 ∧ ∀ (x0 : α0) (x1 : α1) (x2 : α2) w', J x0 x1 x2 w' → Vb x0 x1 x2 w') (c.wp P Q) := fun a s hv =>
  wp_meet _ (k1 a s hv.1) fun a' w' ⟨x0, x1, x2, h1, h2⟩ => by
    refine k x0 x1 x2 w' h2 a' (h1.st ?_) (hv.2 x0 x1 x2 w' h2)
    rw [hn x0 x1 x2]
    exact pickB_nd s.nd (distinct_nd hi)

theorem j3 {α0 α1 α2 : Type}  {z0 : α0} {z1 : α1} {z2 : α2} {J : α0 → α1 → α2 → World → Prop} {gf : α0 → α1 → α2 → List (Nat × Value)} {bf : α0 → α1 → α2 → List BX} {Lk : List (Nat × Value)} {Bk : List BX} (is : List Nat) (hL : lkS L (gf z0 z1 z2 ++ Lk) = smS (gf z0 z1 z2 ++ Lk) := by kernel_rfl) (hb : pickB is bs = (bf z0 z1 z2 ++ Bk) := by kernel_rfl) : Go n L wa w G bs N (J z0 z1 z2 w) (Exit.then (fun a w => ∃ (y0 : α0) (y1 : α1) (y2 : α2), Mt n (gf y0 y1 y2 ++ Lk) (bf y0 y1 y2 ++ Bk) a w ∧ J y0 y1 y2 w) Q .normal) := fun _ s hv => ⟨z0, z1, z2, s.mt is hL hb, hv⟩

theorem k4 {α0 α1 α2 α3 : Type}  {z0 : α0} {z1 : α1} {z2 : α2} {z3 : α3} {J : α0 → α1 → α2 → α3 → World → Prop} {gf : α0 → α1 → α2 → α3 → List (Nat × Value)} {bf : α0 → α1 → α2 → α3 → List BX} {Lk : List (Nat × Value)} {Bk : List BX} {mu : α0 → α1 → α2 → α3 → World → Nat} {q : Nat} (is : List Nat) (hL : lkS L (gf z0 z1 z2 z3 ++ Lk) = smS (gf z0 z1 z2 z3 ++ Lk) := by kernel_rfl) (hb : pickB is bs = (bf z0 z1 z2 z3 ++ Bk) := by kernel_rfl) : Go n L wa w G bs N (J z0 z1 z2 z3 w ∧ mu z0 z1 z2 z3 w < q) (Exit.then (fun a w => ∃ (y0 : α0) (y1 : α1) (y2 : α2) (y3 : α3), Mt n (gf y0 y1 y2 y3 ++ Lk) (bf y0 y1 y2 y3 ++ Bk) a w ∧ J y0 y1 y2 y3 w ∧ mu y0 y1 y2 y3 w < q) Q .normal) := fun _ s hv => ⟨z0, z1, z2, z3, s.mt is hL hb, hv.1, hv.2⟩

theorem j4 {α0 α1 α2 α3 : Type}  {z0 : α0} {z1 : α1} {z2 : α2} {z3 : α3} {J : α0 → α1 → α2 → α3 → World → Prop} {gf : α0 → α1 → α2 → α3 → List (Nat × Value)} {bf : α0 → α1 → α2 → α3 → List BX} {Lk : List (Nat × Value)} {Bk : List BX} (is : List Nat) (hL : lkS L (gf z0 z1 z2 z3 ++ Lk) = smS (gf z0 z1 z2 z3 ++ Lk) := by kernel_rfl) (hb : pickB is bs = (bf z0 z1 z2 z3 ++ Bk) := by kernel_rfl) : Go n L wa w G bs N (J z0 z1 z2 z3 w) (Exit.then (fun a w => ∃ (y0 : α0) (y1 : α1) (y2 : α2) (y3 : α3), Mt n (gf y0 y1 y2 y3 ++ Lk) (bf y0 y1 y2 y3 ++ Bk) a w ∧ J y0 y1 y2 y3 w) Q .normal) := fun _ s hv => ⟨z0, z1, z2, z3, s.mt is hL hb, hv⟩

theorem k5 {α0 α1 α2 α3 α4 : Type}  {z0 : α0} {z1 : α1} {z2 : α2} {z3 : α3} {z4 : α4} {J : α0 → α1 → α2 → α3 → α4 → World → Prop} {gf : α0 → α1 → α2 → α3 → α4 → List (Nat × Value)} {bf : α0 → α1 → α2 → α3 → α4 → List BX} {Lk : List (Nat × Value)} {Bk : List BX} {mu : α0 → α1 → α2 → α3 → α4 → World → Nat} {q : Nat} (is : List Nat) (hL : lkS L (gf z0 z1 z2 z3 z4 ++ Lk) = smS (gf z0 z1 z2 z3 z4 ++ Lk) := by kernel_rfl) (hb : pickB is bs = (bf z0 z1 z2 z3 z4 ++ Bk) := by kernel_rfl) : Go n L wa w G bs N (J z0 z1 z2 z3 z4 w ∧ mu z0 z1 z2 z3 z4 w < q) (Exit.then (fun a w => ∃ (y0 : α0) (y1 : α1) (y2 : α2) (y3 : α3) (y4 : α4), Mt n (gf y0 y1 y2 y3 y4 ++ Lk) (bf y0 y1 y2 y3 y4 ++ Bk) a w ∧ J y0 y1 y2 y3 y4 w ∧ mu y0 y1 y2 y3 y4 w < q) Q .normal) := fun _ s hv => ⟨z0, z1, z2, z3, z4, s.mt is hL hb, hv.1, hv.2⟩

section told

variable {D : List (List Nat)} {Vs : List (Nat × RS)} {e : Nat} {F : List (Nat × (World → Prop))} {d : Nat} {op : Op} {ty : TypeId} {pos : String} {after : Array Edge} {v : Value}

theorem isR_of {R : RS} {i : Nat} (hR : rsAt i Vs = some R) : isR Vs i = true := by rw [isR, hR]; rfl

theorem rs_of {R : RS} {i : Nat} (hR : rsAt i Vs = some R) : rs Vs i = R := by rw [rs, hR]; rfl

/-- An operation of which something is told. -/
theorem gy {R : RS} {o : Oper} (hR : rsAt (e - (r.length + 1)) Vs = some R) (h : ∀ a w', St n a w' L wa G bs N → Ext w w' → FD (D.getD (e - (r.length + 1)) []) F w' → YR P ops o R.T a w') (hd : o.dst = some d) (hn : Nat.blt d n = true)
    (k : ∀ x : R.α, Go n ((d, R.f x) :: L) wa w G bs N V (SeqE P ops D Vs e K ((e - (r.length + 1), R.V x) :: F) r)) : Go n L wa w G bs N V (SeqE P ops D Vs e K F (o :: r)) := fun a s hv => by
  have h1 := isR_of hR
  have h2 := rs_of hR
  unfold SeqE
  refine ⟨fun hf => absurd hf (by rw [h1]; decide), fun _ => ?_⟩
  rw [h2, hd]
  exact ⟨fun w' hE hF => h a w' (s.ext hE) hE hF, fun x => k x _ (s.put hn) hv⟩

end told

section ahead

variable {d : Nat} {op : Op} {ty : TypeId} {pos : String} {after : Array Edge} {v : Value}

end ahead

theorem go {f : FuncId} {fn : Func} {c : Code} {R : Ending → World → Prop} (vs : List Value) (hf : P.funcs[f]? = some fn) (hn : fn.ntmps = n) (hV : V)
    (k : Go n (enterL 0 vs) w w [] [] [] V (c.wp P (bodyPost P fn R))) (hb : fn.body = some c := by rfl) (hle : Nat.ble vs.length n = true := by rfl) : Calls P f vs.toArray w R := enter vs hf hb hn hle fun a hA => k a ⟨hA, Chg.refl _ _, by simp, by simp, by simp, by simp⟩ hV

theorem gz1 {fn : Func} {t : Nat} {v : Value} {R : Value → World → Prop} (hr : fn.results = #[.tmp t] := by rfl) (hv : lookupL t L = some v := by rfl) : Go n L wa w G bs N (R v w) (bodyPost P fn (Ret R) .ret) := fun a s hV => res_tmp hr s.ag hv hV

end

end Go.Proofs.YtmmikhhklifjhaaGreatDoor
