/-
  What the proof of the statement leans on: texts one behind the other.
-/
import Derived.Test.YtenokfdkckhhiaaGreatDoorQBuildFosters2
import Derived.Test.YtenokfdkckhhiaaGreatDoorQBuildFosters0
import Derived.Test.YtenokfdkckhhiaaGreatDoorQBuildFostersGlaw00
import Derived.Test.YtenokfdkckhhiaaGreatDoorQBuildFostersGlin
import Derived.Test.YtenokfdkckhhiaaGreatDoorProg
import Derived.Laws.Tables
import Derived.MapKept
import Derived.Lib.UnsafeStr
import Derived.Lib.AppendZerosOnto
import Derived.Lib.Overlaps
import Derived.RangeFuncBox
import Derived.RangeFuncNested
import Derived.RangeFuncLeaves
import Derived.Shelf.Abstract
import Derived.WalkKit
import Derived.OwnWalkIn
import Derived.TacticsInMore
import Derived.LoopNIn
import Derived.LoopIn
import Derived.Shelf.RegionOpen
namespace Go.Proofs.YtenokfdkckhhiaaGreatDoor
section
namespace Ev
set_option autoImplicit false
theorem poE_eq : ∀ {p q : Option (Nat × Nat)},poE p q = true → p = q
 |none,none,_ => rfl
 |some (a,b),some (c,d),h => by
  have h : (Nat.beq a c && Nat.beq b d) = true := h
  simp only [Bool.and_eq_true] at h
  rw [Nat.eq_of_beq_eq_true h.1,Nat.eq_of_beq_eq_true h.2]
 |none,some _,h => by cases h
 |some _,none,h => by cases h
theorem capE_eq : ∀ {l r : List (Nat × Nat)},capE l r = true → l = r
 |[],[],_ => rfl
 |[],_ :: _,h => by cases h
 |_ :: _,[],h => by cases h
 |x :: l,y :: r,h => by
  have h : cond (poE (some x) (some y)) (capE l r) false = true := h
  cases hp : poE (some x) (some y) with
  |false => rw [hp] at h; cases h
  |true =>
   rw [hp] at h
   injection poE_eq hp with e
   rw [e,capE_eq h]
theorem AC.same_eq {x y : AC} (h : x.same y = true) : x = y := by
 unfold AC.same at h
 split at h
 ·rw [eq_of_beq h]
 ·simp only [Bool.and_eq_true,decide_eq_true_eq,ieq_eq] at h; rw [h.1,h.2]
 ·rw [leqL_eq] at h; rw [of_decide_eq_true h]
 ·rw [poE_eq h]
 ·simp only [Bool.and_eq_true] at h
  obtain ⟨⟨⟨h1,h2⟩,h3⟩,h4⟩ := h
  rw [poE_eq h1,Nat.eq_of_beq_eq_true h2,Nat.eq_of_beq_eq_true h3,Nat.eq_of_beq_eq_true h4]
 ·rfl
 ·rw [Nat.eq_of_beq_eq_true h]
 ·simp only [Bool.and_eq_true] at h
  rw [Nat.eq_of_beq_eq_true h.1,capE_eq h.2]
 ·rfl
 ·rfl
 ·simp only [Bool.and_eq_true] at h
  rw [Nat.eq_of_beq_eq_true h.1]
  have h2 := h.2
  rw [leqL_eq] at h2; rw [of_decide_eq_true h2]
 ·cases h
theorem sameL_eq : ∀ {l r : List AC},sameL l r = true → l = r
 |[],[],_ => rfl
 |[],_ :: _,h => by cases h
 |_ :: _,[],h => by cases h
 |x :: l,y :: r,h => by
  have h : cond (x.same y) (sameL l r) false = true := h
  cases hp : x.same y with
  |false => rw [hp] at h; cases h
  |true =>
   rw [hp] at h
   rw [AC.same_eq hp,sameL_eq h]
theorem AV.same_eq {x y : AV} (h : x.same y = true) : x = y := by
 unfold AV.same at h
 split at h
 ·rw [AC.same_eq h]
 ·rw [sameL_eq h]
 ·cases h
theorem reOk_mem {run : Run} {L : Fr} {H : AH} {q : Rq} : ∀ {l : List Rq},reOk l run L H = true → q ∈ l → passed L q.guard = some false → ∃ t v H1,q.dst = some t ∧ evI q.i run L H = some (v,H1) ∧ look t L = some v
 |[],_,hm,_ => by cases hm
 |r :: l,h,hm,hp => by
  replace h : (match passed L r.guard with
   |some true => reOk l run L H
   |some false => (match r.dst,evI r.i run L H with
    |some t,some (v,_) => (match look t L with
     |some p => cond (v.same p) (reOk l run L H) false
     |none => false)
    |_,_ => false)
   |none => false) = true := h
  split at h
  ·rename_i h1
   rcases List.mem_cons.1 hm with rfl | hm
   ·rw [hp] at h1; cases h1
   ·exact reOk_mem h hm hp
  ·split at h
   ·rename_i t v H1 h2 h3
    split at h
    ·rename_i z h4
     cases hs : v.same z with
     |false => rw [hs] at h; cases h
     |true =>
      rw [hs] at h
      rcases List.mem_cons.1 hm with rfl | hm
      ·exact ⟨t,v,H1,h2,h3,by rw [h4,AV.same_eq hs]⟩
      ·exact reOk_mem h hm hp
    ·cases h
   ·cases h
  ·cases h
theorem evD_trace {run : Run} {ex : Ex} {L' : Fr} {H' : AH} : ∀ (rs : List R) {L : Fr} {H : AH},evD rs run L H = some (ex,L',H') → ex = .norm ∧ evR rs run L H = some (.norm,L',H') ∧ ∃ (Ls : Nat → Fr) (Hs : Nat → AH) (vs : Nat → AV),Ls 0 = L ∧ Hs 0 = H ∧ Ls rs.length = L' ∧ Hs rs.length = H' ∧
  ∀ q r,rs[q]? = some r → Ls (q + 1) = putF (Ls q) r.dst (vs q) ∧ ((passed (Ls q) r.guard = some true ∧ vs q = .u ∧ Hs (q + 1) = Hs q) ∨ (passed (Ls q) r.guard = some false ∧ evI r.i run (Ls q) (Hs q) = some (vs q,Hs (q + 1)) ∧ reOk r.re run (Ls (q + 1)) (Hs (q + 1)) = true))
 |[] => by
  rename_i L H
  intro h
  injection h with h; injection h with h1 h; injection h with h2 h3; subst h1; subst h2; subst h3
  exact ⟨rfl,rfl,fun _ => L,fun _ => H,fun _ => .u,rfl,rfl,rfl,rfl,fun q r h => by simp at h⟩
 |r :: rs => by
  rename_i L H
  intro h
  replace h : (match passed L r.guard with
   |some true => evD rs run (putF L r.dst .u) H
   |some false => (match evI r.i run L H with
    |some (v,H') => cond (reOk r.re run (putF L r.dst v) H') (evD rs run (putF L r.dst v) H') none
    |none => none)
   |none => none) = some (ex,L',H') := h
  have hR : ∀ b,passed L r.guard = some b → evR (r :: rs) run L H = match b with | true => evR rs run (putF L r.dst .u) H | false => (match evI r.i run L H with | some (v,H') => evR rs run (putF L r.dst v) H' | none => none) := fun b hb => by
   show (match passed L r.guard with | some true => evR rs run (putF L r.dst .u) H | some false => (match evI r.i run L H with | some (v,H') => evR rs run (putF L r.dst v) H' | none => none) | none => none) = _
   rw [hb]; cases b <;> rfl
  have more : ∀ (v : AV) (H1 : AH),evD rs run (putF L r.dst v) H1 = some (ex,L',H') → ((passed L r.guard = some true ∧ v = .u ∧ H1 = H) ∨ (passed L r.guard = some false ∧ evI r.i run L H = some (v,H1) ∧ reOk r.re run (putF L r.dst v) H1 = true)) →
    ex = .norm ∧ evR (r :: rs) run L H = some (.norm,L',H') ∧ ∃ (Ls : Nat → Fr) (Hs : Nat → AH) (vs : Nat → AV),Ls 0 = L ∧ Hs 0 = H ∧ Ls (r :: rs).length = L' ∧ Hs (r :: rs).length = H' ∧
     ∀ q r',(r :: rs)[q]? = some r' → Ls (q + 1) = putF (Ls q) r'.dst (vs q) ∧ ((passed (Ls q) r'.guard = some true ∧ vs q = .u ∧ Hs (q + 1) = Hs q) ∨ (passed (Ls q) r'.guard = some false ∧ evI r'.i run (Ls q) (Hs q) = some (vs q,Hs (q + 1)) ∧ reOk r'.re run (Ls (q + 1)) (Hs (q + 1)) = true)) := fun v H1 hd hk => by
   obtain ⟨e,hr,Ls,Hs,vs,g1,g2,g3,g4,g5⟩ := evD_trace rs hd
   refine ⟨e,?_,fun n => n.casesOn L Ls,fun n => n.casesOn H Hs,fun n => n.casesOn v vs,rfl,rfl,g3,g4,fun q r' hq => ?_⟩
   ·rcases hk with ⟨k1,rfl,rfl⟩ | ⟨k1,k2,_⟩
    ·rw [hR _ k1]; exact hr
    ·rw [hR _ k1]
     simp only [k2]
     exact hr
   ·cases q with
    |zero =>
     simp at hq; subst hq
     refine ⟨g1,?_⟩
     rcases hk with ⟨k1,k2,k3⟩ | ⟨k1,k2,k3⟩
     ·exact .inl ⟨k1,k2,g2.trans k3⟩
     ·refine .inr ⟨k1,?_,?_⟩
      ·show evI r.i run L H = some (v,Hs 0)
       rw [g2]; exact k2
      ·show reOk r.re run (Ls 0) (Hs 0) = true
       rw [g1,g2]; exact k3
    |succ q => exact g5 q r' (by simpa using hq)
  split at h
  ·rename_i hp
   exact more _ _ h (.inl ⟨hp,rfl,rfl⟩)
  ·rename_i hp
   split at h
   ·rename_i v H1 he
    cases hk : reOk r.re run (putF L r.dst v) H1 with
    |false => rw [hk] at h; cases h
    |true =>
     rw [hk] at h
     exact more _ _ h (.inr ⟨hp,he,hk⟩)
   ·cases h
  ·cases h
noncomputable def slotsR (r : R) : List Nat := (match r.guard with | some (t,_) => [t.n] | none => []) ++ slotsI r.i
noncomputable def keepS (L : Fr) : List Nat → Fr
 |[] => Fr.nil
 |t :: S => match lookN t L with
  |some v => putS (keepS L S) (Slt.of t) v
  |none => keepS L S
theorem lookN_lt {t : Nat} {L : Fr} {v : AV} (h : lookN t L = some v) : t < 256 := by
 unfold lookN at h
 cases hb : Nat.blt t 256 with
 |false => rw [hb] at h; cases h
 |true => simpa [Nat.blt_eq] using hb
theorem lookN_nil (t : Nat) : lookN t Fr.nil = none := by
 unfold lookN
 rw [look_nil]
 cases Nat.blt t 256 <;> rfl
theorem keep_none {L : Fr} {t : Nat} (hs : lookN t L = none) : ∀ S : List Nat,lookN t (keepS L S) = none
 |[] => lookN_nil t
 |r :: S => by
  unfold keepS
  cases hr : lookN r L with
  |none => exact keep_none hs S
  |some v =>
   show lookN t (putS (keepS L S) (Slt.of r) v) = none
   rw [lookN_put,Slt.n_of (lookN_lt hr),if_neg (fun e => by subst e; rw [hs] at hr; cases hr)]
   exact keep_none hs S
theorem look_keep_mem {L : Fr} {t : Nat} : ∀ {S : List Nat},t ∈ S → lookN t (keepS L S) = lookN t L
 |[],h => by cases h
 |s :: S,h => by
  unfold keepS
  cases hs : lookN s L with
  |none =>
   show lookN t (keepS L S) = _
   by_cases hst : t = s
   ·subst hst
    rw [hs]
    exact keep_none hs S
   ·exact look_keep_mem ((List.mem_cons.1 h).resolve_left hst)
  |some v =>
   show lookN t (putS (keepS L S) (Slt.of s) v) = _
   rw [lookN_put,Slt.n_of (lookN_lt hs)]
   by_cases hst : t = s
   ·subst hst; rw [if_pos rfl,hs]
   ·rw [if_neg hst]; exact look_keep_mem ((List.mem_cons.1 h).resolve_left hst)
theorem look_keep_not {L : Fr} {t : Nat} : ∀ {S : List Nat},t ∉ S → lookN t (keepS L S) = none
 |[],_ => lookN_nil t
 |s :: S,h => by
  have h' : t ≠ s ∧ t ∉ S := ⟨fun e => h (by rw [e]; exact List.mem_cons_self ..),fun k => h (List.mem_cons_of_mem _ k)⟩
  unfold keepS
  cases hs : lookN s L with
  |none => exact look_keep_not h'.2
  |some v =>
   show lookN t (putS (keepS L S) (Slt.of s) v) = none
   rw [lookN_put,Slt.n_of (lookN_lt hs),if_neg h'.1]; exact look_keep_not h'.2
theorem passed_congr {L L2 : Fr} {r : R} (h : ∀ t ∈ slotsR r,lookN t L = lookN t L2) : passed L r.guard = passed L2 r.guard := by
 unfold passed
 cases hg : r.guard with
 |none => rfl
 |some q =>
  have := h q.1.n (by simp [slotsR,hg])
  rw [lookN_n,lookN_n] at this
  simp only [this]
theorem evI_look {L L2 : Fr} {r : R} {run : Run} {H : AH} (h : ∀ t ∈ slotsR r,lookN t L = lookN t L2) : evI r.i run L H = evI r.i run L2 H := evI_congr fun t ht => h t (List.mem_append_right _ ht)
section
variable [Tx]
structure DR (P : Program) (G : Nat) (n : Nz) (ops : Array Oper) (o : Oper) (r : R) : Prop where
 rr : RR P G n ops o r
 opv : kindI r.i ≤ 1 → OpV P G o r.i
 opa : kindI r.i = 2 → OpA P G o r.i
structure DO (P : Program) (G : Nat) (n : Nz) (ops : Array Oper) (D : List (List Nat)) (π : Nat → Nat) (rs : List R) : Prop where
 back : backOk ops = true
 cert : certOk ops D = true
 len : rs.length = ops.size
 lt : ∀ q,q < ops.size → π q < ops.size
 perm : ∀ i,i < ops.size → ∃ q,q < ops.size ∧ π q = i
 inj : ∀ q q',q < ops.size → q' < ops.size → π q = π q' → q = q'
 opr : ∀ q r,rs[q]? = some r → ∃ o,ops[π q]? = some o ∧ DR P G n ops o r
 dst : ∀ (q q' : Nat) (r r' : R) (t : Nat),rs[q]? = some r → rs[q']? = some r' → r.dst.map Slt.n = some t → r'.dst.map Slt.n = some t → q = q'
 looks : ∀ (q q' : Nat) (r r' : R) (t : Nat),rs[q]? = some r → rs[q']? = some r' → t ∈ slotsR r → r'.dst.map Slt.n = some t → (q' < q ∧ π q' ∈ D.getD (π q) []) ∨ (q < q' ∧ π q ∈ D.getD (π q') [])
 eff : ∀ (p q : Nat) (r : R),p < q → q < ops.size → rs[p]? = some r → kindI r.i = 3 → π p ∈ D.getD (π q) []
 re : ∀ (p q : Nat) (r r' : R),q < p → rs[p]? = some r → kindI r.i = 3 → rs[q]? = some r' → kindI r'.i = 1 → π q ∈ D.getD (π p) [] ∨ (⟨r'.dst,r'.guard,r'.i⟩ ∈ r.re ∧ ∀ (q' : Nat) (r'' : R) (t : Nat),q < q' → q' ≤ p → rs[q']? = some r'' → r''.dst.map Slt.n = some t → t ∉ slotsR r')
structure DT (rs : List R) (run : Run) (L' : Fr) (Ls : Nat → Fr) (Hs : Nat → AH) (vs : Nat → AV) : Prop where
 fin : Ls rs.length = L'
 opr : ∀ q r,rs[q]? = some r → Ls (q + 1) = putF (Ls q) r.dst (vs q) ∧ ((passed (Ls q) r.guard = some true ∧ vs q = .u ∧ Hs (q + 1) = Hs q) ∨ (passed (Ls q) r.guard = some false ∧ evI r.i run (Ls q) (Hs q) = some (vs q,Hs (q + 1)) ∧ reOk r.re run (Ls (q + 1)) (Hs (q + 1)) = true))
end
section
variable {P : Program} {G : Nat} {n : Nz} {ops : Array Oper} {D : List (List Nat)} {π : Nat → Nat} {rs : List R} {run : Run} {L' : Fr} {Ls : Nat → Fr} {Hs : Nat → AH} {vs : Nat → AV}
theorem DT.keep (hT : DT rs run L' Ls Hs vs) {t : Nat} : ∀ (k p : Nat),p + k = rs.length → (∀ q r,p ≤ q → rs[q]? = some r → r.dst.map Slt.n ≠ some t) → lookN t L' = lookN t (Ls p)
 |0,p,h,_ => by rw [← hT.fin,← h]; rfl
 |k + 1,p,h,hn => by
  have ih := DT.keep hT k (p + 1) (by omega) fun q r hq => hn q r (by omega)
  have hr : rs[p]? = some rs[p] := List.getElem?_eq_getElem (by omega)
  rw [ih,(hT.opr p _ hr).1]
  have := hn p _ (Nat.le_refl _) hr
  cases hd : (rs[p]).dst with
  |none => rfl
  |some d =>
   show lookN t (putS (Ls p) d (vs p)) = _
   rw [lookN_put,if_neg (fun e => this (by rw [hd,e]; rfl))]
theorem DT.keepR (hT : DT rs run L' Ls Hs vs) {t : Nat} : ∀ (k p : Nat),p + k ≤ rs.length → (∀ q r,p ≤ q → q < p + k → rs[q]? = some r → r.dst.map Slt.n ≠ some t) → lookN t (Ls (p + k)) = lookN t (Ls p)
 |0,p,_,_ => rfl
 |k + 1,p,h,hn => by
  have ih := DT.keepR hT k p (by omega) fun q r hq hq' => hn q r hq (by omega)
  have hr : rs[p + k]? = some rs[p + k] := List.getElem?_eq_getElem (by omega)
  rw [← ih,← Nat.add_assoc,(hT.opr (p + k) _ hr).1]
  have := hn (p + k) _ (by omega) (by omega) hr
  cases hd : (rs[p + k]).dst with
  |none => rfl
  |some d =>
   show lookN t (putS (Ls (p + k)) d (vs (p + k))) = _
   rw [lookN_put,if_neg (fun e => this (by rw [hd,e]; rfl))]
section
variable [Tx]
theorem DT.slots (hT : DT rs run L' Ls Hs vs) (hO : DO P G n ops D π rs) {q : Nat} {r : R} {t : Nat} (hr : rs[q]? = some r) (ht : t ∈ slotsR r) :
  ((∀ q' r',rs[q']? = some r' → r'.dst.map Slt.n = some t → π q' ∈ D.getD (π q) []) ∧ lookN t (Ls q) = lookN t L') ∨ ((∀ q' r',rs[q']? = some r' → r'.dst.map Slt.n = some t → π q ∈ D.getD (π q') []) ∧ lookN t (Ls q) = lookN t (Ls 0)) := by
 have hlt := (List.getElem?_eq_some_iff.1 hr).1
 by_cases h : ∃ q' r',rs[q']? = some r' ∧ r'.dst.map Slt.n = some t ∧ q < q'
 ·obtain ⟨q1,r1,h1,h2,h3⟩ := h
  refine .inr ⟨fun q' r' hr' hd' => ?_,?_⟩
  ·have e := hO.dst q1 q' r1 r' t h1 hr' h2 hd'
   subst e
   rcases hO.looks q q1 r r' t hr hr' ht hd' with g | g
   ·omega
   ·exact g.2
  ·have := hT.keepR (t := t) q 0 (by omega) fun q' r' _ hq' hr' hd' => by
    have e := hO.dst q1 q' r1 r' t h1 hr' h2 hd'
    omega
   rw [Nat.zero_add] at this; exact this
 ·have hno : ∀ q' r',rs[q']? = some r' → r'.dst.map Slt.n = some t → q' < q ∧ π q' ∈ D.getD (π q) [] := fun q' r' hr' hd' => by
   rcases hO.looks q q' r r' t hr hr' ht hd' with g | g
   ·exact g
   ·exact absurd ⟨q',r',hr',hd',g.1⟩ h
  refine .inl ⟨fun q' r' hr' hd' => (hno q' r' hr' hd').2,?_⟩
  exact (hT.keep (rs.length - q) q (by omega) fun q' r' hq hr' hd => by
   have := (hno q' r' hr' hd).1
   omega).symm
theorem DT.val (hT : DT rs run L' Ls Hs vs) (hO : DO P G n ops D π rs) {q : Nat} {d : Slt} {r : R} (hr : rs[q]? = some r) (hd : r.dst = some d) : lookN d.n L' = some (vs q) ∧ lookN d.n (Ls (q + 1)) = some (vs q) := by
 have hq : q < rs.length := (List.getElem?_eq_some_iff.1 hr).1
 have h1 : lookN d.n (Ls (q + 1)) = some (vs q) := by
  rw [(hT.opr q r hr).1,hd]
  show lookN d.n (putS (Ls q) d (vs q)) = _
  rw [lookN_put,if_pos rfl]
 refine ⟨?_,h1⟩
 rw [hT.keep (rs.length - (q + 1)) (q + 1) (by omega) fun q' r' hq' hr' hd' => by
  have := hO.dst q q' r r' d.n hr hr' (by rw [hd]; rfl) hd'
  omega]
 exact h1
structure PreD (rs : List R) (π : Nat → Nat) (run : Run) (Ls : Nat → Fr) (Hs : Nat → AH) (vs : Nat → AV) (G : Nat) (E0 : En) (w0 : W0) (lst : Nat → Prop) (p : Nat) (E : En) (w : World) : Prop where
 ge : GE G E
 hr : HR E (Hs p) w0 w
 le : E0.le E
 new : ∀ b x,E b = some x → E0 b = some x ∨ (Hs 0).nx ≤ b
 mono : ∀ q q',q ≤ q' → q' ≤ p → (Hs q).nx ≤ (Hs q').nx
 und : ∀ q r,q < p → rs[q]? = some r → ¬ lst (π q) → Ev.passed (Ls q) r.guard = some false → (kindI r.i ≤ 1 → Ev.evI r.i run (Ls q) (Hs p) = some (vs q,Hs p)) ∧ (kindI r.i = 2 → E (Hs q).nx = none ∧ ∃ obj,Hs (q + 1) = (Hs q).push obj ∧ (Hs p).get (Hs q).nx = some obj)
end
variable {E0 : En} {w0 : W0} {lst : Nat → Prop}
section
variable [Tx]
theorem PreD.step {p : Nat} {E : En} {w : World} {r : R} (hT : DT rs run L' Ls Hs vs) (hO : DO P G n ops D π rs) (h : PreD rs π run Ls Hs vs G E0 w0 lst p E w) (hr : rs[p]? = some r) (hk : kindI r.i ≠ 3) (hk3 : kindI r.i ≤ 3) : PreD rs π run Ls Hs vs G E0 w0 lst (p + 1) E w := by
 have same : Hs (p + 1) = Hs p → (Ev.passed (Ls p) r.guard = some false → kindI r.i ≤ 1 ∧ Ev.evI r.i run (Ls p) (Hs p) = some (vs p,Hs p)) → PreD rs π run Ls Hs vs G E0 w0 lst (p + 1) E w := fun e hv => by
  refine ⟨h.ge,by rw [e]; exact h.hr,h.le,h.new,fun q q' hq hq' => ?_,fun q r' hq hr' hl hp => ?_⟩
  ·by_cases hp : q' = p + 1
   ·subst hp
    rw [e]
    by_cases hqp : q = p + 1
    ·subst hqp; rw [e]; exact Nat.le_refl _
    ·exact h.mono q p (by omega) (Nat.le_refl _)
   ·exact h.mono q q' hq (by omega)
  ·rw [e]
   by_cases hqp : q = p
   ·subst hqp
    rw [hr] at hr'; injection hr' with hr'; subst hr'
    obtain ⟨k1,k2⟩ := hv hp
    exact ⟨fun _ => k2,fun k => by omega⟩
   ·exact h.und q r' (by omega) hr' hl hp
 obtain ⟨o,_,hd⟩ := hO.opr p r hr
 rcases (hT.opr p r hr).2 with ⟨k1,k2,k3⟩ | ⟨k1,k2,_⟩
 ·refine same k3 fun hp => ?_
  rw [hp] at k1; cases k1
 ·by_cases hk1 : kindI r.i ≤ 1
  ·obtain ⟨e1,e2⟩ := evI_value (H2 := Hs p) hk1 (.inr (Sub.refl _)) k2
   exact same e1 fun _ => ⟨hk1,e2⟩
  ·have hk2 : kindI r.i = 2 := by omega
   obtain ⟨obj,e1,e2,_⟩ := hd.opa hk2 k2
   have hn := h.hr.get_nx
   have hsub : Sub (Hs p) ((Hs p).push obj) := Sub.push hn
   refine ⟨h.ge,by rw [e1]; exact h.hr.push e2,h.le,h.new,fun q q' hq hq' => ?_,fun q r' hq hr' hl hp => ?_⟩
   ·by_cases hp : q' = p + 1
    ·subst hp
     by_cases hqp : q = p + 1
     ·subst hqp; exact Nat.le_refl _
     ·rw [e1]
      exact Nat.le_trans (h.mono q p (by omega) (Nat.le_refl _)) (Nat.le_succ _)
    ·exact h.mono q q' hq (by omega)
   ·rw [e1]
    by_cases hqp : q = p
    ·subst hqp
     rw [hr] at hr'; injection hr' with hr'; subst hr'
     exact ⟨fun k => absurd k hk1,fun _ => ⟨h.hr.free,obj,e1,(AH.get_push _ _ _).trans (if_pos rfl)⟩⟩
    ·obtain ⟨g1,g2⟩ := h.und q r' (by omega) hr' hl hp
     refine ⟨fun k => (evI_value k (.inr hsub) (g1 k)).2,fun k => ?_⟩
     obtain ⟨g3,obj',g4,g5⟩ := g2 k
     exact ⟨g3,obj',g4,hsub.get g5⟩
theorem PreD.front (hT : DT rs run L' Ls Hs vs) (hO : DO P G n ops D π rs) {E : En} {w : World} (hk3 : ∀ i,kindI i ≤ 3) : ∀ (k p : Nat),p + k = rs.length → PreD rs π run Ls Hs vs G E0 w0 lst p E w →
  ∃ p',p ≤ p' ∧ p' ≤ rs.length ∧ PreD rs π run Ls Hs vs G E0 w0 lst p' E w ∧ (∀ q r,p ≤ q → q < p' → rs[q]? = some r → kindI r.i ≠ 3) ∧ (p' < rs.length → ∃ r,rs[p']? = some r ∧ kindI r.i = 3)
 |0,p,h,hp => ⟨p,Nat.le_refl _,by omega,hp,fun q r h1 h2 => by omega,fun h1 => by omega⟩
 |k + 1,p,h,hp => by
  have hr : rs[p]? = some rs[p] := List.getElem?_eq_getElem (by omega)
  by_cases hk : kindI (rs[p]).i = 3
  ·exact ⟨p,Nat.le_refl _,by omega,hp,fun q r h1 h2 => by omega,fun _ => ⟨_,hr,hk⟩⟩
  ·obtain ⟨p',g1,g2,g3,g4,g5⟩ := PreD.front hT hO hk3 k (p + 1) (by omega) (hp.step hT hO hr hk (hk3 _))
   refine ⟨p',by omega,g2,g3,fun q r h1 h2 hq => ?_,g5⟩
   by_cases hqp : q = p
   ·subst hqp; rw [hr] at hq; injection hq with hq; subst hq; exact hk
   ·exact g4 q r (by omega) h2 hq
end
end
end Ev
end
section
namespace Ev
set_option autoImplicit false
section
variable [Tx]
structure MidD (rs : List R) (π : Nat → Nat) (run : Run) (L' : Fr) (Ls : Nat → Fr) (Hs : Nat → AH) (vs : Nat → AV) (G : Nat) (n : Nz) (ops : Array Oper) (D : List (List Nat)) (E0 : En) (w0 : W0) (listed : Array Bool) (p : Nat) (E : En) (a : Act) (w : World) : Prop where
 size : listed.size = ops.size
 closed : ∀ j,listed.getD j false = true → ∀ x ∈ D.getD j [],listed.getD x false = true
 pre : PreD rs π run Ls Hs vs G E0 w0 (fun i => listed.getD i false = true) p E w
 eff : ∀ q r,q < p → rs[q]? = some r → kindI r.i = 3 → listed.getD (π q) false = true
 ple : p ≤ rs.length
 frt : p < rs.length → ∃ r,rs[p]? = some r ∧ kindI r.i = 3 ∧ listed.getD (π p) false = false
 sz : a.tmps.size = n.n
 df : a.defers = []
 fr : ∀ t v,lookN t L' = some v → (∀ q r,rs[q]? = some r → r.dst.map Slt.n = some t → listed.getD (π q) false = true) → v.v E (a.tmps.getD t undef)
 fr0 : ∀ t v,lookN t (Ls 0) = some v → (∀ q r,rs[q]? = some r → r.dst.map Slt.n = some t → listed.getD (π q) false = false) → v.v E (a.tmps.getD t undef)
end
section
variable {P : Program} {G : Nat} {n : Nz} {ops : Array Oper} {D : List (List Nat)} {π : Nat → Nat} {rs : List R} {run : Run} {L' : Fr} {Ls : Nat → Fr} {Hs : Nat → AH} {vs : Nat → AV} {E0 : En} {w0 : W0} {Q : Exit → Act → World → Prop}
theorem kindI_le : ∀ i : I,kindI i ≤ 3 := fun i => by cases i <;> simp only [kindI] <;> decide
theorem put_get {a : Act} {d t : Nat} {u : Value} : (a.put (some d) u).tmps.getD t undef = if t = d ∧ d < a.tmps.size then u else a.tmps.getD t undef := by
 show (a.tmps.setIfInBounds d u).getD t undef = _
 by_cases h : t = d
 ·subst h
  by_cases hl : t < a.tmps.size
  ·rw [if_pos ⟨rfl,hl⟩,getD_setIfInBounds_self _ _ _ _ hl]
  ·rw [if_neg (fun h => hl h.2)]
   simp [Array.getD,hl]
 ·rw [if_neg (fun k => h k.1),getD_setIfInBounds_ne _ _ _ _ _ (fun e => h e.symm)]
section
variable [Tx]
theorem draw_mid (hrun : RunOk P G run) (hO : DO P G n ops D π rs) (hT : DT rs run L' Ls Hs vs) (hz : ∀ q,q ≤ rs.length → ∀ t ∈ n.Z,lookN t (Ls q) = none) (hQ : ∀ E a w,E0.le E → (∀ b x,E b = some x → E0 b = some x ∨ (Hs 0).nx ≤ b) → HR E (Hs rs.length) w0 w → FrR E L' n a → Q .normal a w) :
  ∀ (fuel : Nat) (listed : Array Bool) (p : Nat) (E : En) (a : Act) (w : World),MidD rs π run L' Ls Hs vs G n ops D E0 w0 listed p E a w → listed.toList.count false ≤ fuel → wpAny P .any ops Q fuel listed a w := by
 have hlen := hO.len
 -- all have come
 have hfin : ∀ (listed : Array Bool) (p : Nat) (E : En) (a : Act) (w : World),MidD rs π run L' Ls Hs vs G n ops D E0 w0 listed p E a w → (∀ i,i < ops.size → listed.getD i false = true) → PR P ops Q (List.range ops.size) a w := fun listed p E a w hM hall => by
  refine PR_end (by simp [List.all_eq_true]) ?_
  have hp : p = rs.length := by
   rcases Nat.lt_or_ge p rs.length with h | h
   ·obtain ⟨r,h1,_,h3⟩ := hM.frt h
    rw [hall _ (hO.lt p (by omega))] at h3; cases h3
   ·have := hM.ple; omega
  have hpre := hM.pre
  rw [hp] at hpre
  exact hQ E a w hpre.le hpre.new hpre.hr ⟨hM.sz,hM.df,fun t v hv => hM.fr t v hv fun q r hr _ => hall _ (hO.lt q (by have := (List.getElem?_eq_some_iff.1 hr).1; omega)),fun t ht => by rw [← hT.fin]; exact hz _ (Nat.le_refl _) t ht⟩
 intro fuel
 induction fuel with
 |zero =>
  intro listed p E a w hM hcount
  have hall : ∀ i,i < ops.size → listed.getD i false = true := by
   intro i hi
   have h0 : listed.toList.count false = 0 := by omega
   have hn := List.count_eq_zero.1 h0
   have hsz : i < listed.size := by rw [hM.size]; exact hi
   cases hv : listed[i] with
   |true => simp [Array.getD,hsz,hv]
   |false => exact absurd (by rw [← hv]; exact Array.mem_toList_iff.2 (Array.getElem_mem hsz)) hn
  exact hfin listed p E a w hM hall 0 listed hM.size (fun i hi => by rw [List.mem_range]; exact ⟨fun _ => hi,fun _ => hall i hi⟩) hcount
 |succ fuel ih =>
  intro listed p E a w hM hcount
  by_cases hall : ∀ i,i < ops.size → listed.getD i false = true
  ·exact hfin listed p E a w hM hall (fuel + 1) listed hM.size (fun i hi => by rw [List.mem_range]; exact ⟨fun _ => hi,fun _ => hall i hi⟩) hcount
  ·have ⟨j0,hj0⟩ := Classical.not_forall.1 hall
   have ⟨hj0m,hj0l⟩ := Classical.not_imp.1 hj0
   have hrs := ready_some hO.back hM.size j0 hj0m (by simpa using hj0l)
   refine ⟨fun h => absurd h hrs,fun i hi => ?_⟩
   have hcl := cert_listed hO.cert hM.closed hi
   obtain ⟨h1,o,ho,_⟩ := mem_ready.1 hi
   have hlti : i < ops.size := (Array.getElem?_eq_some_iff.1 ho).1
   have hil : listed.getD i false = false := by simp [Array.getD,hM.size,hlti] at h1 ⊢; exact h1
   have hils : i < listed.size := by rw [hM.size]; exact hlti
   obtain ⟨q,hq,hqi⟩ := hO.perm i hlti
   have hr : rs[q]? = some rs[q] := List.getElem?_eq_getElem (by omega)
   generalize rs[q] = r at hr
   obtain ⟨o',ho',hd⟩ := hO.opr q r hr
   rw [hqi,ho] at ho'; injection ho' with ho'; subst ho'
   -- it does not come behind the first write
   have hqp : q ≤ p := by
    rcases Nat.lt_or_ge p q with h | h
    ·obtain ⟨r',k1,k2,k3⟩ := hM.frt (by omega)
     have := hcl _ (hqi ▸ hO.eff p q r' h hq k1 k2)
     rw [k3] at this; cases this
    ·exact h
   have hpl := hM.ple
   -- the frame,as far as it matters
   have hlk : ∀ t ∈ slotsR r,lookN t (keepS (Ls q) (slotsR r)) = lookN t (Ls q) := fun t ht => look_keep_mem ht
   have hF : FrR E (keepS (Ls q) (slotsR r)) n a := ⟨hM.sz,hM.df,fun t v hv => by
    by_cases ht : t ∈ slotsR r
    ·rw [look_keep_mem ht] at hv
     rcases hT.slots hO hr ht with ⟨g1,g2⟩ | ⟨g1,g2⟩
     ·refine hM.fr t v (by rw [← g2]; exact hv) fun q' r' hr' hd' => hcl _ ?_
      rw [← hqi]; exact g1 q' r' hr' hd'
     ·refine hM.fr0 t v (by rw [← g2]; exact hv) fun q' r' hr' hd' => ?_
      cases hb : listed.getD (π q') false with
      |false => rfl
      |true =>
       have := hM.closed _ hb _ (g1 q' r' hr' hd')
       rw [hqi,hil] at this; cases this
    ·exfalso
     rw [look_keep_not ht] at hv; exact (nomatch hv),fun t ht => by
    by_cases hm : t ∈ slotsR r
    ·rw [look_keep_mem hm]; exact hz q (by omega) t ht
    ·exact look_keep_not hm⟩
   have hpas : passed (keepS (Ls q) (slotsR r)) r.guard = passed (Ls q) r.guard := passed_congr hlk
   have heval : ∀ H,evI r.i run (keepS (Ls q) (slotsR r)) H = evI r.i run (Ls q) H := fun H => evI_look hlk
   have hdst : ∀ d,r.dst.map Slt.n = some d → d < n.n := fun d hd' => hd.rr.lt d (by rw [hd.rr.dst]; exact hd')
   have set_of : ∀ j,j ≠ i → (listed.setIfInBounds i true).getD j false = listed.getD j false := fun j hj => by rw [getD_set _ _ _ hils,if_neg hj]
   have set_lo : ∀ j,listed.getD j false = true → (listed.setIfInBounds i true).getD j false = true := fun j hj => by
    rw [getD_set _ _ _ hils]; split <;> first | rfl | exact hj
   have hqq : ∀ q' r',rs[q']? = some r' → q' ≠ q → π q' ≠ i := fun q' r' hr' hne e => hne (hO.inj q' q (by have := (List.getElem?_eq_some_iff.1 hr').1; omega) hq (by rw [e,hqi]))
   -- what is known behind it
   have step : ∀ (p' : Nat) (E' : En) (u : Value) (w' : World),E.le E' → (vs q).v E' u → q ≤ p' → p ≤ p' → p' ≤ rs.length → (q = p' → p' < rs.length → False) →
     PreD rs π run Ls Hs vs G E0 w0 (fun i' => (listed.setIfInBounds i true).getD i' false = true) p' E' w' →
     (∀ q' r',p ≤ q' → q' < p' → rs[q']? = some r' → kindI r'.i = 3 → q' = q) → (p' < rs.length → ∃ r',rs[p']? = some r' ∧ kindI r'.i = 3) →
     wpAny P .any ops Q fuel (listed.setIfInBounds i true) (a.put o.dst u) w' := fun p' E' u w' g1 g2 g3 g4 g5 g6 g7 g8 g9 => by
    refine ih _ p' E' _ w' ⟨by simp [hM.size],fun j hj x hx => ?_,g7,fun q' r' hq' hr' hk' => ?_,g5,fun hlt => ?_,?_,?_,fun t v hv hw => ?_,fun t v hv hw => ?_⟩ (by have := count_set listed i hils h1; omega)
    ·rw [getD_set _ _ _ hils] at hj
     split at hj
     ·rename_i e; subst e; exact set_lo _ (hcl x hx)
     ·exact set_lo _ (hM.closed j hj x hx)
    ·rcases Nat.lt_or_ge q' p with h | h
     ·exact set_lo _ (hM.eff q' r' h hr' hk')
     ·rw [g8 q' r' h hq' hr' hk',hqi,getD_set _ _ _ hils,if_pos rfl]
    ·obtain ⟨r',k1,k2⟩ := g9 hlt
     refine ⟨r',k1,k2,?_⟩
     have hne : p' ≠ q := fun e => g6 e.symm hlt
     rw [set_of _ (hqq p' r' k1 hne)]
     by_cases hpp : p' = p
     ·subst hpp
      obtain ⟨r'',_,_,k3⟩ := hM.frt hlt; exact k3
     ·cases hb : listed.getD (π p') false with
      |false => rfl
      |true =>
       obtain ⟨r0,k3,k4,k5⟩ := hM.frt (by omega)
       have := hM.closed _ hb _ (hO.eff p p' r0 (by omega) (by omega) k3 k4)
       rw [k5] at this; cases this
    ·cases hd' : o.dst <;> simp [Act.put,hM.sz]
    ·cases hd' : o.dst <;> simp [Act.put,hM.df]
    ·by_cases hdt : r.dst.map Slt.n = some t
     ·rw [hd.rr.dst,hdt,put_get,if_pos ⟨rfl,by rw [hM.sz]; exact hdst t hdt⟩]
      obtain ⟨d,hd1,hd2⟩ := Option.map_eq_some_iff.1 hdt
      have := (hT.val hO hr hd1).1
      rw [hd2,hv] at this; injection this with this; subst this; exact g2
     ·have e : (a.put o.dst u).tmps.getD t undef = a.tmps.getD t undef := by
       rw [hd.rr.dst]
       cases hd' : r.dst with
       |none => rfl
       |some d =>
        show (a.put (some d.n) u).tmps.getD t undef = _
        rw [put_get,if_neg (fun e => hdt (by rw [hd',e.1]; rfl))]
      rw [e]
      refine AV.mono g1 (hM.fr t v hv fun q' r' hr' hd' => ?_)
      have hne : q' ≠ q := fun e => by subst e; rw [hr] at hr'; injection hr' with hr'; subst hr'; exact hdt hd'
      rw [← set_of _ (hqq q' r' hr' hne)]
      exact hw q' r' hr' hd'
    ·have hdt : r.dst.map Slt.n ≠ some t := fun hdt => by
      have := hw q r hr hdt
      rw [hqi,getD_set _ _ _ hils,if_pos rfl] at this; cases this
     have e : (a.put o.dst u).tmps.getD t undef = a.tmps.getD t undef := by
      rw [hd.rr.dst]
      cases hd' : r.dst with
      |none => rfl
      |some d =>
       show (a.put (some d.n) u).tmps.getD t undef = _
       rw [put_get,if_neg (fun e => hdt (by rw [hd',e.1]; rfl))]
     rw [e]
     refine AV.mono g1 (hM.fr0 t v hv fun q' r' hr' hd' => ?_)
     have hne : q' ≠ q := fun e => by subst e; rw [hr] at hr'; injection hr' with hr'; subst hr'; exact hdt hd'
     rw [← set_of _ (hqq q' r' hr' hne)]
     exact hw q' r' hr' hd'
   -- memory as it was,others that have not come
   have hmeq : ∀ q' r' (obj : AO),q' < p → rs[q']? = some r' → Hs (q' + 1) = (Hs q').push obj → (Hs q').nx + 1 = (Hs (q' + 1)).nx := fun q' r' obj _ _ e => by rw [e]; rfl
   have keep : ∀ (E' : En) (w' : World),E.le E' → HR E' (Hs p) w0 w' → (∀ b x,E' b = some x → E b = some x ∨ (Hs 0).nx ≤ b) → (∀ q' (obj : AO),q' < p → q' ≠ q → Hs (q' + 1) = (Hs q').push obj → E (Hs q').nx = none → E' (Hs q').nx = none) →
     PreD rs π run Ls Hs vs G E0 w0 (fun i' => (listed.setIfInBounds i true).getD i' false = true) p E' w' := fun E' w' g1 g2 g3 g4 => by
    refine ⟨hM.pre.ge.mono g1,g2,En.le_trans hM.pre.le g1,fun b x hx => ?_,hM.pre.mono,fun q' r' hq' hr' hl hp' => ?_⟩
    ·rcases g3 b x hx with g | g
     ·exact hM.pre.new b x g
     ·exact .inr g
    ·have hne : q' ≠ q := fun e => by subst e; exact hl (by rw [hqi,getD_set _ _ _ hils,if_pos rfl])
     obtain ⟨k1,k2⟩ := hM.pre.und q' r' hq' hr' (fun h => hl (set_lo _ h)) hp'
     refine ⟨k1,fun k => ?_⟩
     obtain ⟨k3,obj,k4,k5⟩ := k2 k
     exact ⟨g4 q' obj hq' hne k4 k3,obj,k4,k5⟩
   have keep0 := keep E w (En.le_refl _) hM.pre.hr (fun _ _ h => .inl h) (fun _ _ _ _ _ h => h)
   have front : ∀ (E' : En) (u : Value) (w' : World),q = p → E.le E' → (vs q).v E' u → PreD rs π run Ls Hs vs G E0 w0 (fun i' => (listed.setIfInBounds i true).getD i' false = true) (p + 1) E' w' → wpAny P .any ops Q fuel (listed.setIfInBounds i true) (a.put o.dst u) w' := fun E' u w' hqe g1 g2 g3 => by
    obtain ⟨p',k1,k2,k3,k4,k5⟩ := g3.front hT hO kindI_le (rs.length - (p + 1)) (p + 1) (by omega)
    exact step p' E' u w' g1 g2 (by omega) (by omega) k2 (fun h _ => by omega) k3 (fun q' r' h1 h2 hr' hk' => by
     by_cases h : q' = p
     ·omega
     ·exact absurd hk' (k4 q' r' (by omega) h2 hr')) k5
   have wait : ∀ (E' : En) (u : Value) (w' : World),q < p → E.le E' → (vs q).v E' u → PreD rs π run Ls Hs vs G E0 w0 (fun i' => (listed.setIfInBounds i true).getD i' false = true) p E' w' → wpAny P .any ops Q fuel (listed.setIfInBounds i true) (a.put o.dst u) w' := fun E' u w' hqe g1 g2 g3 =>
    step p E' u w' g1 g2 (Nat.le_of_lt hqe) (Nat.le_refl _) hpl (fun h _ => by omega) g3 (fun q' r' h1 h2 _ _ => by omega) fun hlt => by
     obtain ⟨r',k1,k2,_⟩ := hM.frt hlt
     exact ⟨r',k1,k2⟩
   have hk3 : q = p → kindI r.i = 3 := fun h => by
    subst h
    obtain ⟨r',k1,k2,_⟩ := hM.frt (by omega)
    rw [hr] at k1; injection k1 with k1; subst k1; exact k2
   -- PreD behind the first write
   have behind : ∀ (E' : En) (w' : World),q = p → E.le E' → (∀ b x,E' b = some x → E b = some x ∨ (Hs p).nx ≤ b) → HR E' (Hs (p + 1)) w0 w' → (Hs p).nx ≤ (Hs (p + 1)).nx → (∀ b,b < (Hs p).nx → E b = none → (Hs (p + 1)).get b = (Hs p).get b) →
     (∀ q' r',q' < p → rs[q']? = some r' → passed (Ls q') r'.guard = some false → kindI r'.i ≤ 1 → listed.getD (π q') false = false → evI r'.i run (Ls q') (Hs p) = some (vs q',Hs p) → evI r'.i run (Ls q') (Hs (p + 1)) = some (vs q',Hs (p + 1))) →
     PreD rs π run Ls Hs vs G E0 w0 (fun i' => (listed.setIfInBounds i true).getD i' false = true) (p + 1) E' w' := fun E' w' hqe g1 g2 g3 g4 g5 g6 => by
    refine ⟨hM.pre.ge.mono g1,g3,En.le_trans hM.pre.le g1,fun b x hx => ?_,fun q1 q2 h1 h2 => ?_,fun q' r' hq' hr' hl hp' => ?_⟩
    ·rcases g2 b x hx with g | g
     ·exact hM.pre.new b x g
     ·exact .inr (Nat.le_trans (hM.pre.mono 0 p (Nat.zero_le _) (Nat.le_refl _)) g)
    ·by_cases h : q2 = p + 1
     ·subst h
      by_cases h' : q1 = p + 1
      ·subst h'; exact Nat.le_refl _
      ·exact Nat.le_trans (hM.pre.mono q1 p (by omega) (Nat.le_refl _)) g4
     ·exact hM.pre.mono q1 q2 h1 (by omega)
    ·have hne : q' ≠ q := fun e => by subst e; exact hl (by rw [hqi,getD_set _ _ _ hils,if_pos rfl])
     have hlt : q' < p := by omega
     have hul : ¬ listed.getD (π q') false = true := fun h => hl (set_lo _ h)
     obtain ⟨k1,k2⟩ := hM.pre.und q' r' hlt hr' hul hp'
     refine ⟨fun k => g6 q' r' hlt hr' hp' k (by simpa using hul) (k1 k),fun k => ?_⟩
     obtain ⟨k3,obj,k4,k5⟩ := k2 k
     have hnx : (Hs q').nx < (Hs p).nx := hM.pre.hr.key _ _ k5
     refine ⟨?_,obj,k4,by rw [g5 _ hnx k3]; exact k5⟩
     cases hE : E' (Hs q').nx with
     |none => rfl
     |some x =>
      rcases g2 _ x hE with g | g
      ·rw [k3] at g; cases g
      ·omega
   refine wpOp_of_opK ho ?_
   rcases (hT.opr q r hr).2 with ⟨c1,c2,c3⟩ | ⟨c1,c2,c3⟩
   ·-- passed by
    have hw := passed_eq hF hd.rr (hpas.trans c1)
    unfold opK
    rw [if_neg (by rw [hw]; simp)]
    have hu : (vs q).v E undef := by rw [c2]; rfl
    rcases Nat.lt_or_eq_of_le hqp with h | h
    ·exact wait E undef w h (En.le_refl _) hu keep0
    ·refine front E undef w h (En.le_refl _) hu (behind E w h (En.le_refl _) (fun _ _ h => .inl h) ?_ ?_ ?_ ?_)
     ·rw [← h,c3,h]; exact hM.pre.hr
     ·rw [← h,c3]; exact Nat.le_refl _
     ·intro b _ _; rw [← h,c3]
     ·intro q' r' _ _ _ _ _ he; rw [← h,c3,h]; exact he
   ·have hw := passed_eq hF hd.rr (hpas.trans c1)
    have hop : ∀ {K : Act → World → Prop},o.wp P a w K Q → opK P ops Q o K a w := fun hk => by
     unfold opK
     rw [if_pos (by rw [hw]; rfl)]; exact hk
    rcases Nat.lt_or_eq_of_le hqp with h | h
    ·-- a value,a block
     have hu : ¬ listed.getD (π q) false = true := by rw [hqi,hil]; exact Bool.false_ne_true
     have hne3 : kindI r.i ≠ 3 := fun hk => hu (hM.eff q r h hr hk)
     obtain ⟨u1,u2⟩ := hM.pre.und q r h hr hu c1
     by_cases hk1 : kindI r.i ≤ 1
     ·obtain ⟨_,u,k1,k2⟩ := hd.opv hk1 hM.pre.ge hM.pre.hr hF.fr ((heval _).trans (u1 hk1))
      refine hop ?_
      simp only [Oper.wp,k1,Oper.upon]
      exact wait E u w h (En.le_refl _) k2 keep0
     ·have hk2 : kindI r.i = 2 := by have := kindI_le r.i; omega
      obtain ⟨m1,obj',m2,m3⟩ := u2 hk2
      obtain ⟨obj,e1,e2,e3⟩ := hd.opa hk2 ((heval _).trans c2)
      have hobj : obj' = obj := by
       have g1 : ((Hs q).push obj').get (Hs q).nx = some obj' := (AH.get_push _ _ _).trans (if_pos rfl)
       have g2 : ((Hs q).push obj).get (Hs q).nx = some obj := (AH.get_push _ _ _).trans (if_pos rfl)
       rw [← m2,e1,g2] at g1
       injection g1 with g1; exact g1.symm
      subst hobj
      obtain ⟨u,w',E',k1,k2,k3,k4,k5⟩ := e3 hM.pre.ge hM.pre.hr hF.fr m3 m1
      refine hop ?_
      simp only [Oper.wp,k3,Oper.upon]
      refine wait E' u w' h k1 k5 (keep E' w' k1 k4 (fun b x hx => ?_) fun q' obj2 hq' hne hpu hE => ?_)
      ·by_cases hb : b = (Hs q).nx
       ·subst hb; exact .inr (hM.pre.mono 0 q (Nat.zero_le _) (Nat.le_of_lt h))
       ·rw [k2 b hb] at hx; exact .inl hx
      ·rw [k2 _ fun e => ?_]; · exact hE
       have g1 : (Hs (q' + 1)).nx = (Hs q').nx + 1 := by rw [hpu]; rfl
       have g2 : (Hs (q + 1)).nx = (Hs q).nx + 1 := by rw [m2]; rfl
       rcases Nat.lt_or_gt_of_ne hne with h' | h'
       ·have := hM.pre.mono (q' + 1) q h' (Nat.le_of_lt h)
        omega
       ·have := hM.pre.mono (q + 1) q' h' (Nat.le_of_lt hq')
        omega
    ·-- a write
     have hk := hk3 h
     have c2' : evI r.i run (keepS (Ls q) (slotsR r)) (Hs p) = some (vs q,Hs (p + 1)) := by rw [heval,← h]; exact c2
     obtain ⟨k1,k2⟩ := hd.rr.op hrun hM.pre.ge hM.pre.hr hF.fr c2'
     have again : ∀ q' r',q' < p → rs[q']? = some r' → passed (Ls q') r'.guard = some false → kindI r'.i ≤ 1 → listed.getD (π q') false = false → evI r'.i run (Ls q') (Hs p) = some (vs q',Hs p) → evI r'.i run (Ls q') (Hs (p + 1)) = some (vs q',Hs (p + 1)) := fun q' r' hq' hr' hp' hk' hu' he => by
      have hq'l : q' < rs.length := by omega
      by_cases h0 : kindI r'.i = 0
      ·exact (evI_value hk' (.inl h0) he).2
      ·have hre := hO.re p q' r r' hq' (h ▸ hr) hk hr' (by omega)
       rcases hre with hre | ⟨hre,hno⟩
       ·have := hcl (π q') (by rw [← hqi,h]; exact hre)
        rw [hu'] at this; cases this
       ·have hsl : ∀ t ∈ slotsR r',lookN t (Ls (q + 1)) = lookN t (Ls q') := fun t ht => by
         have := hT.keepR (t := t) (q + 1 - q') q' (by omega) fun q2 r2 h2 h3 hr2 hd2 => by
          by_cases e : q2 = q'
          ·subst e
           rw [hr'] at hr2; injection hr2 with hr2; subst hr2
           rcases hO.looks q2 q2 r' r' t hr' hr' ht hd2 with g | g
           ·omega
           ·omega
          ·exact hno q2 r2 t (by omega) (by omega) hr2 hd2 ht
         rw [show q' + (q + 1 - q') = q + 1 by omega] at this
         exact this
        obtain ⟨t,v,H1,n1,n2,n3⟩ := reOk_mem c3 hre ((passed_congr hsl).trans hp')
        rw [evI_look hsl,h] at n2
        have hval := (hT.val hO hr' n1).1
        rw [hT.keep (rs.length - (q + 1)) (q + 1) (by omega) fun q2 r2 h2 hr2 hd2 => by
         have := hO.dst q' q2 r' r2 t.n hr' hr2 (by rw [show r'.dst = some t from n1]; rfl) hd2
         omega,lookN_n,n3] at hval
        injection hval with hval; subst hval
        obtain ⟨z1,z2⟩ := evI_value (H2 := Hs (p + 1)) hk' (.inr (Sub.refl _)) n2
        exact z2
     have post : ∀ (u : Value) (w' : World),Post E (Hs p) (Hs (p + 1)) w0 (vs q) u w' → wpAny P .any ops Q fuel (listed.setIfInBounds i true) (a.put o.dst u) w' := fun u w' ⟨E',g1,g2,g3,g4⟩ =>
      front E' u w' h g1 g4 (behind E' w' h g1 g2 g3 k1.1 k1.2 again)
     rcases k2 with ⟨u,w',e1,hp⟩ | ⟨w',e1,_,hp⟩ | ⟨f,args,e1,e2⟩
     ·refine hop ?_
      simp only [Oper.wp,e1,Oper.upon]
      exact post u w' hp
     ·refine hop ?_
      simp only [Oper.wp,e1,Oper.upon]
      exact post undef w' hp
     ·exact hop (upon_call e1 e2 fun u w' hp => post u w' hp)
end
end
end Ev
end
section
namespace Ev
set_option autoImplicit false
noncomputable section
def ordE (D : List (List Nat)) (es : List Nat) : List Nat → List Nat := List.rec (fun rest => rest) (fun e _ ih rest =>
 (rest.filter fun i => !(Nat.beq i e) && !((D.getD i []).contains e)) ++ e :: ih (rest.filter fun i => (D.getD i []).contains e)) es
def r0 : R := ⟨none,none,.bad,[]⟩
def bOf (base : List R) (i : Nat) : R := base.getD i r0
def reF (D : List (List Nat)) (π : List Nat) (base : List R) (p : Nat) : List Rq := (List.range p).filterMap fun q =>
 cond (Nat.beq (kindI (bOf base (π.getD q 0)).i) 1 && !((D.getD (π.getD p 0) []).contains (π.getD q 0))) (some ⟨(bOf base (π.getD q 0)).dst,(bOf base (π.getD q 0)).guard,(bOf base (π.getD q 0)).i⟩) none
def rAt (D : List (List Nat)) (π : List Nat) (base : List R) (p : Nat) : R :=
 ⟨(bOf base (π.getD p 0)).dst,(bOf base (π.getD p 0)).guard,(bOf base (π.getD p 0)).i,cond (Nat.beq (kindI (bOf base (π.getD p 0)).i) 3) (reF D π base p) []⟩
def allN (m : Nat) (f : Nat → Bool) : Bool := (List.range m).all f
def dst1 (base : List R) (π : List Nat) (q q' : Nat) : Bool := match (bOf base (π.getD q 0)).dst,(bOf base (π.getD q' 0)).dst with
 |some t,some t' => !(Nat.beq t.n t'.n)
 |_,_ => true
def look1 (D : List (List Nat)) (base : List R) (π : List Nat) (q q' : Nat) : Bool := match (bOf base (π.getD q' 0)).dst with
 |some t => !((slotsR (bOf base (π.getD q 0))).contains t.n) || (Nat.blt q' q && (D.getD (π.getD q 0) []).contains (π.getD q' 0)) || (Nat.blt q q' && (D.getD (π.getD q' 0) []).contains (π.getD q 0))
 |none => true
def no1 (base : List R) (π : List Nat) (q q' : Nat) : Bool := match (bOf base (π.getD q' 0)).dst with
 |some t => !((slotsR (bOf base (π.getD q 0))).contains t.n)
 |none => true
def re1 (D : List (List Nat)) (base : List R) (π : List Nat) (m p q : Nat) : Bool := !(Nat.blt q p) || !(Nat.beq (kindI (bOf base (π.getD q 0)).i) 1) || (D.getD (π.getD p 0) []).contains (π.getD q 0) || allN m fun q' => !(Nat.blt q q') || Nat.blt p q' || no1 base π q q'
def drawB (ops : Array Oper) (D : List (List Nat)) (π : List Nat) (base : List R) : Bool :=
 backOk ops && certOk ops D && allN ops.size (fun q => Nat.blt (π.getD q 0) ops.size) && allN ops.size (fun i => (List.range ops.size).any fun q => Nat.beq (π.getD q 0) i) &&
 allN ops.size (fun q => allN ops.size fun q' => Nat.beq q q' || (!(Nat.beq (π.getD q 0) (π.getD q' 0)) && dst1 base π q q')) &&
 allN ops.size (fun q => allN ops.size fun q' => look1 D base π q q') &&
 allN ops.size (fun p => !(Nat.beq (kindI (bOf base (π.getD p 0)).i) 3) || allN ops.size fun q => (!(Nat.blt p q) || (D.getD (π.getD q 0) []).contains (π.getD p 0)) && re1 D base π ops.size p q)
def drawE (ops : Array Oper) (base : List R) : Option (List R) :=
 match waitsFor ops with
 |D => match ordE D ((List.range ops.size).filter fun i => Nat.beq (kindI (bOf base i).i) 3) (List.range ops.size) with
  |π => cond (drawB ops D π base) (some ((List.range ops.size).map (rAt D π base))) none
end
section
variable {P : Program} {G : Nat} {n : Nz}
theorem allN_of {m : Nat} {f : Nat → Bool} (h : allN m f = true) : ∀ i,i < m → f i = true := fun i hi => by
 simp only [allN,List.all_eq_true,List.mem_range] at h
 exact h i hi
theorem beq_of {a b : Nat} (h : Nat.beq a b = true) : a = b := Nat.eq_of_beq_eq_true h
theorem rAt_get {D : List (List Nat)} {π : List Nat} {base : List R} {m q : Nat} {r : R} (h : ((List.range m).map (rAt D π base))[q]? = some r) : q < m ∧ r = rAt D π base q := by
 rw [List.getElem?_map] at h
 cases hq : (List.range m)[q]? with
 |none => rw [hq] at h; cases h
 |some q' =>
  rw [hq] at h
  obtain ⟨h1,h2⟩ := List.getElem?_eq_some_iff.1 hq
  simp at h1 h2
  subst h2
  injection h with h
  exact ⟨h1,h.symm⟩
section
variable [Tx]
theorem draw_do {ops : Array Oper} {base rs : List R} (hb : ∀ i o,ops[i]? = some o → DR P G n ops o (bOf base i)) (h : drawE ops base = some rs) : ∃ D π,DO P G n ops D π rs := by
 unfold drawE at h
 generalize waitsFor ops = D at h
 simp only at h
 generalize ordE D _ _ = π at h
 cases hB : drawB ops D π base with
 |false => rw [hB] at h; cases h
 |true =>
  rw [hB] at h
  injection h with h
  simp only [drawB,Bool.and_eq_true] at hB
  obtain ⟨⟨⟨⟨⟨⟨c1,c2⟩,c3⟩,c4⟩,c5⟩,c6⟩,c7⟩ := hB
  refine ⟨D,fun q => π.getD q 0,?_⟩
  have c3' := allN_of c3
  have c4' := allN_of c4
  have c5' := fun q hq q' hq' => allN_of (allN_of c5 q hq) q' hq'
  have c6' := fun q hq q' hq' => allN_of (allN_of c6 q hq) q' hq'
  have c7' := allN_of c7
  have hg : ∀ {q : Nat} {r : R},rs[q]? = some r → q < ops.size ∧ r = rAt D π base q := fun hr => rAt_get (h ▸ hr)
  refine ⟨c1,c2,by rw [← h]; simp,fun q hq => ?_,fun i hi => ?_,fun q q' hq hq' he => ?_,fun q r hr => ?_,fun q q' r r' t hr hr' hd hd' => ?_,fun q q' r r' t hr hr' ht hd => ?_,fun p q r hpq hq hr hk => ?_,fun p q r r' hqp hr hk hr' hk' => ?_⟩
  ·have := c3' q hq
   simpa [Nat.blt_eq] using this
  ·have := c4' i hi
   simp only [List.any_eq_true,List.mem_range] at this
   obtain ⟨q,hq,e⟩ := this
   exact ⟨q,hq,beq_of e⟩
  ·have := c5' q hq q' hq'
   simp only [Bool.or_eq_true,Bool.and_eq_true,Bool.not_eq_true'] at this
   rcases this with e | ⟨e,_⟩
   ·exact beq_of e
   ·have he : π.getD q 0 = π.getD q' 0 := he
    rw [he,show Nat.beq (π.getD q' 0) (π.getD q' 0) = true from Nat.beq_refl _] at e; cases e
  ·obtain ⟨hq,e⟩ := hg hr
   have hlt := c3' q hq
   have hlt : π.getD q 0 < ops.size := by simpa [Nat.blt_eq] using hlt
   have ho : ops[π.getD q 0]? = some ops[π.getD q 0] := Array.getElem?_eq_getElem hlt
   refine ⟨_,ho,?_⟩
   obtain ⟨⟨h1,h2,h2',h3,h4⟩,h5,h6⟩ := hb _ _ ho
   subst e
   exact ⟨⟨h1,h2,h2',h3,h4⟩,h5,h6⟩
  ·obtain ⟨hq,e⟩ := hg hr
   obtain ⟨hq',e'⟩ := hg hr'
   have := c5' q hq q' hq'
   simp only [Bool.or_eq_true,Bool.and_eq_true,Bool.not_eq_true'] at this
   rcases this with e1 | ⟨_,e1⟩
   ·exact beq_of e1
   ·subst e; subst e'
    obtain ⟨d,k1,k2⟩ := Option.map_eq_some_iff.1 hd
    obtain ⟨d',k3,k4⟩ := Option.map_eq_some_iff.1 hd'
    have k1 : (bOf base (π.getD q 0)).dst = some d := k1
    have k3 : (bOf base (π.getD q' 0)).dst = some d' := k3
    simp only [dst1,k1,k3,Bool.not_eq_true'] at e1
    rw [k2,k4,show Nat.beq t t = true from Nat.beq_refl _] at e1; cases e1
  ·obtain ⟨hq,e⟩ := hg hr
   obtain ⟨hq',e'⟩ := hg hr'
   have := c6' q hq q' hq'
   subst e; subst e'
   obtain ⟨d,k1,k2⟩ := Option.map_eq_some_iff.1 hd
   have k1 : (bOf base (π.getD q' 0)).dst = some d := k1
   have ht : t ∈ slotsR (bOf base (π.getD q 0)) := ht
   simp only [look1,k1,k2,Bool.or_eq_true,Bool.not_eq_true',Bool.and_eq_true] at this
   rcases this with (e1 | ⟨e1,e2⟩) | ⟨e1,e2⟩
   ·rw [List.contains_iff_mem.2 ht] at e1; cases e1
   ·exact .inl ⟨by simpa [Nat.blt_eq] using e1,List.contains_iff_mem.1 e2⟩
   ·exact .inr ⟨by simpa [Nat.blt_eq] using e1,List.contains_iff_mem.1 e2⟩
  ·obtain ⟨hp,e⟩ := hg hr
   subst e
   have hk : kindI (bOf base (π.getD p 0)).i = 3 := hk
   have := c7' p hp
   rw [hk,show Nat.beq 3 3 = true from rfl] at this
   simp only [Bool.not_true,Bool.false_or] at this
   have := allN_of this q hq
   rw [Bool.and_eq_true] at this
   have := this.1
   simp only [Bool.or_eq_true,Bool.not_eq_true'] at this
   rcases this with e1 | e1
   ·have : Nat.blt p q = true := by simpa [Nat.blt_eq] using hpq
    rw [this] at e1; cases e1
   ·exact List.contains_iff_mem.1 e1
  ·obtain ⟨hp,e⟩ := hg hr
   obtain ⟨hq,e'⟩ := hg hr'
   subst e; subst e'
   have hk : kindI (bOf base (π.getD p 0)).i = 3 := hk
   have hk' : kindI (bOf base (π.getD q 0)).i = 1 := hk'
   cases hc : (D.getD (π.getD p 0) []).contains (π.getD q 0) with
   |true => exact .inl (List.contains_iff_mem.1 hc)
   |false =>
    refine .inr ⟨?_,fun q' r'' t hq1 hq2 hr'' hd'' ht => ?_⟩
    rotate_left
    ·obtain ⟨hq',e''⟩ := hg hr''
     subst e''
     have := c7' p hp
     rw [hk,show Nat.beq 3 3 = true from rfl] at this
     simp only [Bool.not_true,Bool.false_or] at this
     have := allN_of this q hq
     rw [Bool.and_eq_true] at this
     have := this.2
     unfold re1 at this
     rw [hk',hc,show Nat.beq 1 1 = true from rfl,show Nat.blt q p = true by simpa [Nat.blt_eq] using hqp] at this
     simp only [Bool.not_true,Bool.false_or] at this
     have := allN_of this q' hq'
     simp only [Bool.or_eq_true,Bool.not_eq_true'] at this
     rcases this with (e1 | e1) | e1
     ·have : Nat.blt q q' = true := by simpa [Nat.blt_eq] using hq1
      rw [this] at e1; cases e1
     ·have : p < q' := by simpa [Nat.blt_eq] using e1
      omega
     ·obtain ⟨d,k1,k2⟩ := Option.map_eq_some_iff.1 hd''
      have k1 : (bOf base (π.getD q' 0)).dst = some d := k1
      have ht2 : t ∈ slotsR (bOf base (π.getD q 0)) := ht
      simp only [no1,k1,k2,Bool.not_eq_true'] at e1
      rw [List.contains_iff_mem.2 ht2] at e1; cases e1
    show _ ∈ cond (Nat.beq (kindI (bOf base (π.getD p 0)).i) 3) (reF D π base p) []
    rw [hk,show Nat.beq 3 3 = true from rfl]
    refine List.mem_filterMap.2 ⟨q,List.mem_range.2 hqp,?_⟩
    rw [hk',hc]; rfl
theorem draw_ok {id : Nat} {l : List Oper} {base rs : List R} {run : Run} (hm : P.follows .mixedOrders = true) (hrun : RunOk P G run) (hb : ∀ i o,l.toArray[i]? = some o → DR P G n l.toArray o (bOf base i)) (h : drawE l.toArray base = some rs) : CodeOk P G n run (.region id l.toArray true) (.dreg rs) := by
 intro E H H' w0 w a L L' ex Q hG hH hF he
 replace he : evD rs run L H = some (ex,L',H') := he
 obtain ⟨D,π,hO⟩ := draw_do hb h
 obtain ⟨rfl,hR,Ls,Hs,vs,g1,g2,g3,g4,g5⟩ := evD_trace _ he
 have hT : DT rs run L' Ls Hs vs := ⟨g3,g5⟩
 refine ⟨?_,fun hQ => draw_region hm ?_⟩
 ·-- memory only grows
  have hall : ∃ l' : List Oper,All2 (RR P G n l.toArray) l' rs := by
   have : ∀ (rs' : List R),(∀ r ∈ rs',∃ o,RR P G n l.toArray o r) → ∃ l' : List Oper,All2 (RR P G n l.toArray) l' rs' := fun rs' => by
    induction rs' with
    |nil => exact fun _ => ⟨[],.nil⟩
    |cons r rs' ih =>
     intro hh
     obtain ⟨o,ho⟩ := hh r (List.mem_cons_self ..)
     obtain ⟨l',hl'⟩ := ih fun r' hr' => hh r' (List.mem_cons_of_mem _ hr')
     exact ⟨o :: l',.cons ho hl'⟩
   refine this rs fun r hr => ?_
   obtain ⟨q,hq,e⟩ := List.getElem_of_mem hr
   obtain ⟨o,_,hd⟩ := hO.opr q r (by rw [List.getElem?_eq_getElem hq,e])
   exact ⟨o,hd.rr⟩
  obtain ⟨l',hl'⟩ := hall
  exact (region_sound hrun (Q := fun _ _ _ => True) hl' hG hH hF hR).1
 ·have hH' : HR E (Hs 0) w0 { w with drawn := w.drawn + 1 } := by
   rw [g2]; exact hH.ext ((Chg.refl [] w).drawn _)
  have hlen := hO.len
  intro fuel listed hs hl hcount
  have hun : ∀ i,listed.getD i false = true → False := fun i hi => by
   rcases Nat.lt_or_ge i l.toArray.size with h1 | h1
   ·cases (hl i h1).1 hi
   ·rw [Array.getD_eq_getD_getElem?,Array.getElem?_eq_none (by omega)] at hi; cases hi
  have hpre : PreD rs π run Ls Hs vs G E w0 (fun i => listed.getD i false = true) 0 E { w with drawn := w.drawn + 1 } :=
   ⟨hG,hH',En.le_refl _,fun _ _ h => .inl h,fun q q' h1 h2 => by
    have : q = 0 := by omega
    have : q' = 0 := by omega
    subst q; subst q'; exact Nat.le_refl _,fun q r h1 => by omega⟩
  obtain ⟨p,k1,k2,k3,k4,k5⟩ := hpre.front hT hO kindI_le rs.length 0 (by omega)
  have hz : ∀ q,q ≤ rs.length → ∀ t ∈ n.Z,lookN t (Ls q) = none := fun q hq t ht => by
   have := hT.keepR (t := t) q 0 (by omega) fun q' r' _ _ hr' hd' => by
    obtain ⟨o,_,hd⟩ := hO.opr q' r' hr'
    obtain ⟨d,hd1,hd2⟩ := Option.map_eq_some_iff.1 hd'
    exact hd.rr.nz d hd1 (by rw [hd2]; exact ht)
   rw [Nat.zero_add] at this
   rw [this,g1]; exact hF.nz t ht
  refine draw_mid hrun hO hT hz (fun E' a' w' q1 q2 q3 q4 => hQ E' a' w' q1 (fun b x hb => ?_) (by rw [← g4]; exact q3) q4) fuel listed p E a _ ⟨hs,fun j hj => absurd hj (fun h => hun j h),k3,fun q r h1 hr hk => absurd hk (k4 q r (Nat.zero_le _) h1 hr),k2,fun hlt => ?_,hF.size,hF.defs,fun t v hv hw => ?_,fun t v hv _ => ?_⟩ hcount
  ·rw [← g2]; exact q2 b x hb
  ·obtain ⟨r,m1,m2⟩ := k5 hlt
   refine ⟨r,m1,m2,?_⟩
   cases hb : listed.getD (π p) false with
   |false => rfl
   |true => exact absurd hb (fun h => hun _ h)
  ·refine hF.fr t v ?_
   have : lookN t L' = lookN t (Ls 0) := hT.keep rs.length 0 (by omega) fun q r _ hr hd => hun _ (hw q r hr hd)
   rw [← g1,← this]; exact hv
  ·rw [g1] at hv; exact hF.fr t v hv
end
end
end Ev
end
section
namespace Ev
set_option autoImplicit false
section
variable {P : Program} {G : Nat} {dst : Option Nat} {ty : TypeId} {pos : String} {after : Array Edge} {guard : Option (Nat × Bool)}
section
variable [Tx]
theorem isN_p {E : En} {p : Option (Nat × Nat)} {v : Value} (h : AC.v E (.p p) v) : ∃ o : Option Addr,v = .pointer o ∧ isN p = o.isNone := by
 cases p with
 |none => exact ⟨none,h,rfl⟩
 |some p => obtain ⟨B,S,_,h⟩ := h; exact ⟨_,h,rfl⟩
end
theorem run_equal_ptr {w : World} {t : TypeId} {z : Value} {size bytes : Nat} (hu : P.underlying t = some (.pointer (P.pointee t))) (ht : TI P (P.pointee t) z size bytes) (h0 : size ≠ 0) {A C : Addr} {b : Bool} (hs : (sameAddr A C).run P w = .ok b w) (d : Nat) : (Op.equalIn (d + 1) t (.pointer (some A)) (.pointer (some C))).run P w = .ok b w := by
 simp only [Op.equalIn,Sem.run_bind,run_underlying hu,Result.andThen_ok,ht.sizeOf w,ne_eq]
 rw [if_pos h0]
 exact hs
section
variable [Tx]
theorem V_pq {neg : Bool} {t yt : TypeId} {x y : Operand} {x' y' : X} {z : Value} {size bytes : Nat} (hu : P.underlying t = some (.pointer (P.pointee t))) (ht : TI P (P.pointee t) z size bytes) (h0 : size ≠ 0) (hx : XR G x x') (hy : XR G y y') : OpV P G ⟨dst,.binOp (cond neg .neq .eql) t x y yt,ty,pos,after,guard⟩ (.pq neg x' y') := by
 intro E H w0 w a L run v H' hG hH hF h
 replace h : (match evX L x',evX L y' with | some (.c (.p p)),some (.c (.p none)) => val H (bV (isN p != neg)) | some (.c (.p (some p))),some (.c (.p (some q))) => (match peq H p q with | some b => val H (bV (b != neg)) | none => none) | _,_ => none) = some (v,H') := h
 split at h
 ·rename_i p h1 h2
  obtain ⟨h3,h4⟩ := val_eq h
  refine ⟨h4,?_⟩
  obtain ⟨o,g1,g2⟩ := isN_p (hx hG hF h1)
  have g3 : a.eval y = .pointer none := hy hG hF h2
  rw [g2] at h3
  cases neg with
  |false => exact ⟨_,r_pnil g1 g3 hu,bV_v h3 (by simp)⟩
  |true => exact ⟨_,r_pnnil g1 g3 hu,bV_v h3 (by cases o.isNone <;> rfl)⟩
 ·rename_i p q h1 h2
  split at h
  ·rename_i b h5
   obtain ⟨h3,h4⟩ := val_eq h
   refine ⟨h4,?_⟩
   obtain ⟨A,C,g1,g2,g3,g4⟩ := peq_eq hH h5 (hx hG hF h1) (hy hG hF h2)
   have hs := run_sameAddr (P := P) g4
   have he : (Op.equal t (.pointer (some A)) (.pointer (some C))).run P w = .ok b w := by
    rw [g3]
    exact run_equal_ptr hu ht h0 hs 9999
   cases neg with
   |false =>
    refine ⟨.bool b,?_,bV_v h3 (by simp)⟩
    simp only [execOp,g1,g2,cond_false]
    simp [eqGuard,binOp,he,Result.andThen]
   |true =>
    refine ⟨.bool (!b),?_,bV_v h3 (by cases b <;> rfl)⟩
    simp only [execOp,g1,g2,cond_true]
    simp [eqGuard,binOp,he,Result.andThen]
  ·cases h
 ·cases h
theorem V_field {s : TypeId} {x : Operand} {x' : X} {i o : Nat} {fs : Array Field} {f : Field} {d : TypeDesc} (hu : P.underlying s = some (.struct fs)) (hf : fs[i]? = some f) (hd : P.underlying f.type = some d) (hn : notAgg d = true) (ho : f.offset = o) (hx : XR G x x') : OpV P G ⟨dst,.field s x i,ty,pos,after,guard⟩ (.fd o 1 false x') := by
 intro E H w0 w a L run v H' hG hH hF h
 replace h : (match evX L x' with | some (.a l) => (match takeN l o 1 with | some l' => val H (mkV false l') | none => none) | _ => none) = some (v,H') := h
 split at h
 ·rename_i l h1
  split at h
  ·rename_i l' h2
   obtain ⟨h3,h4⟩ := val_eq h
   obtain ⟨cs,e1,e2⟩ := hx hG hF h1
   obtain ⟨y,g1,g2⟩ := takeN_get h2 (Nat.lt_succ_self 0)
   obtain ⟨u,g3,g4⟩ := All2.get e2 _ _ g2
   have hl := (takeN_eq _ _ _ _ h2).2
   refine ⟨h4,u,r_field e1 hu hf hd hn (by rw [ho]; simpa using g3),mkV_v h3 ⟨y,?_,g4⟩⟩
   match l',hl,g1 with
   |[y'],_,g1 => simp at g1; rw [g1]
  ·cases h
 ·cases h
theorem V_aindex {t e : TypeId} {x y : Operand} {x' y' : X} {n : Nat} {d : TypeDesc} {z : Value} {bytes : Nat} (hu : P.underlying t = some (.array n e)) (he : P.underlying e = some d) (hn : notAgg d = true) (ht : TI P e z 1 bytes) (hx : XR G x x') (hy : XR G y y') : OpV P G ⟨dst,.index t x y,ty,pos,after,guard⟩ (.ix n 1 false x' y') := by
 intro E H w0 w a L run v H' hG hH hF h
 replace h : (match evX L x',idx (evX L y') with | some (.a l),some j => cond (Nat.blt j n) (match takeN l (Nat.mul j 1) 1 with | some l' => val H (mkV false l') | none => none) none | _,_ => none) = some (v,H') := h
 split at h
 ·rename_i l j h1 h5
  cases hb : Nat.blt j n with
  |false => rw [hb] at h; cases h
  |true =>
   rw [hb] at h
   replace h : (match takeN l (Nat.mul j 1) 1 with | some l' => val H (mkV false l') | none => none) = some (v,H') := h
   have hj : j < n := by simpa [Nat.blt_eq] using hb
   split at h
   ·rename_i l' h2
    obtain ⟨h3,h4⟩ := val_eq h
    obtain ⟨cs,e1,e2⟩ := hx hG hF h1
    obtain ⟨k,hk⟩ := idx_eq h5
    have g0 : a.eval y = .int k (.ofNat j) := hy hG hF hk
    obtain ⟨y1,g1,g2⟩ := takeN_get h2 (Nat.lt_succ_self 0)
    obtain ⟨u,g3,g4⟩ := All2.get e2 _ _ g2
    have hl := (takeN_eq _ _ _ _ h2).2
    have hi : 0 ≤ (Int.ofNat j) ∧ (Int.ofNat j) < (n : Int) := ⟨by simp,by simp; omega⟩
    have hv : cs.toArray[(Int.ofNat j).toNat * 1]? = some u := by simpa using g3
    refine ⟨h4,u,?_,mkV_v h3 ⟨y1,?_,g4⟩⟩
    ·simp only [execOp,Instr.index,e1,g0,asIntOf,Sem.run_bind,Sem.run_pure,Result.andThen_ok,run_underlying hu,if_pos hi,ht.sizeOf w,run_part1 he hn hv w]
    ·match l',hl,g1 with
     |[y'],_,g1 => simp at g1; rw [g1]
   ·cases h
 ·cases h
end
end
end Ev
end
section
namespace Ev
set_option autoImplicit false
section
variable {P : Program} {G : Nat} {dst : Option Nat} {ty : TypeId} {pos : String} {after : Array Edge} {guard : Option (Nat × Bool)}
section
variable [Tx]
theorem src_cp {E : En} {H : AH} {w0 : W0} {w : World} (hH : HR E H w0 w) {es n : Nat} {y : AV} {v : Value} {vs : List AC} {m : Nat} (h : srcE H es false (some n) y = some (vs,m)) (hy : y.v E v) :
  ∃ x : Sl,v = x.v ∧ m = Nat.min x.n n ∧ (m = 0 ∨ ∃ (q : Addr) (cs : List Value),x.a = some q ∧ cs.length = m * es ∧ ACs E vs cs ∧ Cells w q cs) := by
 unfold srcE at h
 split at h
 ·exact absurd ‹false = true› (by decide)
 ·injection h with h; injection h with h1 h2; subst h1; subst h2
  obtain ⟨_,_,h⟩ := hy
  exact ⟨⟨none,0,0⟩,h,by simp,.inl rfl⟩
 ·rename_i b o k c e _
  replace h : (match H.rd b o (Nat.mul (Nat.min k n) es) with | some l => some (l,Nat.min k n) | none => none) = some (vs,m) := h
  cases hr : H.rd b o (Nat.mul (Nat.min k n) es) with
  |none => rw [hr] at h; cases h
  |some l =>
   rw [hr] at h; injection h with h; injection h with h1 h2; subst h1; subst h2
   obtain ⟨B,S,o',c',e1,e2,e3,e4,e5,e6⟩ := hy
   refine ⟨⟨some ⟨B,o',none⟩,k,c'⟩,e2,rfl,?_⟩
   by_cases hn : Nat.min k n = 0
   ·exact .inl hn
   ·have hk : 0 < k := by
     rcases Nat.eq_zero_or_pos k with h | h
     ·subst h; exact absurd (Nat.zero_min n) hn
     ·exact h
    have ho : o' = o := by rcases e5 with e5 | e5 <;> first | exact e5 | omega
    subst ho
    obtain ⟨cs,g1,g2,g3⟩ := hH.rd hr e1
    exact .inr ⟨_,cs,rfl,g1,g2,g3⟩
 ·cases h
theorem S_cp {t e size bytes : Nat} {z : Value} {x y : Operand} {x' y' : X} (ht : P.underlying t = some (.slice e)) (hi : TI P e z size bytes) (hx : XR G x x') (hy : XR G y y') :
  OpS P G ⟨dst,.call { callee := .builtin .copy,args := #[x,y],argTypes := #[t,t] },ty,pos,after,guard⟩ (.cp size false x' y') := by
 intro E H w0 w a L run v H' _ hG hH hF h
 replace h : (match evX L x',evX L y' with | some (.c (.sl a n _ _)),some y => (match srcE H size false (some n) y with | none => none | some (vs,m) => cond (Nat.beq m 0) (some (AV.c (.i .i64 0),H)) (match a with | some (b,o) => (match H.wr b o vs with | some H' => some (AV.c (.i .i64 (.ofNat m)),H') | none => none) | none => none)) | _,_ => none) = some (v,H') := h
 obtain ⟨i,hi0,hz,hs,hby⟩ := hi
 subst hs
 split at h
 ·rename_i a0 n c ec y0 h1 h2
  have gx := hx hG hF h1
  have gy := hy hG hF h2
  cases hs : srcE H i.size false (some n) y0 with
  |none => rw [hs] at h; cases h
  |some q =>
   obtain ⟨vs,m⟩ := q
   rw [hs] at h
   replace h : cond (Nat.beq m 0) (some (AV.c (.i .i64 0),H)) (match (generalizing := false) a0 with | some (b,o) => (match H.wr b o vs with | some H' => some (AV.c (.i .i64 (.ofNat m)),H') | none => none) | none => none) = some (v,H') := h
   obtain ⟨sx,k1,k2,k3⟩ := src_cp hH hs gy
   obtain ⟨s,g1,g2,g3⟩ := sl_of gx
   have hmin : Nat.min sx.n s.n = m := by rw [g2,k2]
   by_cases hm : m = 0
   ·subst hm
    injection h with h; injection h with h3 h4; subst h3; subst h4
    have hf : (Builtin.firstCells i.size 0 sx.v).run P w = .ok #[] w := by
     unfold Sl.v
     cases sx.a <;> simp [Builtin.firstCells,loadCells,loadCellsFrom]
    have hr : (Builtin.copy_ #[t,t] ty #[s.v,sx.v]).run P w = .ok (.int .i64 0) w := by
     have hmin2 : min sx.n s.n = 0 := hmin
     unfold Sl.v at hf ⊢
     cases s.a <;> simp [Builtin.copy_,run_underlying ht,sizeOf,typeInfo,hi0,Builtin.lenOf,hf,hmin,hmin2,goInt,storeCells]
    exact ⟨Keeps.refl _ _,.inl ⟨_,w,r_copy g1 k1 hr,E,En.le_refl _,fun _ _ h => .inl h,hH,rfl⟩⟩
   ·have hmb : Nat.beq m 0 = false := by
     cases hb : Nat.beq m 0 with
     |false => rfl
     |true => exact absurd (Nat.eq_of_beq_eq_true hb) hm
    rw [hmb] at h
    rcases k3 with k3 | ⟨q,cs,e1,e2,e3,e4⟩
    ·exact absurd k3 hm
    ·cases a0 with
     |none => cases h
     |some p =>
      obtain ⟨b,o⟩ := p
      replace h : (match H.wr b o vs with | some H' => some (AV.c (.i .i64 (.ofNat m)),H') | none => none) = some (v,H') := h
      cases hw : H.wr b o vs with
      |none => rw [hw] at h; cases h
      |some H1 =>
       rw [hw] at h; injection h with h; injection h with h3 h4; subst h3; subst h4
       obtain ⟨B,S,o',c',f1,f2,f3,f4,f5,f6⟩ := gx
       have hn0 : 0 < n := by
        rcases Nat.eq_zero_or_pos n with h | h
        ·subst h; rw [k2] at hm; exact absurd (Nat.min_zero _) hm
        ·exact h
       have ho : o' = o := by rcases f5 with f5 | f5 <;> first | exact f5 | omega
       subst ho
       obtain ⟨C,T',hb,hl,hk⟩ := hH.wr hw f1 e3
       have hst := run_storeCells_box (P := P) o' cs 0 hb (by simpa using hl) e3.one
       have hfc := run_firstCells_some (P := P) w i.size m q sx.n sx.c cs e2 e4
       have hr : (Builtin.copy_ #[t,t] ty #[.slice (some ⟨B,o',none⟩) n c',.slice (some q) sx.n sx.c]).run P w = .ok (.int .i64 (m : Int)) (setCells w B o' cs) := by
        simp only [Nat.add_zero] at hst
        have hmin' : min sx.n n = m := k2.symm
        simp [Builtin.copy_,run_underlying ht,sizeOf,typeInfo,hi0,Builtin.lenOf,hmin',hfc,goInt,hst]
       have e5 : a.eval y = .slice (some q) sx.n sx.c := by rw [k1,Sl.v,e1]
       exact ⟨wr_keeps hw f1,.inl ⟨_,_,r_copy f2 e5 hr,E,En.le_refl _,fun _ _ h => .inl h,hk _ (setCells_chg B cs w o') (setCells_box cs hb),rfl⟩⟩
 ·cases h
end
end
end Ev
end
section
namespace Ev
set_option autoImplicit false
section
variable {P : Program} {G : Nat} {dst : Option Nat} {ty : TypeId} {pos : String} {after : Array Edge} {guard : Option (Nat × Bool)}
section
variable [Tx]
theorem u8s_eq {E : En} : ∀ {l : List AC} {cs : List Value} {s : List Nat},u8s l = some s → ACs E l cs → By s ∧ cs = s.map fun (n : Nat) => Value.int .u8 (n : Int)
 |[],_,s,h,.nil => by
  injection h with h; subst h; exact ⟨fun n hn => (by cases hn),rfl⟩
 |x :: l,c :: cs,s,h,.cons h1 t => by
  replace h : (match (generalizing := false) x with | .i .u8 (.ofNat n) => cond (Nat.blt n 256) (match u8s l with | some r => some (n :: r) | none => none) none | _ => none) = some s := h
  split at h
  ·rename_i n
   cases hb : Nat.blt n 256 with
   |false => rw [hb] at h; cases h
   |true =>
    rw [hb] at h
    replace h : (match u8s l with | some r => some (n :: r) | none => none) = some s := h
    cases hr : u8s l with
    |none => rw [hr] at h; cases h
    |some r =>
     rw [hr] at h; injection h with h; subst h
     obtain ⟨g1,g2⟩ := u8s_eq hr t
     have hn : n < 256 := by simpa [Nat.blt_eq] using hb
     refine ⟨fun k hk => ?_,by rw [List.map_cons,← g2]; congr 1⟩
     rcases List.mem_cons.1 hk with rfl | hk
     ·exact hn
     ·exact g1 k hk
  ·cases h
end
theorem strOfNums_eq (s : List Nat) : strOfNums (s.map fun (n : Nat) => (n : Int)) = Bs (s.map UInt8.ofNat) := by
 unfold strOfNums Bs
 rw [List.map_map]
 congr 3
section
variable [Tx]
theorem V_b2s {src d e : TypeId} {x : Operand} {x' : X} (hs : P.underlying src = some (.slice e)) (he : P.underlying e = some (.int .u8)) (hd : P.underlying d = some .string) (hx : XR G x x') : OpV P G ⟨dst,.convert src d x,ty,pos,after,guard⟩ (.b2s x') := by
 intro E H w0 w a L run v H' hG hH hF h
 replace h : (match evX L x' with | some (.c (.sl none _ _ _)) => some (AV.c (.s []),H) | some (.c (.sl (some (b,o)) n _ es)) => cond (Nat.beq es 1) (match H.rd b o n with | some l => (match u8s l with | some s => some (AV.c (.s s),H) | none => none) | none => none) none | _ => none) = some (v,H') := h
 split at h
 ·rename_i n c es h1
  injection h with h; injection h with h2 h3; subst h2
  obtain ⟨_,_,e1⟩ := hx hG hF h1
  refine ⟨h3.symm,_,r_convR e1 (run_convert_bytes_nil w src e hs he 0 0 d hd),?_,fun n hn => (by cases hn)⟩
  rfl
 ·rename_i b o n c es h1
  cases hb : Nat.beq es 1 with
  |false => rw [hb] at h; cases h
  |true =>
   rw [hb] at h
   replace h : (match H.rd b o n with | some l => (match u8s l with | some s => some (AV.c (.s s),H) | none => none) | none => none) = some (v,H') := h
   split at h
   ·rename_i l h2
    split at h
    ·rename_i s h3
     injection h with h; injection h with h4 h5; subst h4
     obtain ⟨B,S,o',c',e1,e2,e3,e4,e5,e6⟩ := hx hG hF h1
     obtain ⟨cs,g1,g2,g3⟩ := hH.rd h2 e1
     obtain ⟨k1,k2⟩ := u8s_eq h3 g2
     have hlen : (s.map fun (n : Nat) => (n : Int)).length = n := by
      rw [← g1,k2]; simp
     refine ⟨h5.symm,_,r_convR e2 (run_convert_bytes_arg w src e hs he B o' n c' (s.map fun (n : Nat) => (n : Int)) hlen (fun i hi => ?_) d hd),?_,k1⟩
     ·have ho : o' = o := by rcases e5 with e5 | e5 <;> first | exact e5 | omega
      subst ho
      have hi' : i < s.length := by simpa using (by rw [hlen]; exact hi : i < (s.map fun (n : Nat) => (n : Int)).length)
      have := g3 i (.int .u8 ((s[i] : Nat) : Int)) (by rw [k2]; simp [hi'])
      rw [Addr.add_lit] at this
      rw [this]
      simp [List.getD_eq_getElem?_getD,hi']
     ·rw [strOfNums_eq]
    ·cases h
   ·cases h
 ·cases h
end
theorem repl_get (z : List AC) : ∀ (n j : Nat),j < n * z.length → (repl z n)[j]? = z[j % z.length]?
 |0,j,h => by simp at h
 |n + 1,j,h => by
  have e : repl z (n + 1) = z ++ repl z n := rfl
  rw [e,List.getElem?_append]
  by_cases hj : j < z.length
  ·rw [if_pos hj,Nat.mod_eq_of_lt hj]
  ·rw [if_neg hj,repl_get z n (j - z.length) (by rw [Nat.add_mul,Nat.one_mul] at h; omega),Nat.mod_eq_sub_mod (Nat.le_of_not_lt hj)]
theorem repl_length (z : List AC) : ∀ n,(repl z n).length = n * z.length
 |0 => by show ([] : List AC).length = _; simp
 |n + 1 => by
  have e : repl z (n + 1) = z ++ repl z n := rfl
  rw [e,List.length_append,repl_length z n,Nat.add_mul,Nat.one_mul]; omega
section
variable [Tx]
theorem A_mks {t e T size bytes : Nat} {z : Value} {zs : List AC} {x y : Operand} {x' y' : X} (ht : P.underlying t = some (.slice e)) (hi : TI P e z size bytes) (hz : ∀ E,∃ cs : List Value,z.cells = cs.toArray ∧ ACs E zs cs) (hzs : zs.length = size) (hb20 : bytes ≤ 1048576) (hs20 : size ≤ 256) (hsz : 0 < size) (hx : XR G x x') (hy : XR G y y') :
  OpA P G ⟨dst,.makeSlice t x y,ty,pos,after,guard⟩ (.mks T size zs x' y') := by
 intro L run H H' v h
 replace h : (match idx (evX L x'),idx (evX L y') with | some n,some c => cond (Nat.ble n c && Nat.blt c 65536) (some (AV.c (.sl (some (H.nx,0)) n c size),H.new T (repl zs c))) none | _,_ => none) = some (v,H') := h
 split at h
 ·rename_i n c h1 h2
  cases hb : (Nat.ble n c && Nat.blt c 65536) with
  |false => rw [hb] at h; cases h
  |true =>
   rw [hb] at h; injection h with h; injection h with h3 h4; subst h3; subst h4
   obtain ⟨c1,c2⟩ : n ≤ c ∧ c < 65536 := by
    rw [Bool.and_eq_true] at hb
    exact ⟨by simpa using hb.1,by simpa [Nat.blt_eq] using hb.2⟩
   refine ⟨_,rfl,fun _ _ _ _ h => (by cases h),fun {E H2 w0 w a} hG hH hF hg hE => ?_⟩
   obtain ⟨k1,hk1⟩ := idx_eq h1
   obtain ⟨k2,hk2⟩ := idx_eq h2
   have g1 : a.eval x = .int k1 (.ofNat n) := hx hG hF hk1
   have g2 : a.eval y = .int k2 (.ofNat c) := hy hG hF hk2
   obtain ⟨i,hi0,hz0,hs,hby⟩ := hi
   subst hs; subst hby
   have hr := run_makeSlice (P := P) w t e i z ht hi0 hz0 k1 k2 (.ofNat n) (.ofNat c) (by simp) (by simp; omega) (by
    have : c * i.size ≤ 65536 * 256 := Nat.mul_le_mul (by omega) hs20
    simpa using this) (by
    have : i.bytes * c ≤ 1048576 * 65536 := Nat.mul_le_mul hb20 (by omega)
    simp; omega) (by simp; omega)
   obtain ⟨cs,e1,e2⟩ := hz E
   have hlen := All2.length e2
   have hP : Pre E (repl zs c) (madeCells z.cells (c * i.size)).toList := fun j u hj => by
    have hjl : j < c * zs.length := by rw [← repl_length]; exact (List.getElem?_eq_some_iff.1 hj).1
    rw [repl_get zs c j hjl] at hj
    obtain ⟨u',q1,q2⟩ := All2.get e2 _ _ hj
    refine ⟨u',?_,q2⟩
    have hsz' : z.cells.size = i.size := by rw [e1,List.size_toArray,hlen,hzs]
    have hm : z.cells[j % z.cells.size]! = u' := by
     rw [hsz',← hzs,e1]
     have := (List.getElem?_eq_some_iff.1 q1)
     obtain ⟨p1,p2⟩ := this
     simp [getElem!_def,q1]
    have hlt : j < c * i.size := by rw [← hzs]; exact hjl
    simp only [madeCells,Array.toList_map,Array.toList_range,List.getElem?_map,List.getElem?_range hlt,Option.map_some,hm]
   have hE1 := Ext.alloc w (.cells (madeCells z.cells (c * i.size)) e (0,0))
   have hB1 : Box (w.alloc (.cells (madeCells z.cells (c * i.size)) e (0,0))) w.heap.size e (madeCells z.cells (c * i.size)).toList := by
    have := Box.alloc w e (madeCells z.cells (c * i.size)).toList
    simpa using this
   have key := hH.real hg hE hE1 (Nat.le_refl _) hB1 hP
   refine ⟨_,_,_,En.le_add hE,fun b hb => En.add_other _ _ _ hb,r_makeSlice g1 g2 hr,by simpa using key,w.heap.size,_,0,c,En.add_same _ _ _ _,by simp,Nat.le_refl _,c1,.inr rfl,?_⟩
   show 0 + c * i.size ≤ _
   simp only [Array.length_toList,size_madeCells]; omega
 ·cases h
theorem A_s2b {src d e T : TypeId} {x : Operand} {x' : X} (hs : P.underlying src = some .string) (hd : P.underlying d = some (.slice e)) (he : P.underlying e = some (.int .u8)) (hx : XR G x x') : OpA P G ⟨dst,.convert src d x,ty,pos,after,guard⟩ (.s2b T x') := by
 intro L run H H' v h
 replace h : (match evX L x' with | some (.c (.s s)) => some (AV.c (.sl (some (H.nx,0)) s.length s.length 1),H.push (.cells T (s8 s) .ro)) | _ => none) = some (v,H') := h
 split at h
 ·rename_i s h1
  injection h with h; injection h with h2 h3; subst h2; subst h3
  refine ⟨_,rfl,fun _ _ _ _ h => (by cases h),fun {E H2 w0 w a} hG hH hF hg hE => ?_⟩
  obtain ⟨e1,e2⟩ := hx hG hF h1
  have hr := run_bytes_of_string (P := P) w src d e (Bs (s.map UInt8.ofNat)) hs hd he
  have hsz : (Bs (s.map UInt8.ofNat)).size = s.length := by rw [Bs_size]; simp
  rw [hsz] at hr
  have hP : Pre E (s8 s) (bytesRow (Bs (s.map UInt8.ofNat)) (grownCap w s.length 0 e)).toList := fun j u hj => by
   unfold s8 at hj
   rw [List.getElem?_map] at hj
   cases hn : s[j]? with
   |none => rw [hn] at hj; cases hj
   |some n =>
    rw [hn] at hj; injection hj with hj; subst hj
    have hlt := (List.getElem?_eq_some_iff.1 hn).1
    have hn256 : n < 256 := e2 n (List.mem_of_getElem? hn)
    refine ⟨.int .u8 (n : Int),?_,rfl⟩
    simp only [bytesRow,Array.toList_append,Array.toList_map,Bs_data]
    rw [List.getElem?_append_left (by simpa using hlt),List.getElem?_map,List.getElem?_map,hn]
    simp
    omega
  have hE1 : Ext w (w.drew.alloc (.cells (bytesRow (Bs (s.map UInt8.ofNat)) (grownCap w s.length 0 e)) e ((bytesRow (Bs (s.map UInt8.ofNat)) (grownCap w s.length 0 e)).size,(bytesRow (Bs (s.map UInt8.ofNat)) (grownCap w s.length 0 e)).size + 1))) := (Chg.drew (Chg.refl [] w)).trans (Ext.alloc w.drew _)
  have key := hH.realZ hg hE hE1 (Nat.le_refl _) (by simpa using heap_alloc_new w.drew _) (fun hh => absurd rfl hh) hP
  have hge := grownCap_ge w s.length 0 e
  refine ⟨_,_,_,En.le_add hE,fun b hb => En.add_other _ _ _ hb,r_convR e1 hr,key,w.heap.size,_,0,grownCap w s.length 0 e,En.add_same _ _ _ _,rfl,hge,hge,.inr rfl,?_⟩
  show 0 + grownCap w s.length 0 e * 1 ≤ _
  simp only [Array.length_toList,bytesRow,Array.size_append,Array.size_map,Array.size_replicate]
  have : (Bs (s.map UInt8.ofNat)).data.size = s.length := hsz
  rw [this,hsz]; omega
 ·cases h
end
end
end Ev
end
section
namespace Ev
set_option autoImplicit false
section
variable {P : Program} {G : Nat} {dst : Option Nat} {ty : TypeId} {pos : String} {after : Array Edge} {guard : Option (Nat × Bool)}
section
variable [Tx]
theorem V_usd {t : TypeId} {x : Operand} {x' : X} (hx : XR G x x') : OpV P G ⟨dst,.call { callee := .builtin .unsafeSliceData,args := #[x],argTypes := #[t] },ty,pos,after,guard⟩ (.usd x') := by
 intro E H w0 w a L run v H' hG hH hF h
 replace h : (match evX L x' with | some (.c (.sl none _ _ _)) => some (AV.c (.p none),H) | some (.c (.sl (some a) _ c _)) => cond (Nat.beq c 0) none (some (AV.c (.p (some a)),H)) | _ => none) = some (v,H') := h
 split at h
 ·rename_i n c es h1
  injection h with h; injection h with h2 h3; subst h2
  obtain ⟨_,_,e1⟩ := hx hG hF h1
  have hu : (Builtin.unsafeSliceData_ #[t] ty #[.slice none 0 0]).run P w = .ok (.pointer none) w := rfl
  exact ⟨h3.symm,.pointer none,by simp [execOp,resolve,invoke,builtin,e1,hu],rfl⟩
 ·rename_i p n c es h1
  cases hb : Nat.beq c 0 with
  |true => rw [hb] at h; cases h
  |false =>
   rw [hb] at h; injection h with h; injection h with h2 h3; subst h2
   obtain ⟨b,o⟩ := p
   obtain ⟨B,S,o',c',e1,e2,e3,e4,e5,e6⟩ := hx hG hF h1
   have hc0 : c ≠ 0 := fun e => by subst e; cases hb
   have hc : c' ≠ 0 := by omega
   have ho : o' = o := by rcases e5 with e5 | e5 <;> first | exact e5 | omega | exact absurd e5 hc
   subst ho
   have hu : (Builtin.unsafeSliceData_ #[t] ty #[.slice (some ⟨B,o',none⟩) n c']).run P w = .ok (.pointer (some ⟨B,o',none⟩)) w := by
    unfold Builtin.unsafeSliceData_
    show Sem.run P (if c' ≠ 0 then pure (Value.pointer (some ⟨B,o',none⟩)) else _) w = _
    rw [if_pos hc]; rfl
   exact ⟨h3.symm,.pointer (some ⟨B,o',none⟩),by simp [execOp,resolve,invoke,builtin,e2,hu],B,S,e1,rfl⟩
 ·cases h
theorem A_mkm {t : TypeId} (hr : ∀ w : World,(Instr.makeMap t none).run P w = .ok (.map (some w.heap.size)) (w.alloc (.map #[] 0))) : OpS P G ⟨dst,.makeMap t none,ty,pos,after,guard⟩ .mkm := by
 intro E H w0 w a L run v H' _ hG hH hF h
 replace h : some (AV.c (.m (some H.nx)),H.push (.map [] 0)) = some (v,H') := h
 injection h with h; injection h with h1 h2; subst h1; subst h2
 refine ⟨⟨Nat.le_succ _,fun b hb _ => (AH.get_push _ _ _).trans (if_neg (Nat.ne_of_lt hb))⟩,.inl ⟨_,_,r_makeMap (hr w),?_⟩⟩
 have hg : (H.push (.map [] 0)).get H.nx = some (.map [] 0) := (AH.get_push _ _ _).trans (if_pos rfl)
 have hp := (hH.push (o := .map [] 0) fun _ _ _ _ h => (by cases h)).ext (Ext.alloc w (.map #[] 0))
 have hE := hH.free
 have old : ∀ {x p},x ≠ H.nx → E.add H.nx w.heap.size 0 x = some p → E x = some p := fun hx hp => by rwa [En.add_other _ _ _ hx] at hp
 have hlt : ∀ {x p},E x = some p → live (H.push (.map [] 0)) x → p.1 < w.heap.size := fun {x p} hx hl => by
  have hpw := hH.push (o := .map [] 0) fun _ _ _ _ h => (by cases h)
  rcases hl with hl | ⟨es,cl,hl⟩
  ·cases ha : (H.push (.map [] 0)).at x with
   |none => rw [ha] at hl; cases hl
   |some q =>
    obtain ⟨C',T'',fz,h1,_⟩ := hpw.cel x q.1 q.2.1 q.2.2 p.1 p.2 ha hx
    exact (Array.getElem?_eq_some_iff.1 h1).1
  ·obtain ⟨_,ms,h1,_⟩ := hpw.mp x es cl p.1 p.2 hl hx
   exact (Array.getElem?_eq_some_iff.1 h1).1
 have hle := En.le_add (B := w.heap.size) (S := 0) hE
 refine ⟨E.add H.nx w.heap.size 0,hle,fun b p hb => ?_,⟨hp.wp,hp.ch,fun x p hx => ?_,hp.key,hp.fkey,hp.bf,hp.las,fun x T c l B S ha hx => ?_,fun x es cl B S hm hx => ?_,fun x y B S S' hxy hx hy hl hl' => ?_,fun x v B S hm hx => by
  have hxn : x ≠ H.nx := fun e => by subst e; rw [hg] at hm; cases hm
  exact (((hH.push (o := .map [] 0) fun _ _ _ _ h => (by cases h)).ls x v B S hm (old hxn hx)).add (.inl (Nat.le_refl _))).ext (Ext.alloc w (.map #[] 0))⟩,w.heap.size,0,En.add_same _ _ _ _,rfl⟩
 ·by_cases hbn : b = H.nx
  ·subst hbn; exact .inr (Nat.le_refl _)
  ·exact .inl (old hbn hb)
 ·by_cases hxn : x = H.nx
  ·subst hxn; exact Nat.lt_succ_self _
  ·exact hp.dom x p (old hxn hx)
 ·have hxn : x ≠ H.nx := fun e => by subst e; have := (AH.at_eq.1 ha).1; rw [hg] at this; cases this
  obtain ⟨C,T',fz,h1,h2,h3,h4⟩ := hp.cel x T c l B S ha (old hxn hx)
  exact ⟨C,T',fz,h1,h2,h3.mono hle,h4⟩
 ·by_cases hxn : x = H.nx
  ·subst hxn
   rw [En.add_same] at hx; injection hx with hx; injection hx with g1 g2; subst g1
   rw [hg] at hm; injection hm with hm; injection hm with g3 g4; subst g3; subst g4
   exact ⟨.inl hH.ch.size,[],heap_alloc_new w _,.nil⟩
  ·obtain ⟨h0,ms,h1,h2⟩ := hp.mp x es cl B S hm (old hxn hx)
   exact ⟨h0,ms,h1,h2.mono fun _ _ => entR.mono hle⟩
 ·by_cases hxn : x = H.nx
  ·subst hxn
   rw [En.add_same] at hx; injection hx with hx; injection hx with g1 _; subst g1
   exact absurd (hlt (old (Ne.symm hxy) hy) hl') (Nat.lt_irrefl _)
  ·by_cases hyn : y = H.nx
   ·subst hyn
    rw [En.add_same] at hy; injection hy with hy; injection hy with g1 _; subst g1
    exact absurd (hlt (old hxn hx) hl) (Nat.lt_irrefl _)
   ·exact hp.inj x y B S S' hxy (old hxn hx) (old hyn hy) hl hl'
end
theorem zeroCells_get (zs : Array Value) (n j : Nat) (h : j < n * zs.size) : (Builtin.zeroCells zs n).toList[j]? = some zs[j % zs.size]! := by
 simp only [Builtin.zeroCells,Array.toList_map,Array.toList_range,List.getElem?_map,List.getElem?_range h,Option.map_some]
section
variable [Tx]
theorem S_clr {t e size bytes : Nat} {z : Value} {zs : List AC} {x : Operand} {x' : X} (ht : P.underlying t = some (.slice e)) (hi : TI P e z size bytes) (hz : ∀ E,∃ cs : List Value,z.cells = cs.toArray ∧ ACs E zs cs) (hx : XR G x x') (hun : undef = Value.tuple #[]) :
  OpS P G ⟨dst,.call { callee := .builtin .clear,args := #[x],argTypes := #[t] },ty,pos,after,guard⟩ (.clr zs x') := by
 intro E H w0 w a L run v H' _ hG hH hF h
 replace h : (match evX L x' with | some (.c (.sl none _ _ _)) => some (AV.u,H) | some (.c (.sl (some (b,o)) n _ _)) => cond (Nat.beq n 0) (some (AV.u,H)) (match H.wr b o (repl zs n) with | some H' => some (AV.u,H') | none => none) | _ => none) = some (v,H') := h
 obtain ⟨i,hi0,hz0,hs,hby⟩ := hi
 split at h
 ·rename_i n c es h1
  injection h with h; injection h with h2 h3; subst h2; subst h3
  obtain ⟨_,_,e1⟩ := hx hG hF h1
  have hr : (Builtin.clear_ #[t] ty #[.slice none 0 0]).run P w = .ok (.tuple #[]) w := by
   simp [Builtin.clear_,run_underlying ht]
  exact ⟨Keeps.refl _ _,.inl ⟨_,w,r_clear e1 hr,E,En.le_refl _,fun _ _ h => .inl h,hH,hun.symm⟩⟩
 ·rename_i b o n c es h1
  obtain ⟨B,S,o',c',e1,e2,e3,e4,e5,e6⟩ := hx hG hF h1
  cases hn : Nat.beq n 0 with
  |true =>
   have hn := Nat.eq_of_beq_eq_true hn
   subst hn
   injection h with h; injection h with h2 h3; subst h2; subst h3
   have hr : (Builtin.clear_ #[t] ty #[.slice (some ⟨B,o',none⟩) 0 c']).run P w = .ok (.tuple #[]) w := by
    simp [Builtin.clear_,run_underlying ht]
   exact ⟨Keeps.refl _ _,.inl ⟨_,w,r_clear e2 hr,E,En.le_refl _,fun _ _ h => .inl h,hH,hun.symm⟩⟩
  |false =>
   rw [hn] at h
   replace h : (match H.wr b o (repl zs n) with | some H' => some (AV.u,H') | none => none) = some (v,H') := h
   cases hw : H.wr b o (repl zs n) with
   |none => rw [hw] at h; cases h
   |some H1 =>
    rw [hw] at h; injection h with h; injection h with h2 h3; subst h2; subst h3
    have hn0 : 0 < n := by
     rcases Nat.eq_zero_or_pos n with h | h
     ·subst h; cases hn
     ·exact h
    have ho : o' = o := by rcases e5 with e5 | e5 <;> first | exact e5 | omega
    subst ho
    obtain ⟨cs,f1,f2⟩ := hz E
    have hlen := All2.length f2
    have hzc : z.cells.size = zs.length := by rw [f1,List.size_toArray,hlen]
    have hv : ACs E (repl zs n) (Builtin.zeroCells z.cells n).toList := All2.of_get (by have h1 := size_zeroCells z.cells n; rw [hzc] at h1; rw [repl_length,← h1]; rfl) fun j u y hu hy => by
     have hjl : j < n * zs.length := by rw [← repl_length]; exact (List.getElem?_eq_some_iff.1 hu).1
     rw [repl_get zs n j hjl] at hu
     obtain ⟨u',q1,q2⟩ := All2.get f2 _ _ hu
     rw [zeroCells_get _ _ _ (by rw [hzc]; exact hjl)] at hy
     injection hy with hy
     have : z.cells[j % z.cells.size]! = u' := by
      rw [hzc,f1]; simp [getElem!_def,q1]
     rw [this] at hy; subst hy; exact q2
    obtain ⟨C,T',hb,hl,hk⟩ := hH.wr hw e1 hv
    have hst := run_storeCells_box (P := P) o' (Builtin.zeroCells z.cells n).toList 0 hb (by simpa using hl) hv.one
    have hr : (Builtin.clear_ #[t] ty #[.slice (some ⟨B,o',none⟩) n c']).run P w = .ok (.tuple #[]) (setCells w B o' (Builtin.zeroCells z.cells n).toList) := by
     simp only [Nat.add_zero] at hst
     have : ∃ k,n = k + 1 := ⟨n - 1,by omega⟩
     obtain ⟨k,rfl⟩ := this
     simp [Builtin.clear_,run_underlying ht,zeroValue,typeInfo,hi0,hz0,hst]
    exact ⟨wr_keeps hw e1,.inl ⟨_,_,r_clear e2 hr,E,En.le_refl _,fun _ _ h => .inl h,hk _ (setCells_chg B _ w o') (setCells_box _ hb),hun.symm⟩⟩
 ·cases h
end
end
end Ev
end
section
namespace Ev
set_option autoImplicit false
section
variable [Tx]
def PsR (G : Nat) (place : Nat → Option (Nat × Nat)) (p : Nat × Operand) (q : Nat × Nat × X) : Prop := place p.1 = some (q.1,q.2.1) ∧ XR G p.2 q.2.2
end
section
variable {P : Program} {G : Nat} {dst : Option Nat} {ty : TypeId} {pos : String} {after : Array Edge} {guard : Option (Nat × Bool)}
theorem foldl_put : ∀ (us : List Value) (C : List Value) (o k : Nat),(us.zipIdx k).foldl (fun cs (p : Value × Nat) => cs.setIfInBounds (o + p.2) p.1) C.toArray = (putAt C (o + k) us).toArray
 |[],C,o,k => rfl
 |u :: us,C,o,k => by
  rw [List.zipIdx_cons,List.foldl_cons]
  have e : C.toArray.setIfInBounds (o + k) u = (C.set (o + k) u).toArray := by simp
  show ((us.zipIdx (k + 1)).foldl _ (C.toArray.setIfInBounds (o + k) u)) = _
  rw [e,foldl_put us (C.set (o + k) u) o (k + 1)]
  rfl
section
variable [Tx]
theorem fill_ok {place : Nat → Option (Nat × Nat)} {E : En} {a : Act} {L : Fr} (hG : GE G E) (hF : FR E L a) : ∀ {ps : List (Nat × Operand)} {qs : List (Nat × Nat × X)} {z l : List AC} {C : List Value},All2 (PsR G place) ps qs → ACs E z C → evP L qs z = some l →
  ∃ cs : List Value,Instr.fill place C.toArray (ps.map fun p => (p.1,a.eval p.2)) = some cs.toArray ∧ ACs E l cs
 |[],[],z,l,C,.nil,hz,h => by
  injection h with h; subst h
  exact ⟨C,rfl,hz⟩
 |p :: ps,q :: qs,z,l,C,.cons hp ht,hz,h => by
  replace h : (match evX L q.2.2 with | some v => cond (v.plain && Nat.beq v.cells.length q.2.1) (match over z q.1 v.cells with | some z' => evP L qs z' | none => none) none | none => none) = some l := h
  split at h
  ·rename_i v hv
   cases hb : (v.plain && Nat.beq v.cells.length q.2.1) with
   |false => rw [hb] at h; cases h
   |true =>
    rw [hb] at h
    obtain ⟨b1,b2⟩ : v.plain = true ∧ Nat.beq v.cells.length q.2.1 = true := by simpa using hb
    replace b2 := Nat.eq_of_beq_eq_true b2
    replace h : (match over z q.1 v.cells with | some z' => evP L qs z' | none => none) = some l := h
    split at h
    ·rename_i z' ho
     obtain ⟨us,h1,h2⟩ := AV.cells_of b1 (hp.2 hG hF hv)
     have hlu := All2.length h2
     have hlC := All2.length hz
     obtain ⟨o1,o2,o3⟩ := over_eq _ _ _ _ ho
     have hput : ACs E z' (putAt C q.1 us) := by
      have hpre := Pre.put (Pre.all2 hz) h2 ho
      refine All2.of_get (by rw [putAt_length,o2,hlC]) fun i x y hx hy => ?_
      obtain ⟨y',g1,g2⟩ := hpre i x hx
      rw [hy] at g1; injection g1 with g1; subst g1; exact g2
     obtain ⟨cs,g1,g2⟩ := fill_ok hG hF ht hput h
     refine ⟨cs,?_,g2⟩
     rw [List.map_cons,Instr.fill,hp.1]
     simp only [h1,List.size_toArray]
     have c : (us.length ≠ q.2.1 || decide (q.1 + us.length > C.length)) = false := by
      rw [hlu,b2,hlC]
      simp; omega
     have c' : ¬ ((decide (us.length ≠ q.2.1) || decide (q.1 + us.length > C.length)) = true) := by
      intro hh
      rw [Bool.or_eq_true] at hh
      rcases hh with hh | hh
      ·exact absurd (of_decide_eq_true hh) (by rw [hlu,b2]; simp)
      ·have := of_decide_eq_true hh; omega
     have e : us.toArray.zipIdx.foldl (fun cs (p : Value × Nat) => cs.setIfInBounds (q.1 + p.2) p.1) C.toArray = (putAt C q.1 us).toArray := by
      have := foldl_put us C q.1 0
      rw [Nat.add_zero] at this
      rw [← this]
      simp [← Array.foldl_toList]
     rw [if_neg (by simpa using c')]
     rw [e]; exact g1
    ·cases h
  ·cases h
theorem V_bld {t : TypeId} {ps : List (Nat × Operand)} {qs : List (Nat × Nat × X)} {place : Nat → Option (Nat × Nat)} {z : Value} {zs : List AC} (hb : ∀ vs,P.built t vs = Instr.fill place z.cells vs) (hz : ∀ E,∃ cs : List Value,z.cells = cs.toArray ∧ ACs E zs cs) (hp : All2 (PsR G place) ps qs) :
  OpV P G ⟨dst,.build t ps.toArray,ty,pos,after,guard⟩ (.bld zs qs) := by
 intro E H w0 w a L run v H' hG hH hF h
 replace h : (match evP L qs zs with | some l => some (AV.a l,H) | none => none) = some (v,H') := h
 split at h
 ·rename_i l h1
  injection h with h; injection h with h2 h3; subst h2
  obtain ⟨C,e1,e2⟩ := hz E
  obtain ⟨cs,g1,g2⟩ := fill_ok hG hF hp e2 h1
  refine ⟨h3.symm,.agg cs.toArray,?_,cs,rfl,g2⟩
  have hr := run_build (P := P) w t (ps.toArray.map fun (i,x) => (i,a.eval x)) cs.toArray (by
   rw [hb,e1]
   simpa using g1)
  simp only [execOp,hr,Sem.run_bind,Result.andThen_ok,Sem.run_pure]
 ·cases h
theorem made_acs {E : En} {zs : List AC} {cs : List Value} (h : ACs E zs cs) (c : Nat) (hs : 0 < zs.length) : ACs E (repl zs c) ((Array.range (c * zs.length)).map (cs.toArray[· % cs.toArray.size]!)).toList := by
 have hlen := All2.length h
 refine All2.of_get (by rw [repl_length]; simp) fun j x y hx hy => ?_
 have hjl : j < c * zs.length := by rw [← repl_length]; exact (List.getElem?_eq_some_iff.1 hx).1
 rw [repl_get zs c j hjl] at hx
 obtain ⟨u,q1,q2⟩ := All2.get h _ _ hx
 have hm : cs.toArray[j % cs.toArray.size]! = u := by
  rw [List.size_toArray,hlen]
  simp [getElem!_def,q1]
 simp only [Array.toList_map,Array.toList_range,List.getElem?_map,List.getElem?_range hjl,Option.map_some,hm] at hy
 injection hy with hy; subst hy; exact q2
theorem A_bsl {t e T n size bytes : Nat} {z : Value} {zs : List AC} {ps : List (Nat × Operand)} {qs : List (Nat × Nat × X)} (ht : P.underlying t = some (.slice e)) (hi : TI P e z size bytes) (hz : ∀ E,∃ cs : List Value,z.cells = cs.toArray ∧ ACs E zs cs) (hzs : zs.length = size) (hsz : 0 < size) (hle : n * size ≤ 2 ^ 24) (hn : 0 < n)
  (hp : All2 (PsR G fun i => some (i * size,size)) ps qs) : OpA P G ⟨dst,.buildSlice t n ps.toArray,ty,pos,after,guard⟩ (.bsl T size n (repl zs n) qs) := by
 intro L run H H' v h
 replace h : (match evP L qs (repl zs n) with | some l => some (AV.c (.sl (some (H.nx,0)) n n size),H.new T l) | none => none) = some (v,H') := h
 split at h
 ·rename_i l h1
  injection h with h; injection h with h2 h3; subst h2; subst h3
  refine ⟨_,rfl,fun _ _ _ _ h => (by cases h),fun {E H2 w0 w a} hG hH hF hg hE => ?_⟩
  obtain ⟨C,e1,e2⟩ := hz E
  subst hzs
  obtain ⟨cs,g1,g2⟩ := fill_ok hG hF hp (made_acs e2 n hsz) h1
  have hr := r_buildSlice (P := P) (ρ := a.eval) (w := w) (dst := dst) (ty := ty) (pos := pos) (after := after) (guard := guard) (t := t) (len := n) (parts := ps.toArray) (cs := cs) rfl ht hi (by rw [Nat.ble_eq]; exact hle) (by rw [Nat.blt_eq]; exact Nat.mul_pos hn hsz) (by
   rw [e1]
   rw [Array.toArray_toList] at g1
   rw [← g1]
   congr 1
   simp)
  have key := hH.real hg hE (Ext.alloc w (.cells cs.toArray e (0,0))) (Nat.le_refl _) (Box.alloc w e cs) (Pre.all2 g2)
  have hl : cs.length = n * zs.length := by
   have := All2.length g2
   have h0 : l.length = (repl zs n).length := by
    have : ∀ (qs : List (Nat × Nat × X)) (z l : List AC),evP L qs z = some l → l.length = z.length := fun qs => by
     induction qs with
     |nil => intro z l h; injection h with h; rw [h]
     |cons q qs ih =>
      intro z l h
      replace h : (match evX L q.2.2 with | some v => cond (v.plain && Nat.beq v.cells.length q.2.1) (match over z q.1 v.cells with | some z' => evP L qs z' | none => none) none | none => none) = some l := h
      split at h
      ·rename_i v _
       cases hb : (v.plain && Nat.beq v.cells.length q.2.1) with
       |false => rw [hb] at h; cases h
       |true =>
        rw [hb] at h
        replace h : (match over z q.1 v.cells with | some z' => evP L qs z' | none => none) = some l := h
        split at h
        ·rename_i z' ho
         rw [ih _ _ h,(over_eq _ _ _ _ ho).2.1]
        ·cases h
      ·cases h
    exact this _ _ _ h1
   rw [this,h0,repl_length]
  exact ⟨_,_,_,En.le_add hE,fun b hb => En.add_other _ _ _ hb,hr,key,w.heap.size,cs.length,0,n,En.add_same _ _ _ _,by simp,Nat.le_refl _,Nat.le_refl _,.inr rfl,by rw [hl]; omega⟩
 ·cases h
theorem A_bsl0 {t e T es size bytes : Nat} {z : Value} (ht : P.underlying t = some (.slice e)) (hi : TI P e z size bytes) : OpA P G ⟨dst,.buildSlice t 0 #[],ty,pos,after,guard⟩ (.bsl T es 0 [] []) := by
 intro L run H H' v h
 replace h : some (AV.c (.sl (some (H.nx,0)) 0 0 es),H.new T []) = some (v,H') := h
 injection h with h; injection h with h2 h3; subst h2; subst h3
 refine ⟨_,rfl,fun _ _ _ _ h => (by cases h),fun {E H2 w0 w a} hG hH hF hg hE => ?_⟩
 have key := hH.real hg hE (Ext.alloc w (.cells ([] : List Value).toArray e (0,0))) (Nat.le_refl _) (Box.alloc w e []) (Pre.all2 All2.nil)
 exact ⟨_,_,_,En.le_add hE,fun b hb => En.add_other _ _ _ hb,r_buildSlice0 ht hi,key,w.heap.size,0,0,0,En.add_same _ _ _ _,by simp,Nat.le_refl _,Nat.le_refl _,.inl rfl,by simp⟩
end
end
section
variable {P : Program} {G : Nat} {dst : Option Nat} {ty : TypeId} {pos : String} {after : Array Edge} {guard : Option (Nat × Bool)}
def kdOf (P : Program) (t : TypeId) : Option Kd := match P.underlying t with
 |some .string => some .s
 |some .bool => some .b
 |some (.int k) => some (.i k)
 |_ => none
def kdsOf (P : Program) : List Field → Nat → Option (List Kd)
 |[],_ => some []
 |f :: fs,o => match kdOf P f.type,kdsOf P fs (o + 1) with
  |some k,some r => cond (Nat.beq f.offset o && !(f.name == "_")) (some (k :: r)) none
  |_,_ => none
section
variable [Tx]
theorem ceq_fe {E : En} {x y : AC} {b c : Bool} {k : Kd} {f : Field} {fs : List Field} {xs ys : Array Value} {u v : Value} (hk : kdOf P f.type = some k) (hn : f.name ≠ "_") (h : ceq k x y = some b) (hx : x.v E u) (hy : y.v E v) (gx : xs[f.offset]? = some u) (gy : ys[f.offset]? = some v) (hf : FE P xs ys fs c) : FE P xs ys (f :: fs) (b && c) := by
 unfold ceq at h
 unfold kdOf at hk
 split at h
 ·rename_i a a'
  have hd : P.underlying f.type = some .string := by
   split at hk <;> first | assumption | (cases hk; done) | (injection hk with hk; cases hk; done)
  injection h with h; subst h
  rw [leqL_eq]
  obtain ⟨rfl,q1⟩ := hx
  obtain ⟨rfl,q2⟩ := hy
  have := fe_str hn hd gx gy hf
  have e : decide (a = a') = decide (a.map UInt8.ofNat = a'.map UInt8.ofNat) := by
   rw [decide_eq_decide]; exact (map_u8_inj q1 q2).symm
  rw [e]; exact this
 ·rename_i kk j a j' a'
  have hd : P.underlying f.type = some (.int kk) := by
   split at hk <;> first | (cases hk; assumption) | (cases hk; done)
  cases hb : (decide (j = kk) && decide (j' = kk)) with
  |false => rw [hb] at h; cases h
  |true =>
   rw [hb] at h
   injection h with h; subst h
   simp only [Bool.and_eq_true,decide_eq_true_eq] at hb
   obtain ⟨rfl,rfl⟩ := hb
   rw [ieq_eq]
   cases hx; cases hy
   exact fe_int hn hd gx gy hf
 ·rename_i a a'
  have hd : P.underlying f.type = some .bool := by
   split at hk <;> first | assumption | (cases hk; done) | (injection hk with hk; cases hk; done)
  injection h with h; subst h
  cases hx; cases hy
  have := fe_bool hn hd gx gy hf
  have e : (a == a') = decide (a = a') := by cases a <;> cases a' <;> rfl
  rw [e]; exact this
 ·cases h
theorem ceqs_fe {E : En} {xs ys : List Value} : ∀ {fs : List Field} {o : Nat} {ks : List Kd} {l r : List AC} {b : Bool},kdsOf P fs o = some ks → ceqs ks l r = some b → ACs E l (xs.drop o) → ACs E r (ys.drop o) → FE P xs.toArray ys.toArray fs b
 |[],o,ks,l,r,b,hk,h,_,_ => by
  injection hk with hk; subst hk
  replace h : (match (generalizing := false) l,r with | [],[] => some true | _,_ => none) = some b := h
  split at h
  ·injection h with h; subst h; exact fe_nil _ _
  ·cases h
 |f :: fs,o,ks,l,r,b,hk,h,hl,hr => by
  unfold kdsOf at hk
  split at hk
  ·rename_i k ks' h1 h2
   cases hc : (Nat.beq f.offset o && !(f.name == "_")) with
   |false => rw [hc] at hk; cases hk
   |true =>
    rw [hc] at hk
    injection hk with hk; subst hk
    simp only [Bool.and_eq_true,Bool.not_eq_true',beq_eq_false_iff_ne] at hc
    obtain ⟨ho,hn⟩ := hc
    have ho := Nat.eq_of_beq_eq_true ho
    replace h : (match (generalizing := false) l,r with
     |x :: l',y :: r' => (match ceq k x y with
      |some true => ceqs ks' l' r'
      |some false => (match ceqs ks' l' r' with | some _ => some false | none => none)
      |none => none)
     |_,_ => none) = some b := h
    split at h
    ·rename_i x l' y r'
     cases hxs : xs.drop o with
     |nil => rw [hxs] at hl; cases hl
     |cons u xs' =>
      cases hys : ys.drop o with
      |nil => rw [hys] at hr; cases hr
      |cons v ys' =>
       rw [hxs] at hl; rw [hys] at hr
       cases hl with
       |cons hx hl =>
        cases hr with
        |cons hy hr =>
         have gx : xs.toArray[f.offset]? = some u := by
          have := congrArg (fun q : List Value => q[0]?) hxs
          simpa [ho] using this
         have gy : ys.toArray[f.offset]? = some v := by
          have := congrArg (fun q : List Value => q[0]?) hys
          simpa [ho] using this
         have e1 : xs' = xs.drop (o + 1) := by
          have := congrArg List.tail hxs
          simpa using this.symm
         have e2 : ys' = ys.drop (o + 1) := by
          have := congrArg List.tail hys
          simpa using this.symm
         subst e1; subst e2
         split at h
         ·rename_i hc
          have := ceqs_fe h2 h hl hr
          have := ceq_fe h1 hn hc hx hy gx gy this
          simpa using this
         ·rename_i hc
          split at h
          ·rename_i b' hb'
           injection h with h; subst h
           have := ceqs_fe h2 hb' hl hr
           have := ceq_fe h1 hn hc hx hy gx gy this
           simpa using this
          ·cases h
         ·cases h
    ·cases h
  ·cases hk
theorem V_aeq {neg : Bool} {t yt : TypeId} {x y : Operand} {x' y' : X} {ks : List Kd} (hg : P.eqGuardType P.depth t = false) (ht : P.underlying t = some (.struct (P.fieldsOf t))) (hp : P.stoodInHeld t = false) (hk : kdsOf P (P.fieldsOf t).toList 0 = some ks) (hx : XR G x x') (hy : XR G y y') :
  OpV P G ⟨dst,.binOp (cond neg .neq .eql) t x y yt,ty,pos,after,guard⟩ (.aeq neg ks x' y') := by
 intro E H w0 w a L run v H' hG hH hF h
 replace h : (match evX L x',evX L y' with | some (.a l),some (.a r) => (match ceqs ks l r with | some b => val H (bV (b != neg)) | none => none) | _,_ => none) = some (v,H') := h
 split at h
 ·rename_i l r h1 h2
  split at h
  ·rename_i b h3
   obtain ⟨h4,h5⟩ := val_eq h
   obtain ⟨xs,e1,e2⟩ := hx hG hF h1
   obtain ⟨ys,e3,e4⟩ := hy hG hF h2
   have hfe := ceqs_fe hk h3 (by simpa using e2) (by simpa using e4)
   have he : EqA P t xs.toArray ys.toArray b := EqA.of hg ht hp rfl hfe rfl
   refine ⟨h5,?_⟩
   cases neg with
   |false => exact ⟨_,r_aeql e1 e3 he,bV_v h4 (by simp)⟩
   |true => exact ⟨_,r_aneq e1 e3 he,bV_v h4 (by cases b <;> rfl)⟩
  ·cases h
 ·cases h
end
end
end Ev
end
section
namespace Ev
set_option autoImplicit false
noncomputable section
def cC : Value → Option AC
 |.bool b => some (.b b)
 |.int k n => some (.i k n)
 |.string s => some (.s (s.data.toList.map UInt8.toNat))
 |.pointer none => some (.p none)
 |.slice none 0 0 => some (.sl none 0 0 0)
 |.map none => some (.m none)
 |.nilFunc => some .nf
 |.nilIface => some .ni
 |_ => none
def cCs (l : List Value) : Option (List AC) := List.rec (some []) (fun v _ ih => match cC v,ih with | some x,some r => some (x :: r) | _,_ => none) l
def cV : Value → Option AV
 |.agg cs => (cCs cs.toList).map .a
 |v => (cC v).map .c
def cX (G : Nat) : Operand → Option X
 |.tmp t => cond (Nat.blt t 256) (some (.t (Slt.of t))) none
 |.const v => (cV v).map .c
 |.global g => cond (Nat.blt g G) (some (.c (.c (.p (some (g,0)))))) none
 |.func f => some (.c (.c (.f f [])))
def cXo (G : Nat) : Option Operand → Option (Option X)
 |none => some none
 |some o => (cX G o).map some
def cXs (G : Nat) (l : List Operand) : Option (List X) := List.rec (some []) (fun o _ ih => match cX G o,ih with | some x,some r => some (x :: r) | _,_ => none) l
def cPs (G : Nat) (place : Nat → Option (Nat × Nat)) (l : List (Nat × Operand)) : Option (List (Nat × Nat × X)) := List.rec (some []) (fun p _ ih => match place p.1,cX G p.2,ih with | some q,some x,some r => some ((q.1,q.2,x) :: r) | _,_,_ => none) l
theorem cond_some {α : Type} {b : Bool} {x y : α} (h : cond b (some x) none = some y) : b = true ∧ x = y := by
 cases b with
 |true => injection h with h; exact ⟨rfl,h⟩
 |false => cases h
section
variable [Tx]
theorem cC_v {v : Value} {x : AC} (h : cC v = some x) (E : En) : x.v E v := by
 unfold cC at h
 split at h <;> first | (injection h with h; subst h; first | rfl | exact ⟨rfl,rfl,rfl⟩) | cases h
 rename_i s
 refine ⟨?_,fun n hn => ?_⟩
 ·have e : (s.data.toList.map UInt8.toNat).map UInt8.ofNat = s.data.toList := by
   rw [List.map_map]
   conv => rhs; rw [← List.map_id s.data.toList]
   apply List.map_congr_left
   intro b _
   simp
  rw [e]
  show Value.string s = .string ⟨s.data.toList.toArray⟩
  rw [Array.toArray_toList]
 ·obtain ⟨b,_,rfl⟩ := List.mem_map.1 hn
  exact b.toNat_lt
theorem cCs_v : ∀ {l : List Value} {xs : List AC},cCs l = some xs → ∀ E : En,ACs E xs l
 |[],xs,h,E => by injection h with h; subst h; exact .nil
 |v :: l,xs,h,E => by
  replace h : (match cC v,cCs l with | some x,some r => some (x :: r) | _,_ => none) = some xs := h
  split at h
  ·rename_i x r h1 h2
   injection h with h; subst h
   exact .cons (cC_v h1 E) (cCs_v h2 E)
  ·cases h
theorem cV_v {v : Value} {x : AV} (h : cV v = some x) (E : En) : x.v E v := by
 unfold cV at h
 split at h
 ·rename_i cs
  obtain ⟨l,h1,rfl⟩ := Option.map_eq_some_iff.1 h
  exact ⟨cs.toList,by rw [Array.toArray_toList],cCs_v h1 E⟩
 ·obtain ⟨y,h1,rfl⟩ := Option.map_eq_some_iff.1 h
  exact cC_v h1 E
theorem cX_ok {G : Nat} {o : Operand} {x : X} (h : cX G o = some x) : XR G o x := by
 unfold cX at h
 split at h
 ·rename_i t
  obtain ⟨ht,rfl⟩ := cond_some h
  have e := Slt.n_of (show t < 256 by simpa [Nat.blt_eq] using ht)
  intro E a L v hG hF hv
  have := XR.tmp G (Slt.of t) hG hF hv
  rw [e] at this; exact this
 ·obtain ⟨y,h1,rfl⟩ := Option.map_eq_some_iff.1 h
  exact XR.const (cV_v h1)
 ·rename_i g
  cases hb : Nat.blt g G with
  |false => rw [hb] at h; cases h
  |true =>
   rw [hb] at h; injection h with h; subst h
   exact XR.global (by simpa [Nat.blt_eq] using hb)
 ·injection h with h; subst h; exact XR.func G _
theorem cXo_ok {G : Nat} {o : Option Operand} {x : Option X} (h : cXo G o = some x) : XRo G o x := by
 cases o with
 |none => injection h with h; subst h; trivial
 |some o =>
  obtain ⟨y,h1,rfl⟩ := Option.map_eq_some_iff.1 (h : (cX G o).map some = some x)
  exact cX_ok h1
theorem cXs_ok {G : Nat} : ∀ {l : List Operand} {xs : List X},cXs G l = some xs → All2 (XR G) l xs
 |[],xs,h => by injection h with h; subst h; exact .nil
 |o :: l,xs,h => by
  replace h : (match cX G o,cXs G l with | some x,some r => some (x :: r) | _,_ => none) = some xs := h
  split at h
  ·rename_i x r h1 h2
   injection h with h; subst h
   exact .cons (cX_ok h1) (cXs_ok h2)
  ·cases h
theorem cPs_ok {G : Nat} {place : Nat → Option (Nat × Nat)} : ∀ {l : List (Nat × Operand)} {qs : List (Nat × Nat × X)},cPs G place l = some qs → All2 (PsR G place) l qs
 |[],qs,h => by injection h with h; subst h; exact .nil
 |p :: l,qs,h => by
  replace h : (match place p.1,cX G p.2,cPs G place l with | some q,some x,some r => some ((q.1,q.2,x) :: r) | _,_,_ => none) = some qs := h
  split at h
  ·rename_i q x r h1 h2 h3
   injection h with h; subst h
   exact .cons ⟨h1,cX_ok h2⟩ (cPs_ok h3)
  ·cases h
end
section
variable (P : Program)
def tiE (t : TypeId) : Option (Value × Nat × Nat) := match P.info? t with
 |some i => (match i.zero with | some z => some (z,i.size,i.bytes) | none => none)
 |none => none
def zcE (t : TypeId) : Option (List AC × Nat × Nat) := match tiE P t with
 |some (z,n,b) => (match cCs z.cells.toList with | some l => cond (Nat.beq l.length n) (some (l,n,b)) none | none => none)
 |none => none
def isU8 (t : TypeId) : Bool := match P.underlying t with
 |some (.int .u8) => true
 |_ => false
end
section
variable {P : Program}
theorem tiE_ok {t : TypeId} {z : Value} {n b : Nat} (h : tiE P t = some (z,n,b)) : TI P t z n b := by
 unfold tiE at h
 split at h
 ·rename_i i hi
  split at h
  ·rename_i z' hz
   injection h with h; injection h with h1 h; injection h with h2 h3
   exact ⟨i,hi,by rw [hz,h1],h2,h3⟩
  ·cases h
 ·cases h
section
variable [Tx]
theorem zcE_ok {t : TypeId} {l : List AC} {n b : Nat} (h : zcE P t = some (l,n,b)) : ∃ z,TI P t z n b ∧ (∀ E,∃ cs : List Value,z.cells = cs.toArray ∧ ACs E l cs) ∧ l.length = n ∧ z.cells.size = n := by
 unfold zcE at h
 split at h
 ·rename_i z n' b' h1
  split at h
  ·rename_i l' h2
   cases hb : Nat.beq l'.length n' with
   |false => rw [hb] at h; cases h
   |true =>
    rw [hb] at h
    injection h with h; injection h with e1 h; injection h with e2 e3
    subst e1; subst e2; subst e3
    have hl := Nat.eq_of_beq_eq_true hb
    have hv := cCs_v h2
    refine ⟨z,tiE_ok h1,fun E => ⟨z.cells.toList,by rw [Array.toArray_toList],hv E⟩,hl,?_⟩
    have := All2.length (hv fun _ => none)
    rw [Array.length_toList] at this
    rw [this,hl]
  ·cases h
 ·cases h
end
theorem isU8_ok {t : TypeId} (h : isU8 P t = true) : P.underlying t = some (.int .u8) := by
 unfold isU8 at h
 split at h
 ·assumption
 ·cases h
end
section
variable [Tx]
structure OK (P : Program) (G : Nat) (o : Oper) (i : I) : Prop where
 v : kindI i ≤ 1 → OpV P G o i
 a : kindI i = 2 → OpA P G o i
 s : OpS P G o i
end
section
variable {P : Program} {G : Nat} {o : Oper} {i : I}
section
variable [Tx]
theorem OK.ofV (h : OpV P G o i) (hk : kindI i ≠ 2) : OK P G o i := ⟨fun _ => h,fun k => absurd k hk,h.s⟩
theorem OK.ofA (h : OpA P G o i) (hk : ¬ kindI i ≤ 1) : OK P G o i := ⟨fun k => absurd k hk,fun _ => h,h.s⟩
theorem OK.ofS (h : OpS P G o i) (hk : kindI i = 3) : OK P G o i := ⟨fun k => absurd k (by omega),fun k => absurd k (by omega),h⟩
theorem OK.bad (o : Oper) : OK P G o .bad := .ofS (fun _ _ _ _ h => by cases h) rfl
end
end
section
variable (P : Program) (G : Nat)
def cBin (op : BinOp) (t : TypeId) (x y : X) : Option I := match P.underlying t with
 |some (.int _) => some (.bin op x y)
 |some .string => some (.bin op x y)
 |some .bool => (match op with | .eql => some (.bq false x y) | .neq => some (.bq true x y) | _ => none)
 |some (.pointer e) => (match tiE P e with
  |some (_,n,_) => cond (Nat.beq n 0) none (match op with | .eql => some (.pq false x y) | .neq => some (.pq true x y) | _ => none)
  |none => none)
 |some (.slice _) => (match op with | .eql => some (.sq false x y) | .neq => some (.sq true x y) | _ => none)
 |some (.struct fs) => cond (P.eqGuardType P.depth t || P.stoodInHeld t) none (match kdsOf P fs.toList 0 with
  |some ks => (match op with | .eql => some (.aeq false ks x y) | .neq => some (.aeq true ks x y) | _ => none)
  |none => none)
 |_ => none
def cUn (op : UnOp) (x : X) : Option I := match op with
 |.not => some (.un .not x)
 |.neg => some (.un .neg x)
 |.xor => some (.un .xor x)
 |.plus => none
def cConv (s d : TypeId) (x : X) : Option I := match P.underlying s,P.underlying d with
 |some (.int _),some (.int k) => some (.cv k x)
 |some (.slice e),some .string => cond (isU8 P e) (some (.b2s x)) none
 |some .string,some (.slice e) => cond (isU8 P e) (some (.s2b e x)) none
 |_,_ => none
def cLoad (t : TypeId) (x : X) : Option I := match P.underlying t with
 |some d => cond (notAgg d) (some (.ld 1 false x)) (match tiE P t with | some (_,n,_) => some (.ld n true x) | none => none)
 |none => none
def cFa (s : TypeId) (i : Nat) (x : X) : Option I := match P.underlying s with
 |some (.struct fs) => (match fs[i]? with
  |some f => (match tiE P f.type with | some (_,n,_) => cond (Nat.beq n 0) none (some (.fa f.offset x)) | none => none)
  |none => none)
 |_ => none
def cFd (s : TypeId) (i : Nat) (x : X) : Option I := match P.underlying s with
 |some (.struct fs) => (match fs[i]? with
  |some f => (match P.underlying f.type with | some d => cond (notAgg d) (some (.fd f.offset 1 false x)) none | none => none)
  |none => none)
 |_ => none
def cIa (t : TypeId) (x y : X) : Option I := match P.underlying t with
 |some (.slice e) => (match tiE P e with | some (_,n,_) => some (.ia n x y) | none => none)
 |some (.array k e) => (match tiE P e with | some (_,n,_) => some (.ip n k x y) | none => none)
 |_ => none
def cIx (t : TypeId) (x y : X) : Option I := match P.underlying t with
 |some .string => some (.sx x y)
 |some (.array k e) => (match P.underlying e,tiE P e with
  |some d,some (_,1,_) => cond (notAgg d) (some (.ix k 1 false x y)) none
  |_,_ => none)
 |_ => none
def cSl (t : TypeId) (x : X) (lo hi : Option X) (mx : Option Operand) (mx' : Option X) : Option I := match P.underlying t with
 |some .string => (match mx with | none => some (.sls x lo hi) | some _ => none)
 |some (.slice e) => (match tiE P e with | some (_,n,_) => cond (mx'.isSome && hi.isNone) none (some (.slc n x lo hi mx')) | none => none)
 |_ => none
def cMks (t : TypeId) (x y : X) : Option I := match P.underlying t with
 |some (.slice e) => (match zcE P e with | some (l,n,b) => cond (Nat.ble b 1048576 && Nat.ble n 256 && Nat.blt 0 n) (some (.mks e n l x y)) none | none => none)
 |_ => none
def placeE (t : TypeId) : Option (Nat → Option (Nat × Nat)) := match P.underlying t with
 |some (.struct fs) => (fs.toList.mapM fun (f : Field) => (P.info? f.type).map fun i => (f.offset,i.size)).map fun pl => (pl.toArray[·]?)
 |some (.array _ e) => (P.info? e).map fun ie i => some (i * ie.size,ie.size)
 |_ => none
def cBld (t : TypeId) (ps : List (Nat × Operand)) : Option I := match placeE P t,zcE P t with
 |some place,some (l,_,_) => (cPs G place ps).map (.bld l)
 |_,_ => none
def cBsl (t : TypeId) (n : Nat) (ps : List (Nat × Operand)) : Option I := match P.underlying t with
 |some (.slice e) => (match n,ps with
  |0,[] => (match tiE P e with | some (_,_,_) => some (.bsl e 1 0 [] []) | none => none)
  |n,ps => (match zcE P e with
   |some (l,s,_) => cond (Nat.blt 0 s && Nat.blt 0 n && Nat.ble (n * s) 16777216) ((cPs G (fun i => some (i * s,s)) ps).map (.bsl e s n (repl l n))) none
   |none => none))
 |_ => none
end
section
variable {P : Program} {G : Nat} {dst : Option Nat} {ty : TypeId} {pos : String} {after : Array Edge} {guard : Option (Nat × Bool)}
section
variable [Tx]
theorem cBin_ok {op : BinOp} {t yt : TypeId} {x y : Operand} {x' y' : X} {i : I} (hx : XR G x x') (hy : XR G y y') (h : cBin P op t x' y' = some i) : OK P G ⟨dst,.binOp op t x y yt,ty,pos,after,guard⟩ i := by
 unfold cBin at h
 split at h
 ·injection h with h; subst h; exact .ofV (V_bin hx hy) (by simp [kindI])
 ·injection h with h; subst h; exact .ofV (V_bin hx hy) (by simp [kindI])
 ·rename_i ht
  split at h
  ·injection h with h; subst h; exact .ofV (V_bq (neg := false) ht hx hy) (by simp [kindI])
  ·injection h with h; subst h; exact .ofV (V_bq (neg := true) ht hx hy) (by simp [kindI])
  ·cases h
 ·rename_i e ht
  have hp : P.pointee t = e := by simp [Program.pointee,ht]
  split at h
  ·rename_i z n b h1
   cases hb : Nat.beq n 0 with
   |true => rw [hb] at h; cases h
   |false =>
    rw [hb] at h
    replace h : (match (generalizing := false) op with | .eql => some (I.pq false x' y') | .neq => some (.pq true x' y') | _ => none) = some i := h
    have h0 : n ≠ 0 := fun e => by subst e; cases hb
    have hti := tiE_ok h1
    subst hp
    split at h
    ·injection h with h; subst h; exact .ofV (V_pq (neg := false) ht hti h0 hx hy) (by simp [kindI])
    ·injection h with h; subst h; exact .ofV (V_pq (neg := true) ht hti h0 hx hy) (by simp [kindI])
    ·cases h
  ·cases h
 ·rename_i e ht
  split at h
  ·injection h with h; subst h; exact .ofV (V_sq (neg := false) ht hx hy) (by simp [kindI])
  ·injection h with h; subst h; exact .ofV (V_sq (neg := true) ht hx hy) (by simp [kindI])
  ·cases h
 ·rename_i fs ht
  have hf : P.fieldsOf t = fs := by simp [Program.fieldsOf,ht]
  cases hb : (P.eqGuardType P.depth t || P.stoodInHeld t) with
  |true => rw [hb] at h; cases h
  |false =>
   rw [hb] at h
   simp only [Bool.or_eq_false_iff] at hb
   replace h : (match kdsOf P fs.toList 0 with
    |some ks => (match (generalizing := false) op with | .eql => some (I.aeq false ks x' y') | .neq => some (.aeq true ks x' y') | _ => none)
    |none => none) = some i := h
   split at h
   ·rename_i ks hk
    subst hf
    split at h
    ·injection h with h; subst h; exact .ofV (V_aeq (neg := false) hb.1 ht hb.2 hk hx hy) (by simp [kindI])
    ·injection h with h; subst h; exact .ofV (V_aeq (neg := true) hb.1 ht hb.2 hk hx hy) (by simp [kindI])
    ·cases h
   ·cases h
 ·cases h
theorem cUn_ok {op : UnOp} {t : TypeId} {x : Operand} {x' : X} {i : I} (hx : XR G x x') (h : cUn op x' = some i) : OK P G ⟨dst,.unOp op t x,ty,pos,after,guard⟩ i := by
 unfold cUn at h
 split at h
 ·injection h with h; subst h; exact .ofV (V_not hx) (by simp [kindI])
 ·injection h with h; subst h; exact .ofV (V_neg hx) (by simp [kindI])
 ·injection h with h; subst h; exact .ofV (V_cpl hx) (by simp [kindI])
 ·cases h
end
theorem cond_none {α : Type} {b : Bool} {x y : α} (h : cond b none (some x) = some y) : b = false ∧ x = y := by
 cases b with
 |false => injection h with h; exact ⟨rfl,h⟩
 |true => cases h
section
variable [Tx]
theorem cConv_ok {s d : TypeId} {x : Operand} {x' : X} {i : I} (hx : XR G x x') (h : cConv P s d x' = some i) : OK P G ⟨dst,.convert s d x,ty,pos,after,guard⟩ i := by
 unfold cConv at h
 split at h
 ·rename_i h1 h2
  injection h with h; subst h
  exact .ofV (V_conv (by rw [h1]; rfl) h2 hx) (by simp [kindI])
 ·rename_i e h1 h2
  obtain ⟨hb,rfl⟩ := cond_some h
  exact .ofV (V_b2s h1 (isU8_ok hb) h2 hx) (by simp [kindI])
 ·rename_i e h1 h2
  obtain ⟨hb,rfl⟩ := cond_some h
  exact .ofA (A_s2b h1 h2 (isU8_ok hb) hx) (by simp [kindI])
 ·cases h
theorem cLoad_ok {t : TypeId} {x : Operand} {x' : X} {i : I} (hx : XR G x x') (h : cLoad P t x' = some i) : OK P G ⟨dst,.load t x,ty,pos,after,guard⟩ i := by
 unfold cLoad at h
 split at h
 ·rename_i d hd
  cases hb : notAgg d with
  |true => rw [hb] at h; injection h with h; subst h; exact .ofV (V_load1 hd hb hx) (by simp [kindI])
  |false =>
   rw [hb] at h
   replace h : (match tiE P t with | some (_,n,_) => some (I.ld n true x') | none => none) = some i := h
   split at h
   ·rename_i h1
    injection h with h; subst h
    exact .ofV (V_loadN hd hb (tiE_ok h1) hx) (by simp [kindI])
   ·cases h
 ·cases h
end
theorem beq_ne {n m : Nat} (h : Nat.beq n m = false) : n ≠ m := fun e => by subst e; rw [Nat.beq_refl] at h; cases h
section
variable [Tx]
theorem cFa_ok {s : TypeId} {j : Nat} {x : Operand} {x' : X} {i : I} (hx : XR G x x') (h : cFa P s j x' = some i) : OK P G ⟨dst,.fieldAddr s x j,ty,pos,after,guard⟩ i := by
 unfold cFa at h
 split at h
 ·rename_i fs hu
  split at h
  ·rename_i f hf
   split at h
   ·rename_i z n b h1
    obtain ⟨hb,rfl⟩ := cond_none h
    exact .ofV (V_fieldAddr hu hf (tiE_ok h1) (beq_ne hb) rfl hx) (by simp [kindI])
   ·cases h
  ·cases h
 ·cases h
theorem cFd_ok {s : TypeId} {j : Nat} {x : Operand} {x' : X} {i : I} (hx : XR G x x') (h : cFd P s j x' = some i) : OK P G ⟨dst,.field s x j,ty,pos,after,guard⟩ i := by
 unfold cFd at h
 split at h
 ·rename_i fs hu
  split at h
  ·rename_i f hf
   split at h
   ·rename_i d hd
    obtain ⟨hb,rfl⟩ := cond_some h
    exact .ofV (V_field hu hf hd hb rfl hx) (by simp [kindI])
   ·cases h
  ·cases h
 ·cases h
theorem cIa_ok {t : TypeId} {x y : Operand} {x' y' : X} {i : I} (hx : XR G x x') (hy : XR G y y') (h : cIa P t x' y' = some i) : OK P G ⟨dst,.indexAddr t x y,ty,pos,after,guard⟩ i := by
 unfold cIa at h
 split at h
 ·rename_i e hu
  split at h
  ·rename_i h1
   injection h with h; subst h
   exact .ofV (V_indexAddr hu (tiE_ok h1) hx hy) (by simp [kindI])
  ·cases h
 ·rename_i k e hu
  split at h
  ·rename_i h1
   injection h with h; subst h
   exact .ofV (V_indexAddrA hu (tiE_ok h1) hx hy) (by simp [kindI])
  ·cases h
 ·cases h
theorem cIx_ok {t : TypeId} {x y : Operand} {x' y' : X} {i : I} (hx : XR G x x') (hy : XR G y y') (h : cIx P t x' y' = some i) : OK P G ⟨dst,.index t x y,ty,pos,after,guard⟩ i := by
 unfold cIx at h
 split at h
 ·rename_i hu
  injection h with h; subst h
  exact .ofV (V_sindex (es := 0) (g := false) hu hx hy) (by simp [kindI])
 ·rename_i k e hu
  split at h
  ·rename_i d z b h1 h2
   obtain ⟨hb,rfl⟩ := cond_some h
   exact .ofV (V_aindex hu h1 hb (tiE_ok h2) hx hy) (by simp [kindI])
  ·cases h
 ·cases h
theorem cSl_ok {t : TypeId} {x : Operand} {x' : X} {lo hi mx : Option Operand} {lo' hi' mx' : Option X} {i : I} (hx : XR G x x') (hl : XRo G lo lo') (hh : XRo G hi hi') (hm : XRo G mx mx') (h : cSl P t x' lo' hi' mx mx' = some i) : OK P G ⟨dst,.slice t x lo hi mx,ty,pos,after,guard⟩ i := by
 unfold cSl at h
 split at h
 ·rename_i hu
  split at h
  ·injection h with h; subst h
   exact .ofV (V_sls hu hx hl hh) (by simp [kindI])
  ·cases h
 ·rename_i e hu
  split at h
  ·rename_i h1
   obtain ⟨hb,rfl⟩ := cond_none h
   refine .ofV (V_slc hu (tiE_ok h1) (fun hs => ?_) hx hl hh hm) (by simp [kindI])
   cases mx with
   |none => cases hs
   |some m =>
    cases mx' with
    |none => exact hm.elim
    |some m' =>
     cases hi with
     |some _ => rfl
     |none =>
      cases hi' with
      |none => cases hb
      |some _ => exact hh.elim
  ·cases h
 ·cases h
theorem cMks_ok {t : TypeId} {x y : Operand} {x' y' : X} {i : I} (hx : XR G x x') (hy : XR G y y') (h : cMks P t x' y' = some i) : OK P G ⟨dst,.makeSlice t x y,ty,pos,after,guard⟩ i := by
 unfold cMks at h
 split at h
 ·rename_i e hu
  split at h
  ·rename_i l n b h1
   obtain ⟨hb,rfl⟩ := cond_some h
   simp only [Bool.and_eq_true,Nat.ble_eq,Nat.blt_eq] at hb
   obtain ⟨z,z1,z2,z3,_⟩ := zcE_ok h1
   exact .ofA (A_mks hu z1 z2 z3 hb.1.1 hb.1.2 hb.2 hx hy) (by simp [kindI])
  ·cases h
 ·cases h
theorem cBld_ok {t : TypeId} {ps : List (Nat × Operand)} {i : I} (h : cBld P G t ps = some i) : OK P G ⟨dst,.build t ps.toArray,ty,pos,after,guard⟩ i := by
 unfold cBld at h
 split at h
 ·rename_i place l n b h1 h2
  obtain ⟨qs,h3,rfl⟩ := Option.map_eq_some_iff.1 h
  obtain ⟨z,⟨it,hi,hz0,_,_⟩,z2,z3,_⟩ := zcE_ok h2
  refine .ofV (V_bld (z := z) (fun vs => ?_) z2 (cPs_ok h3)) (by simp [kindI])
  unfold placeE at h1
  unfold Program.built
  rw [hi]
  split at h1
  ·rename_i fs hu
   rw [hu]
   obtain ⟨pl,h4,rfl⟩ := Option.map_eq_some_iff.1 h1
   simp only [hz0,h4]
  ·rename_i k e hu
   rw [hu]
   obtain ⟨ie,h4,rfl⟩ := Option.map_eq_some_iff.1 h1
   simp only [hz0,h4]
  ·cases h1
 ·cases h
theorem cBsl_ok {t : TypeId} {n : Nat} {ps : List (Nat × Operand)} {i : I} (h : cBsl P G t n ps = some i) : OK P G ⟨dst,.buildSlice t n ps.toArray,ty,pos,after,guard⟩ i := by
 unfold cBsl at h
 split at h
 ·rename_i e hu
  split at h
  ·split at h
   ·rename_i h1
    injection h with h; subst h
    exact .ofA (A_bsl0 hu (tiE_ok h1)) (by simp [kindI])
   ·cases h
  ·split at h
   ·rename_i l s b h1
    cases hb : (Nat.blt 0 s && Nat.blt 0 n && Nat.ble (n * s) 16777216) with
    |false => rw [hb] at h; cases h
    |true =>
     rw [hb] at h
     obtain ⟨qs,h3,rfl⟩ := Option.map_eq_some_iff.1 h
     simp only [Bool.and_eq_true,Nat.ble_eq,Nat.blt_eq] at hb
     obtain ⟨z,z1,z2,z3,_⟩ := zcE_ok h1
     exact .ofA (A_bsl hu z1 z2 z3 hb.1.1 hb.2 hb.1.2 (cPs_ok h3)) (by simp [kindI])
   ·cases h
 ·cases h
end
end
end
end Ev
end
section
namespace Ev
set_option autoImplicit false
section
variable {E : En} {H : AH} {w0 : W0} {w : World}
section
variable [Tx]
theorem HR.setMap (h : HR E H w0 w) {b B S cl cl' : Nat} {es es' : List (List AC × AC × Nat)} {ms' : List MapEntry} (hg : H.get b = some (.map es cl)) (he : E b = some (B,S)) (hm : All2 (entR E) es' ms') :
  HR E (H.set b (.map es' cl')) w0 { w with heap := w.heap.setIfInBounds B (.map ms'.toArray cl') } := by
 obtain ⟨hB,ms,hb,_⟩ := h.mp b es cl B S hg he
 have hlt := (Array.getElem?_eq_some_iff.1 hb).1
 have hc : Chg [B] w { w with heap := w.heap.setIfInBounds B (.map ms'.toArray cl') } := ⟨rfl,rfl,rfl,by simp,fun i _ hi => by simp [Ne.symm (show i ≠ B by simpa using hi)]⟩
 have hch : Kept w0 { w with heap := w.heap.setIfInBounds B (.map ms'.toArray cl') } := Kept.fresh h.ch hc (by simpa using hB)
 have keep : ∀ {B' : Nat} {o : Obj},B' ≠ B → w.heap[B']? = some o → (w.heap.setIfInBounds B (.map ms'.toArray cl'))[B']? = some o := fun hne hb' => by
  rw [Array.getElem?_setIfInBounds_ne (Ne.symm hne)]; exact hb'
 have hget : ∀ x,(H.set b (.map es' cl')).get x = if x = b then some (.map es' cl') else H.get x := fun x => AH.get_set _ _ _ _
 have hatx : ∀ x,x ≠ b → (H.set b (.map es' cl')).at x = H.at x := fun x hx => by unfold AH.at; rw [hget,if_neg hx]; rfl
 have hatb : (H.set b (.map es' cl')).at b = none := by unfold AH.at; rw [hget,if_pos rfl]
 have hbn : H.at b = none := by unfold AH.at; rw [hg]
 have hlv : ∀ x,live (H.set b (.map es' cl')) x → live H x := fun x hl => by
  by_cases hx : x = b
  ·subst hx; exact .inr ⟨es,cl,hg⟩
  ·rcases hl with hl | ⟨es2,c2,hl⟩
   ·rw [hatx x hx] at hl; exact .inl hl
   ·rw [hget,if_neg hx] at hl; exact .inr ⟨es2,c2,hl⟩
 have hap : ∀ {x : Nat} {p : Nat × Nat},x ≠ b → E x = some p → live H x → p.1 ≠ B := fun {x p} hx hp hl e => by
  obtain ⟨f,e',T1,c1,T2,c2,h1,_⟩ := h.inj b x B S p.2 (Ne.symm hx) he (by rw [hp,← e]) (.inr ⟨es,cl,hg⟩) hl
  rw [hbn] at h1; cases h1
 refine ⟨h.wp,hch,h.dom,fun x o hx => ?_,h.fkey,fun x T c f e hx => ?_,fun x T c f e hx => ?_,fun x T c l B1 S1 hx hp => ?_,fun x es1 cl1 B1 S1 hx hp => ?_,fun x y B1 S1 S2 hxy hp hq hl1 hl2 => ?_,fun x v B1 S1 hx hp => by
  have hxb : x ≠ b := fun e => by subst e; rw [hget,if_pos rfl] at hx; cases hx
  rw [hget,if_neg hxb] at hx
  exact (h.ls x v B1 S1 hx hp).chg (Ne.symm hxb) he hc⟩
 ·rw [hget] at hx
  by_cases hxb : x = b
  ·subst hxb; exact h.key _ _ hg
  ·rw [if_neg hxb] at hx; exact h.key _ _ hx
 ·rw [hget] at hx
  by_cases hxb : x = b
  ·rw [if_pos hxb] at hx; cases hx
  ·rw [if_neg hxb] at hx; exact h.bf x T c f e hx
 ·have hxb : x ≠ b := fun e => by subst e; rw [hatb] at hx; cases hx
  rw [hatx x hxb] at hx
  obtain ⟨q,T',c',h1,h2,h3⟩ := h.las x T c f e hx
  have hq : q ≠ b := fun e => by subst e; rw [hbn] at h2; cases h2
  exact ⟨q,T',c',h1,by rw [hatx q hq]; exact h2,h3⟩
 ·have hxb : x ≠ b := fun e => by subst e; rw [hatb] at hx; cases hx
  rw [hatx x hxb] at hx
  obtain ⟨C,T',fz,h1,h2⟩ := h.cel x T c l B1 S1 hx hp
  exact ⟨C,T',fz,keep (hap hxb hp (.inl (by rw [hx]; rfl))) h1,h2⟩
 ·rw [hget] at hx
  by_cases hxb : x = b
  ·subst hxb
   rw [if_pos rfl] at hx; injection hx with hx; injection hx with e1 e2; subst e1; subst e2
   rw [he] at hp; injection hp with hp; injection hp with e1 e2; subst e1
   exact ⟨hB,ms',by simp [hlt],hm⟩
  ·rw [if_neg hxb] at hx
   obtain ⟨h0,ms1,h1,h2⟩ := h.mp x es1 cl1 B1 S1 hx hp
   exact ⟨h0,ms1,keep (hap hxb hp (.inr ⟨es1,cl1,hx⟩)) h1,h2⟩
 ·obtain ⟨f,e,T,c,T',c',h1,h2⟩ := h.inj x y B1 S1 S2 hxy hp hq (hlv x hl1) (hlv y hl2)
  have hxb : x ≠ b := fun e => by subst e; rw [hbn] at h1; cases h1
  have hyb : y ≠ b := fun e => by subst e; rw [hbn] at h2; cases h2
  exact ⟨f,e,T,c,T',c',by rw [hatx x hxb]; exact h1,by rw [hatx y hyb]; exact h2⟩
end
theorem map_keeps {b B S cl cl' : Nat} {es es' : List (List AC × AC × Nat)} (_ : H.get b = some (.map es cl)) (he : E b = some (B,S)) : Keeps E H (H.set b (.map es' cl')) :=
 ⟨Nat.le_refl _,fun x _ hx => (AH.get_set _ _ _ _).trans (if_neg fun e => by subst e; rw [he] at hx; cases hx)⟩
end
section
variable [Tx]
structure MK (P : Program) (t kt et : TypeId) (ks : List Kd) (z : AC) : Prop where
 mu : P.underlying t = some (.map kt et)
 ku : P.underlying kt = some (.struct (P.fieldsOf kt))
 ks : kdsOf P (P.fieldsOf kt).toList 0 = some ks
 hg : P.eqGuardType P.depth kt = false
 hp : P.stoodInHeld kt = false
 zero : ∃ (u : Value) (n b : Nat),TI P et u n b ∧ ∀ E,z.v E u
end
section
variable {P : Program} {E : En} {w : World}
theorem kdsOf_fields : ∀ {fs : List Field} {o : Nat} {ks : List Kd},kdsOf P fs o = some ks → ks.length = fs.length ∧ ∀ f ∈ fs,f.name ≠ "_" ∧ f.offset < o + fs.length ∧ ∃ d,P.underlying f.type = some d ∧ (d = .string ∨ d = .bool ∨ ∃ k,d = .int k)
 |[],o,ks,h => by injection h with h; subst h; exact ⟨rfl,fun f hf => by cases hf⟩
 |f :: fs,o,ks,h => by
  unfold kdsOf at h
  split at h
  ·rename_i k r h1 h2
   obtain ⟨hb,rfl⟩ := cond_some h
   simp only [Bool.and_eq_true,Bool.not_eq_true',beq_eq_false_iff_ne] at hb
   obtain ⟨i1,i2⟩ := kdsOf_fields h2
   refine ⟨by simp [i1],fun g hg => ?_⟩
   rcases List.mem_cons.1 hg with rfl | hg
   ·refine ⟨hb.2,by have := Nat.eq_of_beq_eq_true hb.1; simp; omega,?_⟩
    unfold kdOf at h1
    split at h1
    ·rename_i hd; exact ⟨_,hd,.inl rfl⟩
    ·rename_i hd; exact ⟨_,hd,.inr (.inl rfl)⟩
    ·rename_i k hd; exact ⟨_,hd,.inr (.inr ⟨k,rfl⟩)⟩
    ·cases h1
   ·obtain ⟨j1,j2,j3⟩ := i2 g hg
    exact ⟨j1,by simp; omega,j3⟩
  ·cases h
section
variable [Tx]
theorem key_ok {t kt et : TypeId} {ks : List Kd} {z : AC} (hm : MK P t kt et ks z) (em : Bool) {cs : List Value} (hl : cs.length = ks.length) (n : Nat) : (Instr.checkKey em ((n + 1) + 1) kt (.agg cs.toArray)).run P w = .ok () w := by
 obtain ⟨k1,k2⟩ := kdsOf_fields hm.ks
 rw [Instr.checkKey]
 simp only [Sem.run_bind,run_underlying hm.ku,Result.andThen_ok]
 rw [← Array.forIn_toList]
 have all : ∀ f ∈ (P.fieldsOf kt).toList,f.name ≠ "_" ∧ f.offset < cs.length ∧ ∃ d,P.underlying f.type = some d ∧ (d = .string ∨ d = .bool ∨ ∃ k,d = .int k) := fun f hf => by
  obtain ⟨j1,j2,j3⟩ := k2 f hf
  exact ⟨j1,by omega,j3⟩
 generalize (P.fieldsOf kt).toList = L at all
 induction L with
 |nil => simp
 |cons f L ih =>
  obtain ⟨j1,j2,d,j3,j4⟩ := all f (by simp)
  have hn : notAgg d = true := by rcases j4 with rfl | rfl | ⟨k,rfl⟩ <;> rfl
  have p1 : (part f.type cs.toArray f.offset).run P w = .ok cs[f.offset] w := run_part1 j3 hn (by simp [j2]) w
  have p2 : (Instr.checkKey em (n + 1) f.type cs[f.offset]).run P w = .ok () w := by
   rw [Instr.checkKey]
   simp only [Sem.run_bind,run_underlying j3,Result.andThen_ok]
   rcases j4 with rfl | rfl | ⟨k,rfl⟩ <;> simp
  simp only [List.forIn_cons,Sem.run_bind,j1,ne_eq,not_false_eq_true,if_true,Result.andThen_ok,p1,p2,Sem.run_pure]
  exact ih fun f hf => all f (by simp [hf])
theorem key_ask {t kt et : TypeId} {ks : List Kd} {z : AC} (hm : MK P t kt et ks z) {l : List AC} {cs : List Value} (hk : ACs E l cs) : ∀ {es : List (List AC × AC × Nat)} {ms : List MapEntry} {r : Option (AC × Nat)} (i : Nat),All2 (entR E) es ms → mfind ks es l = some r →
  ∃ q,(Instr.findAsking kt (.agg cs.toArray) ms i).run P w = .ok q w ∧ (match (generalizing := false) r with | none => q = none | some (x,_) => ∃ j u,q = some (j,u) ∧ x.v E u)
 |[],[],r,i,.nil,h => by
  injection h with h; subst h
  exact ⟨none,by simp [Instr.findAsking],rfl⟩
 |e :: es,m :: ms,r,i,.cons he ht,h => by
  replace h : (match ceqs ks l e.1 with
   |some true => some (some e.2)
   |some false => mfind ks es l
   |none => none) = some r := h
  obtain ⟨e1,e2,ys,e3,e4⟩ := he
  have eq : ∀ b,ceqs ks l e.1 = some b → (Op.equal kt (.agg cs.toArray) m.key).run P w = .ok b w := fun b hb => by
   rw [e3]
   have hfe := ceqs_fe hm.ks hb (xs := cs) (ys := ys) (by simpa using hk) (by simpa using e4)
   have := EqA.of hm.hg hm.ku hm.hp rfl hfe rfl
   exact this.2 w
  rw [Instr.findAsking]
  split at h
  ·rename_i hb
   injection h with h; subst h
   refine ⟨some (i,m.val),?_,?_⟩
   ·simp [eq _ hb,Result.andThen]
   ·exact ⟨i,m.val,rfl,e2⟩
  ·rename_i hb
   obtain ⟨q,q1,q2⟩ := key_ask hm hk (i + 1) ht h
   exact ⟨q,by simp [eq _ hb,q1,Result.andThen],q2⟩
  ·cases h
theorem key_find {t kt et : TypeId} {ks : List Kd} {z : AC} (hm : MK P t kt et ks z) {l : List AC} {cs : List Value} (hk : ACs E l cs) {es : List (List AC × AC × Nat)} {ms : List MapEntry} {r : Option (AC × Nat)} (ha : All2 (entR E) es ms) (h : mfind ks es l = some r) :
  ∃ q,(Instr.findKey kt (.agg cs.toArray) ms).run P w = .ok q w ∧ (match (generalizing := false) r with | none => q = none | some (x,_) => ∃ j u,q = some (j,u) ∧ x.v E u) := by
 rw [Instr.findKey]
 simp only [Sem.run_bind,run_underlying hm.ku,Result.andThen_ok]
 cases ms with
 |nil =>
  cases ha
  injection h with h; subst h
  exact ⟨none,by simp [Instr.findNow],rfl⟩
 |cons m ms =>
  have hn : Instr.findNow (.struct (P.fieldsOf kt)) (.agg cs.toArray) (m :: ms) 0 = none := rfl
  rw [hn]
  exact key_ask hm hk 0 ha h
end
theorem mget_eq {H : AH} {ks : List Kd} {b : Nat} {l : List AC} {r : Option (AC × Nat)} (h : mget ks H b l = some r) : l.length = ks.length ∧ ∃ es c,H.get b = some (.map es c) ∧ mfind ks es l = some r := by
 unfold mget at h
 cases hb : Nat.beq l.length ks.length with
 |false => rw [hb] at h; cases h
 |true =>
  rw [hb] at h
  replace h : (match H.get b with | some (.map es _) => mfind ks es l | _ => none) = some r := h
  split at h
  ·rename_i es c hg
   exact ⟨Nat.eq_of_beq_eq_true hb,es,c,hg,h⟩
  ·cases h
end
section
variable {P : Program} {ρ : Operand → Value} {w w' : World} {dst : Option Nat} {ty : TypeId} {pos : String} {after : Array Edge} {guard : Option (Nat × Bool)}
theorem r_mapEntry' {t : TypeId} {m k : Operand} {v1 v2 v : Value} (hm : ρ m = v1) (hk : ρ k = v2) (hr : (Instr.mapEntry t v1 v2).run P w = .ok v w') : (execOp ρ ⟨dst,.mapEntry t m k,ty,pos,after,guard⟩).run P w = .ok (.value v) w' := by
 simp [execOp,hm,hk,hr]
theorem r_entryStore' {t : TypeId} {m k x : Operand} {v1 v2 v3 : Value} (hm : ρ m = v1) (hk : ρ k = v2) (hx : ρ x = v3) (hr : (Instr.entryStore t v1 v2 v3).run P w = .ok () w') : (execOp ρ ⟨dst,.entryStore t m k x,ty,pos,after,guard⟩).run P w = .ok .skip w' := by
 simp [execOp,hm,hk,hx,hr]
end
section
variable {P : Program} {G : Nat} {dst : Option Nat} {ty : TypeId} {pos : String} {after : Array Edge} {guard : Option (Nat × Bool)}
section
variable [Tx]
theorem run_lookupM {E : En} {w : World} {t kt et B : Nat} {ks : List Kd} {z : AC} (hm : MK P t kt et ks z) (ok : Bool) {l : List AC} {cs : List Value} (hk : ACs E l cs) (hl : l.length = ks.length) {es : List (List AC × AC × Nat)} {ms : List MapEntry} {c : Nat} {r : Option (AC × Nat)} (hb : w.heap[B]? = some (.map ms.toArray c)) (ha : All2 (entR E) es ms) (h : mfind ks es l = some r) :
  ∃ u,(Instr.lookup t (.map (some B)) (.agg cs.toArray) ok).run P w = .ok (if ok = true then .tuple #[u,.bool r.isSome] else u) w ∧ ((r.map (·.1)).getD z).v E u := by
 obtain ⟨q,q1,q2⟩ := key_find (w := w) hm hk ha h
 obtain ⟨zu,zn,zb,z1,z2⟩ := hm.zero
 have hck := key_ok (w := w) hm ms.toArray.isEmpty (cs := cs) (by rw [All2.length hk,hl]) 9998
 cases r with
 |none =>
  have q2 : q = none := q2
  subst q2
  refine ⟨zu,?_,z2 E⟩
  simp only [Instr.lookup,Sem.run_bind,run_underlying hm.mu,Go.MapKept.run_getObj_map hb,Result.andThen_ok,Sem.run_pure,hck,q1,z1.zeroValue]
  rfl
 |some x =>
  obtain ⟨j,u,q3,q4⟩ : ∃ j u,q = some (j,u) ∧ x.1.v E u := q2
  subst q3
  refine ⟨u,?_,q4⟩
  simp only [Instr.lookup,Sem.run_bind,run_underlying hm.mu,Go.MapKept.run_getObj_map hb,Result.andThen_ok,Sem.run_pure,hck,q1]
  rfl
theorem V_lkp {t kt et : TypeId} {ks : List Kd} {z : AC} {x y : Operand} {x' y' : X} (hm : MK P t kt et ks z) (hx : XR G x x') (hy : XR G y y') : OpV P G ⟨dst,.lookup t x y false,ty,pos,after,guard⟩ (.lkp ks z x' y') := by
 intro E H w0 w a L run v H' hG hH hF h
 replace h : (match evX L x',evX L y' with | some (.c (.m (some b))),some (.a l) => (match mget ks H b l with | some (some (v,_)) => some (AV.c v,H) | some none => some (.c z,H) | none => none) | _,_ => none) = some (v,H') := h
 split at h
 ·rename_i b l h1 h2
  obtain ⟨B,S,e1,e2⟩ := hx hG hF h1
  obtain ⟨cs,g1,g2⟩ := hy hG hF h2
  have go : ∀ r,mget ks H b l = some r → ∃ u,(execOp a.eval ⟨dst,.lookup t x y false,ty,pos,after,guard⟩).run P w = .ok (.value u) w ∧ ((r.map (·.1)).getD z).v E u := fun r hr => by
   obtain ⟨k1,es,c,k2,k3⟩ := mget_eq hr
   obtain ⟨_,ms,m1,m2⟩ := hH.mp b es c B S k2 e1
   obtain ⟨u,u1,u2⟩ := run_lookupM (P := P) (w := w) hm false g2 k1 m1 m2 k3
   exact ⟨u,r_lookup e2 g1 (by simpa using u1),u2⟩
  split at h
  ·rename_i v' n hr
   injection h with h; injection h with h3 h4; subst h3
   obtain ⟨u,u1,u2⟩ := go _ hr
   exact ⟨h4.symm,u,u1,u2⟩
  ·rename_i hr
   injection h with h; injection h with h3 h4; subst h3
   obtain ⟨u,u1,u2⟩ := go _ hr
   exact ⟨h4.symm,u,u1,u2⟩
  ·cases h
 ·cases h
theorem S_men {t kt et : TypeId} {ks : List Kd} {z : AC} {x y : Operand} {x' y' : X} (hm : MK P t kt et ks z) (hx : XR G x x') (hy : XR G y y') : OpS P G ⟨dst,.mapEntry t x y,ty,pos,after,guard⟩ (.men ks z x' y') := by
 intro E H w0 w a L run v H' _ hG hH hF h
 replace h : (match evX L x',evX L y' with | some (.c (.m (some b))),some (.a l) => (match H.get b with | some (.map es c) => (match mget ks H b l with | some none => some (AV.t [(false,[z]),(false,[.i .i64 (.ofNat c)])],H.set b (.map (es ++ [(l,z,c)]) (Nat.succ c))) | _ => none) | _ => none) | _,_ => none) = some (v,H') := h
 split at h
 ·rename_i b l h1 h2
  obtain ⟨B,S,e1,e2⟩ := hx hG hF h1
  obtain ⟨cs,g1,g2⟩ := hy hG hF h2
  split at h
  ·rename_i es c hg
   split at h
   ·rename_i hr
    injection h with h; injection h with h3 h4; subst h3; subst h4
    obtain ⟨k1,es',c',k2,k3⟩ := mget_eq hr
    rw [hg] at k2; injection k2 with k2; injection k2 with i1 i2; subst i1; subst i2
    obtain ⟨_,ms,m1,m2⟩ := hH.mp b es c B S hg e1
    obtain ⟨q,q1,q2⟩ := key_find (w := w) hm g2 m2 k3
    have q2 : q = none := q2
    subst q2
    obtain ⟨zu,zn,zb,z1,z2⟩ := hm.zero
    have hck := key_ok (w := w) hm false (cs := cs) (by rw [All2.length g2,k1]) 9998
    have hnew : All2 (entR E) (es ++ [(l,z,c)]) (ms ++ [⟨.agg cs.toArray,zu,c⟩]) := m2.append (All2.cons (show entR E (l,z,c) ⟨.agg cs.toArray,zu,c⟩ from ⟨rfl,z2 E,cs,rfl,g2⟩) .nil)
    refine ⟨map_keeps hg e1,.inl ⟨.tuple #[zu,.int .i64 (c : Int)],{ w with heap := w.heap.setIfInBounds B (.map (ms ++ [(⟨.agg cs.toArray,zu,c⟩ : MapEntry)]).toArray (c + 1)) },r_mapEntry' e2 g1 ?_,E,En.le_refl _,fun _ _ h => .inl h,hH.setMap hg e1 hnew,[zu,.int .i64 (c : Int)],rfl,.cons (show gV E false [z] zu from ⟨z,rfl,z2 E⟩) (.cons (show gV E false [.i .i64 (.ofNat c)] (.int .i64 (c : Int)) from ⟨_,rfl,rfl⟩) .nil)⟩⟩
    simp only [Instr.mapEntry,Sem.run_bind,run_underlying hm.mu,Go.MapKept.run_getObj_map m1,Result.andThen_ok,hck,q1,z1.zeroValue,Go.MapKept.run_setObj_map _ m1,Sem.run_pure]
    simp [goInt]
   ·cases h
  ·cases h
 ·cases h
theorem mset_ok {E : En} {n : Nat} {x : AC} {u : Value} (hu : x.v E u) : ∀ {es es' : List (List AC × AC × Nat)} {ms : List MapEntry},All2 (entR E) es ms → mset es n x = some es' → ∃ i,ms.findIdx? (fun e => (e.born : Int) == (n : Int)) = some i ∧ All2 (entR E) es' (ms.modify i fun e => { e with val := u })
 |[],es',_,.nil,h => by cases h
 |e :: es,es',m :: ms,.cons he ht,h => by
  replace h : (match Nat.beq e.2.2 n with | true => some ((e.1,x,n) :: es) | false => (match mset es n x with | some r' => some (e :: r') | none => none)) = some es' := h
  obtain ⟨e1,e2,e3⟩ := he
  cases hb : Nat.beq e.2.2 n with
  |true =>
   rw [hb] at h
   injection h with h; subst h
   have hn := Nat.eq_of_beq_eq_true hb
   refine ⟨0,?_,?_⟩
   ·rw [List.findIdx?_cons]; simp [e1,hn]
   ·rw [List.modify_zero_cons]
    exact .cons ⟨by show m.born = n; rw [e1,hn],hu,e3⟩ ht
  |false =>
   rw [hb] at h
   replace h : (match mset es n x with | some r' => some (e :: r') | none => none) = some es' := h
   split at h
   ·rename_i r' hr
    injection h with h; subst h
    obtain ⟨i,i1,i2⟩ := mset_ok hu ht hr
    have hn := beq_ne hb
    refine ⟨i + 1,?_,?_⟩
    ·rw [List.findIdx?_cons]
     have : ((m.born : Int) == (n : Int)) = false := by
      rw [e1]; simp only [beq_eq_false_iff_ne,ne_eq,Int.natCast_inj]; exact hn
     simp [this,i1]
    ·rw [List.modify_succ_cons]
     exact .cons ⟨e1,e2,e3⟩ i2
   ·cases h
theorem S_est {t : TypeId} {x y z : Operand} {x' y' z' : X} (hx : XR G x x') (hy : XR G y y') (hz : XR G z z') : OpS P G ⟨dst,.entryStore t x y z,ty,pos,after,guard⟩ (.est x' y' z') := by
 intro E H w0 w a L run v H' _ hG hH hF h
 replace h : (match evX L x',idx (evX L y'),evX L z' with | some (.c (.m (some b))),some n,some (.c v) => (match H.get b with | some (.map es c) => (match mset es n v with | some es' => some (AV.u,H.set b (.map es' c)) | none => none) | _ => none) | _,_,_ => none) = some (v,H') := h
 split at h
 ·rename_i b n v' h1 h2 h3
  obtain ⟨B,S,e1,e2⟩ := hx hG hF h1
  obtain ⟨k,hk⟩ := idx_eq h2
  have g1 : a.eval y = .int k (.ofNat n) := hy hG hF hk
  have g2 : v'.v E (a.eval z) := hz hG hF h3
  split at h
  ·rename_i es c hg
   split at h
   ·rename_i es' hs
    injection h with h; injection h with h4 h5; subst h4; subst h5
    obtain ⟨_,ms,m1,m2⟩ := hH.mp b es c B S hg e1
    obtain ⟨i,i1,i2⟩ := mset_ok g2 m2 hs
    have hmod : (ms.toArray.modify i fun e => { e with val := a.eval z }) = (ms.modify i fun e => { e with val := a.eval z }).toArray := by
     apply Array.ext'
     rw [Array.toList_modify]
    refine ⟨map_keeps hg e1,.inr (.inl ⟨{ w with heap := w.heap.setIfInBounds B (.map (ms.modify i fun e => { e with val := a.eval z }).toArray c) },r_entryStore' e2 g1 rfl ?_,rfl,E,En.le_refl _,fun _ _ h => .inl h,hH.setMap hg e1 i2,rfl⟩)⟩
    have hf' : ms.toArray.findIdx? (fun e => (e.born : Int) == (Int.ofNat n)) = some i := by simpa using i1
    simp only [Instr.entryStore,Sem.run_bind,Go.MapKept.run_getObj_map m1,Result.andThen_ok,asInt,asIntOf,Sem.run_pure,hf',hmod,Go.MapKept.run_setObj_map _ m1]
   ·cases h
  ·cases h
 ·cases h
theorem V_ustr {t u : TypeId} {x y : Operand} {x' y' : X} (hx : XR G x x') (hy : XR G y y') : OpV P G ⟨dst,.call { callee := .builtin .unsafeString,args := #[x,y],argTypes := #[t,u] },ty,pos,after,guard⟩ (.ustr x' y') := by
 intro E H w0 w a L run v H' hG hH hF h
 replace h : (match evX L x',evX L y' with | some (.c (.p _)),some (.c (.i .i64 (.ofNat 0))) => some (AV.c (.s []),H) | _,_ => none) = some (v,H') := h
 split at h
 ·rename_i p h1 h2
  injection h with h; injection h with h3 h4; subst h3
  obtain ⟨o,g1,_⟩ := isN_p (hx hG hF h1)
  have g2 : a.eval y = .int .i64 0 := hy hG hF h2
  refine ⟨h4.symm,.string .empty,?_,rfl,by simp⟩
  have := Lib.run_unsafeString_none (P := P) (w := w) t u ty o
  simp [execOp,resolve,invoke,builtin,g1,g2,this]
 ·cases h
end
end
noncomputable section
def mkOf (P : Program) (t : TypeId) : Option (List Kd × AC) := match P.underlying t with
 |some (.map kt et) => (match P.underlying kt with
  |some (.struct fs) => cond (P.eqGuardType P.depth kt || P.stoodInHeld kt) none (match kdsOf P fs.toList 0,tiE P et with
   |some ks,some (u,_,_) => (cC u).map fun z => (ks,z)
   |_,_ => none)
  |_ => none)
 |_ => none
section
variable [Tx]
theorem mkOf_ok {P : Program} {t : TypeId} {ks : List Kd} {z : AC} (h : mkOf P t = some (ks,z)) : ∃ kt et,MK P t kt et ks z := by
 unfold mkOf at h
 split at h
 ·rename_i kt et h1
  split at h
  ·rename_i fs h2
   have hf : P.fieldsOf kt = fs := by simp [Program.fieldsOf,h2]
   subst hf
   cases hb : (P.eqGuardType P.depth kt || P.stoodInHeld kt) with
   |true => rw [hb] at h; cases h
   |false =>
    rw [hb] at h
    simp only [Bool.or_eq_false_iff] at hb
    replace h : (match kdsOf P (P.fieldsOf kt).toList 0,tiE P et with | some ks,some (u,_,_) => (cC u).map fun z => (ks,z) | _,_ => none) = some (ks,z) := h
    split at h
    ·rename_i ks' u n b h3 h4
     obtain ⟨z',h5,h6⟩ := Option.map_eq_some_iff.1 h
     injection h6 with h6 h7; subst h6; subst h7
     exact ⟨kt,et,h1,h2,h3,hb.1,hb.2,u,n,b,tiE_ok h4,cC_v h5⟩
    ·cases h
  ·cases h
 ·cases h
def cUstr (_t : TypeId) (x y : X) : Option I := some (.ustr x y)
def cLkp (P : Program) (t : TypeId) (ok : Bool) (x y : X) : Option I := match ok,mkOf P t with
 |false,some (ks,z) => some (.lkp ks z x y)
 |_,_ => none
def cMen (P : Program) (t : TypeId) (x y : X) : Option I := match mkOf P t with
 |some (ks,z) => some (.men ks z x y)
 |_ => none
def cEst (_t : TypeId) (x y z : X) : Option I := some (.est x y z)
end
end
section
variable {P : Program} {G : Nat} {dst : Option Nat} {ty : TypeId} {pos : String} {after : Array Edge} {guard : Option (Nat × Bool)}
section
variable [Tx]
theorem cUstr_ok {t u : TypeId} {x y : Operand} {x' y' : X} {i : I} (hx : XR G x x') (hy : XR G y y') (h : cUstr t x' y' = some i) : OK P G ⟨dst,.call { callee := .builtin .unsafeString,args := #[x,y],argTypes := #[t,u] },ty,pos,after,guard⟩ i := by
 injection h with h; subst h
 exact .ofV (V_ustr hx hy) (by simp [kindI])
theorem cLkp_ok {t : TypeId} {ok : Bool} {x y : Operand} {x' y' : X} {i : I} (hx : XR G x x') (hy : XR G y y') (h : cLkp P t ok x' y' = some i) : OK P G ⟨dst,.lookup t x y ok,ty,pos,after,guard⟩ i := by
 unfold cLkp at h
 split at h
 ·rename_i ks z hm
  injection h with h; subst h
  obtain ⟨kt,et,hm⟩ := mkOf_ok hm
  exact .ofV (V_lkp hm hx hy) (by simp [kindI])
 ·cases h
theorem cMen_ok {t : TypeId} {x y : Operand} {x' y' : X} {i : I} (hx : XR G x x') (hy : XR G y y') (h : cMen P t x' y' = some i) : OK P G ⟨dst,.mapEntry t x y,ty,pos,after,guard⟩ i := by
 unfold cMen at h
 split at h
 ·rename_i ks z hm
  injection h with h; subst h
  obtain ⟨kt,et,hm⟩ := mkOf_ok hm
  exact .ofS (S_men hm hx hy) rfl
 ·cases h
theorem cEst_ok {t : TypeId} {x y z : Operand} {x' y' z' : X} {i : I} (hx : XR G x x') (hy : XR G y y') (hz : XR G z z') (h : cEst t x' y' z' = some i) : OK P G ⟨dst,.entryStore t x y z,ty,pos,after,guard⟩ i := by
 injection h with h; subst h
 exact .ofS (S_est hx hy hz) rfl
end
end
end Ev
end
section
namespace Ev
set_option autoImplicit false
noncomputable section
def mvX (op : Op) : Option Operand := match op with
 |.move x => some x
 |.assign x => some x
 |_ => none
def menT (t : Nat) : X → Bool
 |.t s => Nat.beq s.n t
 |.c _ => false
def killO (d : Option Slt) (σ : List (Nat × X)) : List (Nat × X) := match d with
 |some d => σ.filter fun p => !(Nat.beq p.1 d.n) && !(menT d.n p.2)
 |none => σ
def killN (d : Nat) (σ : List (Nat × X)) : List (Nat × X) := σ.filter fun p => !(Nat.beq p.1 d)
section
variable [Tx]
inductive OR (P : Program) (G : Nat) (n : Nz) (ops : Array Oper) : List (Nat × X) → List Oper → List R → Prop
 |nil {σ : List (Nat × X)} : OR P G n ops σ [] []
 |drop {σ : List (Nat × X)} {o : Oper} {l : List Oper} {rs : List R} {d : Nat} {x : Operand} {x' : X} (hop : mvX o.op = some x) (hg : o.guard = none) (hd : o.dst = some d) (hz : d ∈ n.Z) (hx : XR G x x') (hlt : d < n.n) (h : OR P G n ops ((d,subX σ x') :: killN d σ) l rs) : OR P G n ops σ (o :: l) rs
 |keep {σ : List (Nat × X)} {o : Oper} {l : List Oper} {r : R} {rs : List R} (hr : RR P G n ops o r) (hgd : ∀ t w,r.guard = some (t,w) → sfind σ t.n = none) (h : OR P G n ops (killO r.dst σ) l rs) : OR P G n ops σ (o :: l) (⟨r.dst,r.guard,subI σ r.i,[]⟩ :: rs)
def SInv (σ : List (Nat × X)) (E : En) (L : Fr) (a : Act) : Prop := ∀ d x,sfind σ d = some x → ∀ v,evX L x = some v → v.v E (a.tmps.getD d undef)
end
section
variable {P : Program} {G : Nat} {n : Nz} {E : En} {H H' : AH} {w0 : W0} {w : World} {a : Act} {L L' : Fr} {run : Run} {σ : List (Nat × X)}
section
variable [Tx]
def SAll (σ : List (Nat × X)) (E : En) (L : Fr) (a : Act) : Prop := ∀ p ∈ σ,∀ v,evX L p.2 = some v → v.v E (a.tmps.getD p.1 undef)
theorem SAll.inv (h : SAll σ E L a) : SInv σ E L a := by
 intro d x hs v hv
 have : ∀ {σ : List (Nat × X)},sfind σ d = some x → ∃ p ∈ σ,p.1 = d ∧ p.2 = x := fun {σ} hs => by
  induction σ with
  |nil => cases hs
  |cons p σ ih =>
   replace hs : cond (Nat.beq p.1 d) (some p.2) (sfind σ d) = some x := hs
   cases hb : Nat.beq p.1 d with
   |true => rw [hb] at hs; injection hs with hs; exact ⟨p,List.mem_cons_self ..,Nat.eq_of_beq_eq_true hb,hs⟩
   |false =>
    rw [hb] at hs
    obtain ⟨q,h1,h2⟩ := ih hs
    exact ⟨q,List.mem_cons_of_mem _ h1,h2⟩
 obtain ⟨p,h1,rfl,rfl⟩ := this hs
 exact h p h1 v hv
def subFr (σ : List (Nat × X)) (L : Fr) : List Nat → Fr
 |[] => Fr.nil
 |t :: S => match evX L (subX σ (.t (Slt.of t))) with
  |some v => putS (subFr σ L S) (Slt.of t) v
  |none => subFr σ L S
end
theorem subFr_mem {s : Slt} : ∀ {S : List Nat},s.n ∈ S → look s (subFr σ L S) = evX L (subX σ (.t s))
 |[],h => by cases h
 |t :: S,h => by
  unfold subFr
  by_cases hst : Slt.of t = s
  ·subst hst
   cases hs : evX L (subX σ (.t (Slt.of t))) with
   |some v =>
    show look (Slt.of t) (putS (subFr σ L S) (Slt.of t) v) = _
    rw [look_same]
   |none =>
    show look (Slt.of t) (subFr σ L S) = none
    have : ∀ S,look (Slt.of t) (subFr σ L S) = none := fun S => by
     induction S with
     |nil => exact look_nil _
     |cons r S ih =>
      unfold subFr
      cases hr : evX L (subX σ (.t (Slt.of r))) with
      |none => exact ih
      |some v =>
       show look (Slt.of t) (putS (subFr σ L S) (Slt.of r) v) = none
       rw [look_other _ (fun e => by rw [e,hr] at hs; cases hs)]; exact ih
    exact this S
  ·have hm : s.n ∈ S := (List.mem_cons.1 h).resolve_left fun e => hst (by rw [← e]; exact (Slt.of_n s).1)
   cases hs : evX L (subX σ (.t (Slt.of t))) with
   |none => exact subFr_mem hm
   |some v =>
    show look s (putS (subFr σ L S) (Slt.of t) v) = _
    rw [look_other _ (fun e => hst e.symm)]; exact subFr_mem hm
section
variable [Tx]
theorem sub_v (hF : FR E L a) (hS : SInv σ E L a) {s : Slt} {v : AV} (h : evX L (subX σ (.t s)) = some v) : v.v E (a.tmps.getD s.n undef) := by
 replace h : evX L (match sfind σ s.n with | some x => x | none => X.t s) = some v := h
 cases hs : sfind σ s.n with
 |none =>
  rw [hs] at h
  exact hF s.n v ((lookN_n s L).trans h)
 |some x =>
  rw [hs] at h
  exact hS s.n x hs v h
theorem subFr_fr (hF : FR E L a) (hS : SInv σ E L a) : ∀ S : List Nat,FR E (subFr σ L S) a
 |[] => fun t v hv => by
  have hv : lookN t Fr.nil = some v := hv
  rw [lookN_nil] at hv; cases hv
 |t :: S => by
  unfold subFr
  cases hs : evX L (subX σ (.t (Slt.of t))) with
  |none => exact subFr_fr hF hS S
  |some v =>
   intro t' v' hv
   replace hv : lookN t' (putS (subFr σ L S) (Slt.of t) v) = some v' := hv
   rw [lookN_put] at hv
   by_cases ht : t' = (Slt.of t).n
   ·rw [if_pos ht] at hv; injection hv with hv; subst hv; rw [ht]; exact sub_v hF hS hs
   ·rw [if_neg ht] at hv; exact subFr_fr hF hS S t' v' hv
theorem one_v (hG : GE G E) (hF : FR E L a) (hS : SInv σ E L a) {x : Operand} {x' : X} (hx : XR G x x') {v : AV} (h : evX L (subX σ x') = some v) : v.v E (a.eval x) := by
 have hfr := subFr_fr hF hS (xT x')
 refine hx hG hfr ?_
 rw [← h]
 exact evX_s fun s hs => subFr_mem hs
end
theorem put_ne {d t : Nat} {u : Value} (h : t ≠ d) : (a.put (some d) u).tmps.getD t undef = a.tmps.getD t undef := getD_setIfInBounds_ne _ _ _ _ _ fun e => h e.symm
section
variable [Tx]
theorem oregion_sound (hrun : RunOk P G run) {ops : Array Oper} {Q : Exit → Act → World → Prop} {ex : Ex} : ∀ {l : List Oper} {rs : List R} {σ : List (Nat × X)},OR P G n ops σ l rs → ∀ {E : En} {H : AH} {w : World} {a : Act} {L : Fr},SAll σ E L a → GE G E → HR E H w0 w → FrR E L n a → evR rs run L H = some (ex,L',H') → Keeps E H H' ∧ (Out G E H w0 n Q ex L' H' → wpList P ops Q l a w)
 |[],_,σ,.nil => by
  rename_i E H w a L
  intro _ hG hH hF h
  injection h with h; injection h with h1 h; injection h with h2 h3; subst h1; subst h2; subst h3
  exact ⟨Keeps.refl _ _,fun hQ => sq_end (hQ E a w (En.le_refl _) (fun _ _ h => .inl h) hH hF)⟩
 |o :: l,rs,σ,.drop (d := d) (x := x) (x' := x') hop hg hd hz hx hlt ht => by
  rename_i E H w a L
  intro hS hG hH hF h
  have hrunx : (execOp a.eval o).run P w = .ok (.value (a.eval x)) w := by
   obtain ⟨dst,op,ty,pos,after,guard⟩ := o
   have hop : mvX op = some x := hop
   unfold mvX at hop
   split at hop
   ·injection hop with hop; subst hop; exact r_move rfl
   ·injection hop with hop; subst hop; exact r_assign rfl
   ·cases hop
  have hw : Region.wanted o (yielded ops a.tmps) = true := by simp [Region.wanted,hg]
  have hzd := hF.nz d hz
  have hne : ∀ {t v},lookN t L = some v → t ≠ d := fun hv e => by subst e; rw [hzd] at hv; cases hv
  have hF' : FrR E L n (a.put o.dst (a.eval x)) := by
   rw [hd]
   exact ⟨by simp [Act.put,hF.size],hF.defs,fun t v hv => by rw [put_ne (hne hv)]; exact hF.fr t v hv,hF.nz⟩
  have hS' : SAll ((d,subX σ x') :: killN d σ) E L (a.put o.dst (a.eval x)) := by
   intro p hp v hv
   rw [hd]
   rcases List.mem_cons.1 hp with rfl | hp
   ·show v.v E ((a.tmps.setIfInBounds d (a.eval x)).getD d undef)
    rw [getD_setIfInBounds_self _ _ _ _ (by rw [hF.size]; exact hlt)]
    exact one_v hG hF.fr hS.inv hx hv
   ·obtain ⟨h1,h2⟩ := List.mem_filter.1 hp
    have h2 : p.1 ≠ d := fun e => by rw [e,show Nat.beq d d = true from Nat.beq_refl d] at h2; cases h2
    rw [put_ne h2]; exact hS p h1 v hv
  obtain ⟨k1,k2⟩ := oregion_sound hrun (Q := Q) ht hS' hG hH hF' h
  refine ⟨k1,fun hQ => sq ?_⟩
  unfold opK
  rw [if_pos hw]
  simp only [Oper.wp,hrunx,Oper.upon]
  exact k2 hQ
 |o :: l,_ :: rs,σ,.keep (r := r) hr hgd ht => by
  rename_i E H w a L
  intro hS hG hH hF h
  have hfr := subFr_fr hF.fr hS.inv (slotsR r)
  have hweak : RR P G ⟨n.n,[]⟩ ops o r := ⟨hr.dst,hr.lt,fun _ _ h => (nomatch h),hr.guard,hr.op⟩
  have hFo : FrR E (subFr σ L (slotsR r)) ⟨n.n,[]⟩ a := ⟨hF.size,hF.defs,hfr,fun _ h => (nomatch h)⟩
  have hpas : passed (subFr σ L (slotsR r)) r.guard = passed L r.guard := by
   unfold passed
   cases hg : r.guard with
   |none => rfl
   |some q =>
    have h1 := subFr_mem (σ := σ) (L := L) (s := q.1) (S := slotsR r) (by simp [slotsR,hg])
    have h2 : subX σ (.t q.1) = .t q.1 := by
     show (match sfind σ q.1.n with | some x => x | none => X.t q.1) = _
     rw [hgd q.1 q.2 hg]
    rw [h2] at h1
    have h1 : look q.1 (subFr σ L (slotsR r)) = look q.1 L := h1
    simp only [h1]
  have heval : evI r.i run (subFr σ L (slotsR r)) H = evI (subI σ r.i) run L H := evI_sub fun s hs => subFr_mem (List.mem_append_right _ hs)
  -- what is told behind it
  have hSk : ∀ {E1 : En} {v : AV} {u : Value},E.le E1 → SAll (killO r.dst σ) E1 (putF L r.dst v) (a.put o.dst u) := fun {E1 v u} hle p hp v' hv' => by
   rw [hr.dst]
   cases hd : r.dst with
   |none =>
    rw [hd] at hp hv'
    exact AV.mono hle (hS p hp v' hv')
   |some d =>
    rw [hd] at hp hv'
    obtain ⟨h1,h2⟩ := List.mem_filter.1 hp
    rw [Bool.and_eq_true] at h2
    obtain ⟨h2,h3⟩ := h2
    have h2 : p.1 ≠ d.n := fun e => by rw [e,show Nat.beq d.n d.n = true from Nat.beq_refl _] at h2; cases h2
    show v'.v E1 ((a.put (some d.n) u).tmps.getD p.1 undef)
    rw [put_ne h2]
    refine AV.mono hle (hS p h1 v' ?_)
    rw [← hv']
    cases hx : p.2 with
    |c _ => rfl
    |t s =>
     rw [hx] at h3
     show look s L = look s (putS L d v)
     rw [look_other _ (fun e => by
      subst e
      have h3 : (!(Nat.beq s.n s.n)) = true := h3
      rw [show Nat.beq s.n s.n = true from Nat.beq_refl _] at h3; cases h3)]
  replace h : (match passed L r.guard with | some true => evR rs run (putF L r.dst .u) H | some false => (match evI (subI σ r.i) run L H with | some (v,H') => evR rs run (putF L r.dst v) H' | none => none) | none => none) = some (ex,L',H') := h
  split at h
  ·rename_i hp
   have hw := passed_eq hFo hweak (hpas.trans hp)
   have hF' := hF.put (d := r.dst) (v := .u) (u := undef) (fun d hd => hr.lt d.n (by rw [hr.dst,hd]; rfl)) rfl hr.nz
   obtain ⟨h1,h2⟩ := oregion_sound hrun (Q := Q) ht (by have := hSk (E1 := E) (v := .u) (u := undef) (En.le_refl _); exact this) hG hH (by rw [hr.dst]; exact hF') h
   refine ⟨h1,fun hQ => sq ?_⟩
   unfold opK
   rw [if_neg (by rw [hw]; simp)]
   exact h2 hQ
  ·rename_i hp
   have hw := passed_eq hFo hweak (hpas.trans hp)
   split at h
   ·rename_i v H1 he
    obtain ⟨k1,k2⟩ := hr.op hrun hG hH hfr (heval.trans he)
    have next : ∀ {E1 : En} {u : Value} {w1 : World},E.le E1 → (∀ b p,E1 b = some p → E b = some p ∨ H.nx ≤ b) → HR E1 H1 w0 w1 → v.v E1 u → Keeps E1 H1 H' ∧ (Out G E H w0 n Q ex L' H' → wpList P ops Q l (a.put o.dst u) w1) := fun {E1 u w1} g1 g2 g3 g4 => by
     have hF' := (hF.mono g1).put (d := r.dst) (v := v) (u := u) (fun d hd => hr.lt d.n (by rw [hr.dst,hd]; rfl)) g4 hr.nz
     obtain ⟨m1,m2⟩ := oregion_sound hrun (Q := Q) ht (hSk g1) (hG.mono g1) g3 (by rw [hr.dst]; exact hF') h
     refine ⟨m1,fun hQ => ?_⟩
     refine m2 fun E' a' w' q1 q2 q3 q4 => hQ E' a' w' (En.le_trans g1 q1) (fun b p hp => ?_) q3 q4
     rcases q2 b p hp with q | q
     ·exact g2 b p q
     ·exact .inr (Nat.le_trans k1.1 q)
    have hop : ∀ {K : Act → World → Prop},o.wp P a w K Q → opK P ops Q o K a w := fun hk => by
     unfold opK
     rw [if_pos (by rw [hw]; rfl)]; exact hk
    rcases k2 with ⟨u,w',e1,E1,g1,g2,g3,g4⟩ | ⟨w',e1,_,E1,g1,g2,g3,g4⟩ | ⟨f,args,e1,e2⟩
    ·obtain ⟨m1,m2⟩ := next g1 g2 g3 g4
     refine ⟨k1.trans m1 g2,fun hQ => sq (hop ?_)⟩
     simp only [Oper.wp,e1,Oper.upon]
     exact m2 hQ
    ·obtain ⟨m1,m2⟩ := next g1 g2 g3 g4
     refine ⟨k1.trans m1 g2,fun hQ => sq (hop ?_)⟩
     simp only [Oper.wp,e1,Oper.upon]
     exact m2 hQ
    ·obtain ⟨u0,w1,E1,g1,g2,g3,g4⟩ := Calls.some_end e2
     refine ⟨k1.trans (next g1 g2 g3 g4).1 g2,fun hQ => sq (hop (upon_call e1 e2 fun u w' ⟨E2,q1,q2,q3,q4⟩ => (next q1 q2 q3 q4).2 hQ))⟩
   ·cases h
  ·cases h
theorem oregion_ok {id : Nat} {l : List Oper} {rs : List R} (h : OR P G n l.toArray [] l rs) (hrun : RunOk P G run) : CodeOk P G n run (.region id l.toArray false) (.reg rs) := by
 intro E H H' w0 w a L L' ex Q hG hH hF he
 obtain ⟨h1,h2⟩ := oregion_sound hrun (Q := Q) h (fun p hp => by cases hp) hG hH hF he
 exact ⟨h1,fun hQ => wp_region_lit (h2 hQ)⟩
end
end
end
end Ev
end
section
namespace Ev
set_option autoImplicit false
noncomputable section
section
variable (P : Program) (G : Nat)
def cLen (t : TypeId) (x : X) : Option I := match P.underlying t with
 |some (.slice _) => some (.len true x)
 |some .string => some (.len false x)
 |_ => none
def cApp (t t' : TypeId) (x y : X) : Option I := match P.underlying t with
 |some (.slice e) => cond (Nat.beq t' t) (match zcE P e with
  |some (_,n,b) => cond (Nat.ble b 1048576 && Nat.blt 0 n) (some (.app e n false x y)) none
  |none => none) none
 |_ => none
def cCp (t t' : TypeId) (x y : X) : Option I := match P.underlying t with
 |some (.slice e) => cond (Nat.beq t' t) (match tiE P e with
  |some (_,n,_) => some (.cp n false x y)
  |none => none) none
 |_ => none
def cClr (t : TypeId) (x : X) : Option I := match P.underlying t with
 |some (.slice e) => (match zcE P e with | some (l,_,_) => some (.clr l x) | none => none)
 |_ => none
def cBi (b : Builtin) (xs : List Operand) (ts : List TypeId) : Option I := match xs with
 |[x] => (match ts with
  |[t] => (cX G x).bind fun x' => (match b with
   |.len => cLen P t x'
   |.unsafeSliceData => some (.usd x')
   |.clear => cClr P t x'
   |_ => none)
  |_ => none)
 |[x,y] => (match ts with
  |[t,u] => (cX G x).bind fun x' => (cX G y).bind fun y' => (match b with
   |.append => cApp P t u x' y'
   |.copy => cCp P t u x' y'
   |.max => some (.mx x' y')
   |.min => some (.mn x' y')
   |.unsafeString => cUstr t x' y'
   |_ => none)
  |_ => none)
 |_ => none
def cCall (c : Call) : Option I := match c.callee with
 |.value (.func f) => (cXs G c.args.toList).map (.call f)
 |.value x => (cX G x).bind fun x' => (cXs G c.args.toList).map (.callv x')
 |.builtin b => cBi P G b c.args.toList c.argTypes.toList
 |.invoke _ _ => none
end
section
variable {P : Program} {G : Nat} {dst : Option Nat} {ty : TypeId} {pos : String} {after : Array Edge} {guard : Option (Nat × Bool)}
section
variable [Tx]
theorem cLen_ok {t : TypeId} {x : Operand} {x' : X} {i : I} (hx : XR G x x') (h : cLen P t x' = some i) : OK P G ⟨dst,.call { callee := .builtin .len,args := #[x],argTypes := #[t] },ty,pos,after,guard⟩ i := by
 unfold cLen at h
 split at h
 ·rename_i e hu
  injection h with h; subst h
  exact .ofV (V_len (sl := true) ⟨e,hu⟩ hx) (by simp [kindI])
 ·rename_i hu
  injection h with h; subst h
  exact .ofV (V_len (sl := false) hu hx) (by simp [kindI])
 ·cases h
theorem cApp_ok {t t' : TypeId} {x y : Operand} {x' y' : X} {i : I} (hx : XR G x x') (hy : XR G y y') (h : cApp P t t' x' y' = some i) : OK P G ⟨dst,.call { callee := .builtin .append,args := #[x,y],argTypes := #[t,t'] },ty,pos,after,guard⟩ i := by
 unfold cApp at h
 split at h
 ·rename_i e hu
  cases hb : Nat.beq t' t with
  |false => rw [hb] at h; cases h
  |true =>
   rw [hb] at h
   have e1 : t' = t := Nat.eq_of_beq_eq_true hb
   subst e1
   replace h : (match zcE P e with | some (_,n,b) => cond (Nat.ble b 1048576 && Nat.blt 0 n) (some (I.app e n false x' y')) none | none => none) = some i := h
   split at h
   ·rename_i l n b h1
    obtain ⟨hb,rfl⟩ := cond_some h
    simp only [Bool.and_eq_true,Nat.ble_eq,Nat.blt_eq] at hb
    obtain ⟨z,z1,z2,z3,z4⟩ := zcE_ok h1
    exact .ofS (S_app hu z1 hb.1 z4 hb.2 hx hy) rfl
   ·cases h
 ·cases h
theorem cCp_ok {t t' : TypeId} {x y : Operand} {x' y' : X} {i : I} (hx : XR G x x') (hy : XR G y y') (h : cCp P t t' x' y' = some i) : OK P G ⟨dst,.call { callee := .builtin .copy,args := #[x,y],argTypes := #[t,t'] },ty,pos,after,guard⟩ i := by
 unfold cCp at h
 split at h
 ·rename_i e hu
  cases hb : Nat.beq t' t with
  |false => rw [hb] at h; cases h
  |true =>
   rw [hb] at h
   have e1 : t' = t := Nat.eq_of_beq_eq_true hb
   subst e1
   replace h : (match tiE P e with | some (_,n,_) => some (I.cp n false x' y') | none => none) = some i := h
   split at h
   ·rename_i h1
    injection h with h; subst h
    exact .ofS (S_cp hu (tiE_ok h1) hx hy) rfl
   ·cases h
 ·cases h
theorem cClr_ok {t : TypeId} {x : Operand} {x' : X} {i : I} (hx : XR G x x') (h : cClr P t x' = some i) : OK P G ⟨dst,.call { callee := .builtin .clear,args := #[x],argTypes := #[t] },ty,pos,after,guard⟩ i := by
 unfold cClr at h
 split at h
 ·rename_i e hu
  split at h
  ·rename_i h1
   injection h with h; subst h
   obtain ⟨z,z1,z2,z3,z4⟩ := zcE_ok h1
   exact .ofS (S_clr hu z1 z2 hx rfl) rfl
  ·cases h
 ·cases h
theorem cBi_ok {b : Builtin} {xs : List Operand} {ts : List TypeId} {i : I} (h : cBi P G b xs ts = some i) : OK P G ⟨dst,.call { callee := .builtin b,args := xs.toArray,argTypes := ts.toArray },ty,pos,after,guard⟩ i := by
 unfold cBi at h
 split at h
 ·split at h
  ·obtain ⟨x',hx,h⟩ := Option.bind_eq_some_iff.1 h
   have hx : XR G _ x' := cX_ok hx
   split at h
   ·exact cLen_ok hx h
   ·injection h with h; subst h; exact .ofV (V_usd hx) (by simp [kindI])
   ·exact cClr_ok hx h
   ·cases h
  ·cases h
 ·split at h
  ·obtain ⟨x',hx,h⟩ := Option.bind_eq_some_iff.1 h
   obtain ⟨y',hy,h⟩ := Option.bind_eq_some_iff.1 h
   have hx : XR G _ x' := cX_ok hx
   have hy : XR G _ y' := cX_ok hy
   split at h
   ·exact cApp_ok hx hy h
   ·exact cCp_ok hx hy h
   ·injection h with h; subst h; exact .ofV (V_max hx hy) (by simp [kindI])
   ·injection h with h; subst h; exact .ofV (V_min hx hy) (by simp [kindI])
   ·exact cUstr_ok hx hy h
   ·cases h
  ·cases h
 ·cases h
theorem cCall_ok {c : Call} {i : I} (h : cCall P G c = some i) : OK P G ⟨dst,.call c,ty,pos,after,guard⟩ i := by
 obtain ⟨callee,⟨xs⟩,⟨ts⟩⟩ := c
 unfold cCall at h
 split at h
 ·rename_i f hc
  have hc : callee = .value (.func f) := hc
  subst hc
  obtain ⟨ys,hy,rfl⟩ := Option.map_eq_some_iff.1 h
  exact .ofS (S_call (cXs_ok hy)) rfl
 ·rename_i x _ hc
  have hc : callee = .value x := hc
  subst hc
  obtain ⟨x',hx,h⟩ := Option.bind_eq_some_iff.1 h
  obtain ⟨ys,hy,rfl⟩ := Option.map_eq_some_iff.1 h
  exact .ofS (S_callv (cX_ok hx) (cXs_ok hy)) rfl
 ·rename_i b hc
  have hc : callee = .builtin b := hc
  subst hc
  exact cBi_ok h
 ·cases h
end
end
def cOp (P : Program) (G : Nat) (op : Op) : Option I := match op with
 |.move x => (cX G x).map .mv
 |.assign x => (cX G x).map .mv
 |.nilCheck x => (cX G x).map .nc
 |.pick c x y => (cX G c).bind fun c' => (cX G x).bind fun x' => (cX G y).map fun y' => .pk c' x' y'
 |.binOp o t x y _ => (cX G x).bind fun x' => (cX G y).bind fun y' => cBin P o t x' y'
 |.unOp o _ x => (cX G x).bind fun x' => cUn o x'
 |.convert s d x => (cX G x).bind fun x' => cConv P s d x'
 |.alloc t => (match tiE P t with | some (z,_,_) => (cV z).map fun y => .new t (.c y) | none => none)
 |.box t x => (cX G x).map (.new t)
 |.build t ps => cBld P G t ps.toList
 |.buildSlice t n ps => cBsl P G t n ps.toList
 |.load t x => (cX G x).bind fun x' => cLoad P t x'
 |.store t x y => (cX G x).bind fun x' => (cX G y).bind fun y' => (match tiE P t with | some (_,n,_) => some (.st n x' y') | none => none)
 |.fieldAddr s x i => (cX G x).bind fun x' => cFa P s i x'
 |.field s x i => (cX G x).bind fun x' => cFd P s i x'
 |.indexAddr t x y => (cX G x).bind fun x' => (cX G y).bind fun y' => cIa P t x' y'
 |.index t x y => (cX G x).bind fun x' => (cX G y).bind fun y' => cIx P t x' y'
 |.extract x j => (cX G x).map (.ext j)
 |.slice t x lo hi mx => (cX G x).bind fun x' => (cXo G lo).bind fun lo' => (cXo G hi).bind fun hi' => (cXo G mx).bind fun mx' => cSl P t x' lo' hi' mx mx'
 |.makeSlice t x y => (cX G x).bind fun x' => (cX G y).bind fun y' => cMks P t x' y'
 |.makeFunc f xs ys => (match f,xs.toList with
  |.func f,[] => (cXs G ys.toList).map (.mkf f)
  |_,_ => none)
 |.makeMap _ none => some .mkm
 |.lookup t x y ok => (cX G x).bind fun x' => (cX G y).bind fun y' => cLkp P t ok x' y'
 |.mapEntry t x y => (cX G x).bind fun x' => (cX G y).bind fun y' => cMen P t x' y'
 |.entryStore t x y z => (cX G x).bind fun x' => (cX G y).bind fun y' => (cX G z).bind fun z' => cEst t x' y' z'
 |.call c => cCall P G c
 |_ => none
section
variable [Tx]
theorem cOp_ok {P : Program} {G : Nat} {op : Op} {i : I} (h : cOp P G op = some i) (dst : Option Nat) (ty : TypeId) (pos : String) (after : Array Edge) (guard : Option (Nat × Bool)) : OK P G ⟨dst,op,ty,pos,after,guard⟩ i := by
 unfold cOp at h
 split at h
 ·obtain ⟨x',hx,rfl⟩ := Option.map_eq_some_iff.1 h
  exact .ofV (V_move (cX_ok hx)) (by simp [kindI])
 ·obtain ⟨x',hx,rfl⟩ := Option.map_eq_some_iff.1 h
  exact .ofV (V_assign (cX_ok hx)) (by simp [kindI])
 ·obtain ⟨x',hx,rfl⟩ := Option.map_eq_some_iff.1 h
  exact .ofV (V_nilCheck (cX_ok hx)) (by simp [kindI])
 ·obtain ⟨c',hc,h⟩ := Option.bind_eq_some_iff.1 h
  obtain ⟨x',hx,h⟩ := Option.bind_eq_some_iff.1 h
  obtain ⟨y',hy,rfl⟩ := Option.map_eq_some_iff.1 h
  exact .ofV (V_pick (cX_ok hc) (cX_ok hx) (cX_ok hy)) (by simp [kindI])
 ·obtain ⟨x',hx,h⟩ := Option.bind_eq_some_iff.1 h
  obtain ⟨y',hy,h⟩ := Option.bind_eq_some_iff.1 h
  exact cBin_ok (cX_ok hx) (cX_ok hy) h
 ·obtain ⟨x',hx,h⟩ := Option.bind_eq_some_iff.1 h
  exact cUn_ok (cX_ok hx) h
 ·obtain ⟨x',hx,h⟩ := Option.bind_eq_some_iff.1 h
  exact cConv_ok (cX_ok hx) h
 ·split at h
  ·rename_i h1
   obtain ⟨y,hy,rfl⟩ := Option.map_eq_some_iff.1 h
   exact .ofA (A_alloc (tiE_ok h1) (cV_v hy)) (by simp [kindI])
  ·cases h
 ·obtain ⟨x',hx,rfl⟩ := Option.map_eq_some_iff.1 h
  exact .ofA (A_box (cX_ok hx)) (by simp [kindI])
 ·rename_i t ps
  obtain ⟨ps⟩ := ps
  exact cBld_ok h
 ·rename_i t n ps
  obtain ⟨ps⟩ := ps
  exact cBsl_ok h
 ·obtain ⟨x',hx,h⟩ := Option.bind_eq_some_iff.1 h
  exact cLoad_ok (cX_ok hx) h
 ·obtain ⟨x',hx,h⟩ := Option.bind_eq_some_iff.1 h
  obtain ⟨y',hy,h⟩ := Option.bind_eq_some_iff.1 h
  split at h
  ·rename_i h1
   injection h with h; subst h
   exact .ofS (S_store (tiE_ok h1) (cX_ok hx) (cX_ok hy)) rfl
  ·cases h
 ·obtain ⟨x',hx,h⟩ := Option.bind_eq_some_iff.1 h
  exact cFa_ok (cX_ok hx) h
 ·obtain ⟨x',hx,h⟩ := Option.bind_eq_some_iff.1 h
  exact cFd_ok (cX_ok hx) h
 ·obtain ⟨x',hx,h⟩ := Option.bind_eq_some_iff.1 h
  obtain ⟨y',hy,h⟩ := Option.bind_eq_some_iff.1 h
  exact cIa_ok (cX_ok hx) (cX_ok hy) h
 ·obtain ⟨x',hx,h⟩ := Option.bind_eq_some_iff.1 h
  obtain ⟨y',hy,h⟩ := Option.bind_eq_some_iff.1 h
  exact cIx_ok (cX_ok hx) (cX_ok hy) h
 ·obtain ⟨x',hx,rfl⟩ := Option.map_eq_some_iff.1 h
  exact .ofV (V_extract (cX_ok hx)) (by simp [kindI])
 ·obtain ⟨x',hx,h⟩ := Option.bind_eq_some_iff.1 h
  obtain ⟨l',hl,h⟩ := Option.bind_eq_some_iff.1 h
  obtain ⟨h',hh,h⟩ := Option.bind_eq_some_iff.1 h
  obtain ⟨m',hm,h⟩ := Option.bind_eq_some_iff.1 h
  exact cSl_ok (cX_ok hx) (cXo_ok hl) (cXo_ok hh) (cXo_ok hm) h
 ·obtain ⟨x',hx,h⟩ := Option.bind_eq_some_iff.1 h
  obtain ⟨y',hy,h⟩ := Option.bind_eq_some_iff.1 h
  exact cMks_ok (cX_ok hx) (cX_ok hy) h
 ·rename_i f xs ys
  obtain ⟨xs⟩ := xs
  obtain ⟨ys⟩ := ys
  split at h
  ·rename_i f he
   have he : xs = [] := he
   subst he
   obtain ⟨zs,hz,rfl⟩ := Option.map_eq_some_iff.1 h
   exact .ofV (V_mkf (cXs_ok hz)) (by simp [kindI])
  ·cases h
 ·injection h with h; subst h
  exact .ofS (A_mkm fun w => by simp [Instr.makeMap,Result.andThen]) rfl
 ·obtain ⟨x',hx,h⟩ := Option.bind_eq_some_iff.1 h
  obtain ⟨y',hy,h⟩ := Option.bind_eq_some_iff.1 h
  exact cLkp_ok (cX_ok hx) (cX_ok hy) h
 ·obtain ⟨x',hx,h⟩ := Option.bind_eq_some_iff.1 h
  obtain ⟨y',hy,h⟩ := Option.bind_eq_some_iff.1 h
  exact cMen_ok (cX_ok hx) (cX_ok hy) h
 ·obtain ⟨x',hx,h⟩ := Option.bind_eq_some_iff.1 h
  obtain ⟨y',hy,h⟩ := Option.bind_eq_some_iff.1 h
  obtain ⟨z',hz,h⟩ := Option.bind_eq_some_iff.1 h
  exact cEst_ok (cX_ok hx) (cX_ok hy) (cX_ok hz) h
 ·exact cCall_ok h
 ·cases h
def badC : C := .reg [⟨none,none,.bad,[]⟩]
def cG (ops : Array Oper) (g : Option (Nat × Bool)) : Option (Option (Slt × Bool)) := match g with
 |none => some none
 |some (j,want) => ((ops[j]?).bind (·.dst)).bind fun t => cond (Nat.blt t 256) (some (some (Slt.of t,want))) none
def dstB (n : Nz) (d : Option Nat) : Bool := match d with
 |none => true
 |some d => Nat.blt d n.n && Nat.blt d 256 && !(n.Z.contains d)
def cR (P : Program) (G : Nat) (n : Nz) (ops : Array Oper) (o : Oper) : Option R := match cG ops o.guard with
 |some g => cond (dstB n o.dst) (some ⟨o.dst.map Slt.of,g,(cOp P G o.op).getD .bad,[]⟩) none
 |none => none
def mvOf (n : Nz) (o : Oper) : Option (Nat × Operand) := match o.guard,o.dst with
 |none,some d => cond (n.Z.contains d && Nat.blt d n.n) ((mvX o.op).map fun x => (d,x)) none
 |_,_ => none
def gdB (σ : List (Nat × X)) (g : Option (Slt × Bool)) : Bool := match g with
 |none => true
 |some (t,_) => match sfind σ t.n with
  |none => true
  |some _ => false
def oRs (P : Program) (G : Nat) (n : Nz) (ops : Array Oper) (l : List Oper) : List (Nat × X) → Option (List R) := List.rec (fun _ => some []) (fun o _ ih σ => match mvOf n o with
 |some (d,x) => (match cX G x with
  |some x' => ih ((d,subX σ x') :: killN d σ)
  |none => none)
 |none => (match cR P G n ops o with
  |some r => cond (gdB σ r.guard) (match ih (killO r.dst σ) with
   |some rs => some (⟨r.dst,r.guard,subI σ r.i,[]⟩ :: rs)
   |none => none) none
  |none => none)) l
def cRs (P : Program) (G : Nat) (n : Nz) (ops : Array Oper) (l : List Oper) : Option (List R) := List.rec (some []) (fun o _ ih => match cR P G n ops o,ih with | some r,some rs => some (r :: rs) | _,_ => none) l
def cReg (P : Program) (G : Nat) (n : Nz) (ops : Array Oper) (draw : Bool) : C := cond draw
 (match cRs P G n ops ops.toList with
  |some base => (match drawE ops base with | some rs => .dreg rs | none => badC)
  |none => badC)
 (match oRs P G n ops ops.toList [] with
  |some rs => .reg rs
  |none => badC)
def compC (P : Program) (G : Nat) (n : Nz) (c : Code) : C := Code.rec .skip (fun _ ops draw => cReg P G n ops draw) (fun _ _ ia ib => .seq ia ib)
 (fun x _ _ ia ib => match cX G x with | some x' => .cond x' ia ib | none => badC) (fun id _ ic => .blk id ic) (fun _ ic => .loop ic) (fun _ _ _ _ _ _ => badC) (fun id => .exit id) (fun _ ic => ic) (fun _ => .skip) (fun _ => badC) .ret (fun _ => badC) c
end
section
variable {P : Program} {G : Nat} {n : Nz}
section
variable [Tx]
theorem badC_ok (c : Code) : CR P G n c badC := .region fun _ => by
 intro E H H' w0 w a L L' ex Q hG hH hF he
 cases he
theorem cR_ok {ops : Array Oper} {o : Oper} {r : R} (h : cR P G n ops o = some r) : DR P G n ops o r := by
 unfold cR at h
 split at h
 ·rename_i g hg
  obtain ⟨hb,rfl⟩ := cond_some h
  obtain ⟨dst,op,ty,pos,after,guard⟩ := o
  have hok : OK P G ⟨dst,op,ty,pos,after,guard⟩ ((cOp P G op).getD .bad) := by
   cases hc : cOp P G op with
   |none => exact OK.bad _
   |some i => exact cOp_ok hc _ _ _ _ _
  have hlt : ∀ d,dst = some d → d < n.n ∧ d < 256 ∧ d ∉ n.Z := fun d hd => by
   subst hd
   have hb : (Nat.blt d n.n && Nat.blt d 256 && !(n.Z.contains d)) = true := hb
   simp only [Bool.and_eq_true,Nat.blt_eq,Bool.not_eq_true'] at hb
   exact ⟨hb.1.1,hb.1.2,fun h => by rw [List.contains_iff_mem.2 h] at hb; cases hb.2⟩
  refine ⟨⟨?_,fun d hd => (hlt d hd).1,fun d hd => ?_,?_,hok.s⟩,hok.v,hok.a⟩
  rotate_left
  ·obtain ⟨d',hd1,rfl⟩ := Option.map_eq_some_iff.1 (show dst.map Slt.of = some d from hd)
   rw [Slt.n_of (hlt d' hd1).2.1]; exact (hlt d' hd1).2.2
  rotate_left
  ·show dst = (dst.map Slt.of).map Slt.n
   cases dst with
   |none => rfl
   |some d => show some d = some (Slt.of d).n; rw [Slt.n_of (hlt d rfl).2.1]
  ·have hg : cG ops guard = some g := hg
   cases guard with
   |none => injection hg with hg; exact .inl ⟨rfl,hg.symm⟩
   |some jw =>
    obtain ⟨j,want⟩ := jw
    obtain ⟨t,ht,hg⟩ := Option.bind_eq_some_iff.1 hg
    obtain ⟨ht2,rfl⟩ := cond_some hg
    exact .inr ⟨j,Slt.of t,want,rfl,rfl,by rw [ht,Slt.n_of (by simpa [Nat.blt_eq] using ht2)]⟩
 ·cases h
theorem cRs_ok {ops : Array Oper} : ∀ {l : List Oper} {rs : List R},cRs P G n ops l = some rs → All2 (DR P G n ops) l rs
 |[],rs,h => by injection h with h; subst h; exact .nil
 |o :: l,rs,h => by
  replace h : (match cR P G n ops o,cRs P G n ops l with | some r,some rs => some (r :: rs) | _,_ => none) = some rs := h
  split at h
  ·rename_i r rs' h1 h2
   injection h with h; subst h
   exact .cons (cR_ok h1) (cRs_ok h2)
  ·cases h
theorem oRs_ok {ops : Array Oper} : ∀ {l : List Oper} {σ : List (Nat × X)} {rs : List R},oRs P G n ops l σ = some rs → OR P G n ops σ l rs
 |[],σ,rs,h => by injection h with h; subst h; exact .nil
 |o :: l,σ,rs,h => by
  replace h : (match mvOf n o with
   |some (d,x) => (match cX G x with
    |some x' => oRs P G n ops l ((d,subX σ x') :: killN d σ)
    |none => none)
   |none => (match cR P G n ops o with
    |some r => cond (gdB σ r.guard) (match oRs P G n ops l (killO r.dst σ) with
     |some rs => some (⟨r.dst,r.guard,subI σ r.i,[]⟩ :: rs)
     |none => none) none
    |none => none)) = some rs := h
  split at h
  ·rename_i d x hm
   split at h
   ·rename_i x' hx
    unfold mvOf at hm
    split at hm
    ·rename_i hg hd
     cases hb : (n.Z.contains _ && Nat.blt _ n.n) with
     |false => rw [hb] at hm; cases hm
     |true =>
      rw [hb] at hm
      obtain ⟨y,hy,e⟩ := Option.map_eq_some_iff.1 hm
      injection e with e1 e2
      subst e1; subst e2
      simp only [Bool.and_eq_true,Nat.blt_eq] at hb
      exact .drop hy hg hd (List.contains_iff_mem.1 hb.1) (cX_ok hx) hb.2 (oRs_ok h)
    ·cases hm
   ·cases h
  ·split at h
   ·rename_i r hr
    cases hb : gdB σ r.guard with
    |false => rw [hb] at h; cases h
    |true =>
     rw [hb] at h
     replace h : (match oRs P G n ops l (killO r.dst σ) with
      |some rs => some ((⟨r.dst,r.guard,subI σ r.i,[]⟩ : R) :: rs)
      |none => none) = some rs := h
     split at h
     ·rename_i rs' h1
      injection h with h; subst h
      refine .keep (cR_ok hr).rr (fun t w hg => ?_) (oRs_ok h1)
      unfold gdB at hb
      rw [hg] at hb
      simp only at hb
      split at hb
      ·assumption
      ·cases hb
     ·cases h
   ·cases h
theorem cReg_ok (hm : P.follows .mixedOrders = true) {id : Nat} {ops : Array Oper} {draw : Bool} : CR P G n (.region id ops draw) (cReg P G n ops draw) := by
 obtain ⟨l⟩ := ops
 cases draw with
 |false =>
  show CR P G n _ (match oRs P G n ⟨l⟩ l [] with | some rs => .reg rs | none => badC)
  cases hc : oRs P G n ⟨l⟩ l [] with
  |none => exact badC_ok _
  |some rs => exact .region fun hrun => oregion_ok (oRs_ok hc) hrun
 |true =>
  show CR P G n _ (match cRs P G n ⟨l⟩ l with
   |some base => (match drawE l.toArray base with | some rs => .dreg rs | none => badC)
   |none => badC)
  cases hc : cRs P G n ⟨l⟩ l with
  |none => exact badC_ok _
  |some base =>
   have hb : All2 (DR P G n l.toArray) l base := cRs_ok hc
   show CR P G n _ (match drawE l.toArray base with | some rs => .dreg rs | none => badC)
   cases hd : drawE l.toArray base with
   |none => exact badC_ok _
   |some rs =>
    refine .region fun hrun => draw_ok hm hrun (fun i o ho => ?_) hd
    have hlt : i < l.length := by
     have := (Array.getElem?_eq_some_iff.1 ho).1
     simpa using this
    have ho' : l[i]? = some o := by simpa using ho
    have hl := All2.length hb
    have hr : base[i]? = some (bOf base i) := by
     unfold bOf
     rw [List.getD_eq_getElem?_getD,List.getElem?_eq_getElem (by omega)]; rfl
    have key : ∀ {l : List Oper} {base : List R} {ops : Array Oper} (i : Nat) (o : Oper) (r : R),All2 (DR P G n ops) l base → l[i]? = some o → base[i]? = some r → DR P G n ops o r := fun {l base ops} i o r hb => by
     induction hb generalizing i with
     |nil => intro h; cases h
     |cons h t ih =>
      cases i with
      |zero => intro h1 h2; simp at h1 h2; subst h1; subst h2; exact h
      |succ i => intro h1 h2; exact ih i (by simpa using h1) (by simpa using h2)
    exact key i o _ hb ho' hr
theorem compC_ok (hm : P.follows .mixedOrders = true) : ∀ c : Code,CR P G n c (compC P G n c)
 |.skip => .skip
 |.region id ops draw => cReg_ok hm
 |.seq a b => .seq (compC_ok hm a) (compC_ok hm b)
 |.cond x a b => by
  show CR P G n _ (match cX G x with | some x' => .cond x' (compC P G n a) (compC P G n b) | none => badC)
  cases hx : cX G x with
  |none => exact badC_ok _
  |some x' => exact .cond (cX_ok hx) (compC_ok hm a) (compC_ok hm b)
 |.block id a => .block (compC_ok hm a)
 |.loop a => .loop (compC_ok hm a)
 |.rangeFunc _ _ _ _ => badC_ok _
 |.exit _ => .exit
 |.scope a => .scope (compC_ok hm a)
 |.label _ => .label
 |.goto _ => badC_ok _
 |.ret => .ret
 |.refuse _ => badC_ok _
end
end
def cRes (P : Program) : ResultVar → Option (Slt × Option (Nat × Bool))
 |.tmp t => cond (Nat.blt t 256) (some (Slt.of t,none)) none
 |.cell t T => cond (Nat.blt t 256) (match P.underlying T with
  |some d => cond (notAgg d) (some (Slt.of t,some (1,false))) (match tiE P T with | some (_,n,_) => some (Slt.of t,some (n,true)) | none => none)
  |none => none) none
def cRess (P : Program) (l : List ResultVar) : Option (List (Slt × Option (Nat × Bool))) := List.rec (some []) (fun r _ ih => match cRes P r,ih with | some x,some xs => some (x :: xs) | _,_ => none) l
def compF (P : Program) (G : Nat) (Z : List Nat) (fn : Func) : Option CF := match fn.body,cRess P fn.results.toList with
 |some c,some rs => some ⟨fn.ntmps,fn.params.size + fn.nfree,compC P G ⟨fn.ntmps,Z⟩ c,rs⟩
 |_,_ => none
section
variable {P : Program} {G : Nat}
theorem cRes_ok {r : ResultVar} {q : Slt × Option (Nat × Bool)} (h : cRes P r = some q) : ResR P r q := by
 unfold cRes at h
 split at h
 ·rename_i t
  obtain ⟨ht,rfl⟩ := cond_some h
  have e := Slt.n_of (show t < 256 by simpa [Nat.blt_eq] using ht)
  have := ResR.tmp (P := P) (t := Slt.of t)
  rw [e] at this; exact this
 ·rename_i t T
  cases ht : Nat.blt t 256 with
  |false => rw [ht] at h; cases h
  |true =>
   rw [ht] at h
   have e := Slt.n_of (show t < 256 by simpa [Nat.blt_eq] using ht)
   replace h : (match P.underlying T with
    |some d => cond (notAgg d) (some (Slt.of t,some (1,false))) (match tiE P T with | some (_,n,_) => some (Slt.of t,some (n,true)) | none => none)
    |none => none) = some q := h
   split at h
   ·rename_i d hd
    cases hb : notAgg d with
    |true =>
     rw [hb] at h; injection h with h; subst h
     have := ResR.cell1 (P := P) (t := Slt.of t) hd hb
     rw [e] at this; exact this
    |false =>
     rw [hb] at h
     replace h : (match tiE P T with | some (_,n,_) => some (Slt.of t,some (n,true)) | none => none) = some q := h
     split at h
     ·rename_i h1
      injection h with h; subst h
      have := ResR.cellN (P := P) (t := Slt.of t) hd hb (tiE_ok h1)
      rw [e] at this; exact this
     ·cases h
   ·cases h
theorem cRess_ok : ∀ {l : List ResultVar} {qs : List (Slt × Option (Nat × Bool))},cRess P l = some qs → All2 (ResR P) l qs
 |[],qs,h => by injection h with h; subst h; exact .nil
 |r :: l,qs,h => by
  replace h : (match cRes P r,cRess P l with | some x,some xs => some (x :: xs) | _,_ => none) = some qs := h
  split at h
  ·rename_i x xs h1 h2
   injection h with h; subst h
   exact .cons (cRes_ok h1) (cRess_ok h2)
  ·cases h
section
variable [Tx]
theorem compF_ok (hm : P.follows .mixedOrders = true) (hn : P.funcs.all (fun fn => !(fn.name == "runtime.NumGoroutine")) = true) {f : Nat} {fn : Func} {cf : CF} {Z : List Nat} (hf : P.funcs[f]? = some fn) (hz : (Nat.ble (fn.params.size + fn.nfree) 256 && Z.all fun t => Nat.ble (fn.params.size + fn.nfree) t) = true) (h : compF P G Z fn = some cf) : FnR P G f cf := by
 unfold compF at h
 split at h
 ·rename_i c rs hb hr
  injection h with h; subst h
  refine ⟨fn,c,fn.results.toList,hf,fun e => ?_,hb,rfl,by rw [Bool.and_eq_true] at hz; simpa using hz.1,⟨Z,fun t ht => by rw [Bool.and_eq_true] at hz; simpa using List.all_eq_true.1 hz.2 t ht,compC_ok hm c⟩,by rw [Array.toArray_toList],cRess_ok hr⟩
  rw [Array.all_eq_true_iff_forall_mem] at hn
  have := hn fn (Array.mem_of_getElem? hf)
  rw [e] at this
  simp at this
 ·cases h
inductive FT where
 |nil
 |node (n : Nat) (cf : CF) (l r : FT)
def FT.find (t : FT) (x : Nat) : Option CF := FT.rec none (fun n cf _ _ il ir => cond (Nat.beq x n) (some cf) (cond (Nat.blt x n) il ir)) t
inductive FT.Ok (Q : Nat → CF → Prop) : FT → Prop
 |nil : FT.Ok Q .nil
 |node {n : Nat} {cf : CF} {l r : FT} (h : Q n cf) (hl : FT.Ok Q l) (hr : FT.Ok Q r) : FT.Ok Q (.node n cf l r)
end
theorem FT.find_ok {Q : Nat → CF → Prop} {t : FT} (h : FT.Ok Q t) {x : Nat} {cf : CF} (hf : t.find x = some cf) : Q x cf := by
 induction h with
 |nil => cases hf
 |node h _ _ ihl ihr =>
  rename_i n cf' l r _ _
  replace hf : cond (Nat.beq x n) (some cf') (cond (Nat.blt x n) (l.find x) (r.find x)) = some cf := hf
  cases hb : Nat.beq x n with
  |true =>
   rw [hb] at hf
   injection hf with hf; subst hf
   rw [Nat.eq_of_beq_eq_true hb]; exact h
  |false =>
   rw [hb] at hf
   replace hf : cond (Nat.blt x n) (l.find x) (r.find x) = some cf := hf
   cases hc : Nat.blt x n with
   |true => rw [hc] at hf; exact ihl hf
   |false => rw [hc] at hf; exact ihr hf
end
end
end Ev
end
section
namespace Ev
set_option autoImplicit false
noncomputable section
def idxN (b : Nat) (l : List Nat) : Option Nat := List.rec none (fun x _ ih => cond (Nat.beq x b) (some 0) (match ih with | some k => some (Nat.succ k) | none => none)) l
theorem idxN_ok {b : Nat} : ∀ {l : List Nat} {k : Nat},idxN b l = some k → l[k]? = some b
 |[],k,h => by cases h
 |x :: l,k,h => by
  replace h : cond (Nat.beq x b) (some 0) (match idxN b l with | some k => some (Nat.succ k) | none => none) = some k := h
  cases hb : Nat.beq x b with
  |true =>
   rw [hb] at h; injection h with h; subst h
   rw [Nat.eq_of_beq_eq_true hb]; rfl
  |false =>
   rw [hb] at h
   replace h : (match idxN b l with | some k => some (Nat.succ k) | none => none) = some k := h
   split at h
   ·rename_i j hj
    injection h with h; subst h
    simpa using idxN_ok hj
   ·cases h
def renP (ns : List Nat) : List (Nat × Nat) → Option (List (Nat × Nat)) := fun l => List.rec (some []) (fun p _ ih => match idxN p.1 ns,ih with | some k,some r => some ((k,p.2) :: r) | _,_ => none) l
def renA (ns : List Nat) : AC → Option AC
 |.p (some (b,o)) => match idxN b ns with | some k => some (.p (some (k,o))) | none => none
 |.sl (some (b,o)) n c es => match idxN b ns with | some k => some (.sl (some (k,o)) n c es) | none => none
 |.m _ => none
 |.f id l => match renP ns l with | some l' => some (.f id l') | none => none
 |.b x => some (.b x)
 |.i k n => some (.i k n)
 |.s x => some (.s x)
 |.p none => some (.p none)
 |.sl none n c es => some (.sl none n c es)
 |.nf => some .nf
 |.ni => some .ni
 |.qu n r => some (.qu n r)
 |.tx n x => some (.tx n x)
def renL (ns : List Nat) (l : List AC) : Option (List AC) := List.rec (some []) (fun x _ ih => match renA ns x,ih with | some y,some r => some (y :: r) | _,_ => none) l
def enR (ns : List Nat) (E : En) : En := fun k => (ns[k]?).bind E
theorem enR_idx {ns : List Nat} {E : En} {b k : Nat} (h : idxN b ns = some k) : enR ns E k = E b := by
 unfold enR; rw [idxN_ok h]; rfl
theorem renP_ok {ns : List Nat} {E : En} : ∀ {l l' : List (Nat × Nat)} {cs : List Value},renP ns l = some l' → All2 (pV E) l cs → All2 (pV (enR ns E)) l' cs
 |[],l',_,h,.nil => by injection h with h; subst h; exact .nil
 |p :: l,l',_,h,.cons h1 h2 => by
  replace h : (match idxN p.1 ns,renP ns l with | some k,some r => some ((k,p.2) :: r) | _,_ => none) = some l' := h
  split at h
  ·rename_i k r e1 e2
   injection h with h; subst h
   obtain ⟨B,S,g1,g2⟩ := h1
   exact .cons ⟨B,S,(enR_idx e1).trans g1,g2⟩ (renP_ok e2 h2)
  ·cases h
section
variable [Tx]
theorem renA_ok {ns : List Nat} {E : En} {x y : AC} {v : Value} (h : renA ns x = some y) (hv : x.v E v) : y.v (enR ns E) v := by
 unfold renA at h
 split at h
 ·split at h
  ·rename_i b o k e
   injection h with h; subst h
   obtain ⟨B,S,g1,g2⟩ := hv
   exact ⟨B,S,(enR_idx e).trans g1,g2⟩
  ·cases h
 ·split at h
  ·rename_i b o n c es k e
   injection h with h; subst h
   obtain ⟨B,S,o',c',g1,g2⟩ := hv
   exact ⟨B,S,o',c',(enR_idx e).trans g1,g2⟩
  ·cases h
 ·cases h
 ·split at h
  ·rename_i id l l' e
   injection h with h; subst h
   obtain ⟨cs,g1,g2⟩ := hv
   exact ⟨cs,g1,renP_ok e g2⟩
  ·cases h
 all_goals (injection h with h; subst h; exact hv)
end
theorem renL_ok {ns : List Nat} : ∀ {l l' : List AC},renL ns l = some l' → l'.length = l.length ∧ ∀ (j : Nat) (y : AC),l'[j]? = some y → ∃ x,l[j]? = some x ∧ renA ns x = some y
 |[],l',h => by injection h with h; subst h; exact ⟨rfl,fun j y hy => by simp at hy⟩
 |x :: l,l',h => by
  replace h : (match renA ns x,renL ns l with | some y,some r => some (y :: r) | _,_ => none) = some l' := h
  split at h
  ·rename_i y r e1 e2
   injection h with h; subst h
   obtain ⟨g1,g2⟩ := renL_ok e2
   refine ⟨by simp [g1],fun j z hz => ?_⟩
   cases j with
   |zero => simp at hz; subst hz; exact ⟨x,by simp,e1⟩
   |succ j => simpa using g2 j z (by simpa using hz)
  ·cases h
section
variable [Tx]
theorem renL_pre {ns : List Nat} {E : En} {l l' : List AC} {C : List Value} (h : renL ns l = some l') (k : Pre E l C) : Pre (enR ns E) l' C := fun j y hy => by
 obtain ⟨x,g1,g2⟩ := (renL_ok h).2 j y hy
 obtain ⟨v,g3,g4⟩ := k j x g1
 exact ⟨v,g3,renA_ok g2 g4⟩
def renV (ns : List Nat) : AV → Option AV
 |.c x => match renA ns x with | some y => some (.c y) | none => none
 |.a l => match renL ns l with | some r => some (.a r) | none => none
 |.t _ => none
 |.u => some .u
theorem renL_all {ns : List Nat} {E : En} {l l' : List AC} {C : List Value} (h : renL ns l = some l') (k : ACs E l C) : ACs (enR ns E) l' C :=
 All2.of_get ((renL_ok h).1.trans (All2.length k).symm) fun i y v hy hv => by
  obtain ⟨x,g1,g2⟩ := (renL_ok h).2 i y hy
  obtain ⟨u,g3,g4⟩ := All2.get k i x g1
  rw [hv] at g3; injection g3 with g3; subst g3
  exact renA_ok g2 g4
theorem renV_ok {ns : List Nat} {E : En} {x y : AV} {v : Value} (h : renV ns x = some y) (hv : x.v E v) : y.v (enR ns E) v := by
 unfold renV at h
 split at h
 ·split at h
  ·rename_i e
   injection h with h; subst h
   exact renA_ok e hv
  ·cases h
 ·split at h
  ·rename_i e
   injection h with h; subst h
   obtain ⟨cs,h1,h2⟩ := hv
   exact ⟨cs,h1,renL_all e h2⟩
  ·cases h
 ·cases h
 ·injection h with h; subst h; exact hv
def famOf (H : AH) (n : Nat) : Option Nat := match H.at n with
 |some (_,_,.fam f _) => some f
 |_ => none
def apartN (H : AH) (n : Nat) (l : List Nat) : Bool := List.rec true (fun m _ ih => cond (Nat.beq n m) false (match famOf H n,famOf H m with
 |some f,some g => cond (Nat.beq f g) false ih
 |_,_ => ih)) l
def apartL (H : AH) (l : List Nat) : Bool := List.rec true (fun n r ih => cond (apartN H n r) ih false) l
end
theorem apartN_ok {H : AH} {n : Nat} : ∀ {l : List Nat},apartN H n l = true → ∀ m ∈ l,n ≠ m ∧ ∀ f,famOf H n = some f → famOf H m ≠ some f
 |[],_,m,hm => by cases hm
 |x :: l,h,m,hm => by
  replace h : cond (Nat.beq n x) false (match famOf H n,famOf H x with | some f,some g => cond (Nat.beq f g) false (apartN H n l) | _,_ => apartN H n l) = true := h
  cases hb : Nat.beq n x with
  |true => rw [hb] at h; cases h
  |false =>
   rw [hb] at h
   have hne : n ≠ x := fun e => by subst e; rw [Nat.beq_refl n] at hb; cases hb
   replace h : (match famOf H n,famOf H x with | some f,some g => cond (Nat.beq f g) false (apartN H n l) | _,_ => apartN H n l) = true := h
   have key : apartN H n l = true ∧ ∀ f,famOf H n = some f → famOf H x ≠ some f := by
    split at h
    ·rename_i f g e1 e2
     cases hc : Nat.beq f g with
     |true => rw [hc] at h; cases h
     |false =>
      rw [hc] at h
      refine ⟨h,fun f' e => ?_⟩
      rw [e1] at e; injection e with e; subst e
      rw [e2]; intro e; injection e with e; subst e
      rw [Nat.beq_refl g] at hc; cases hc
    ·rename_i hx
     exact ⟨h,fun f e e' => hx f f e e'⟩
   rcases List.mem_cons.1 hm with rfl | hm
   ·exact ⟨hne,key.2⟩
   ·exact apartN_ok key.1 m hm
theorem apartL_ok {H : AH} : ∀ {l : List Nat},apartL H l = true → ∀ (i j n m : Nat),i ≠ j → l[i]? = some n → l[j]? = some m → n ≠ m ∧ ∀ f,famOf H n = some f → famOf H m ≠ some f
 |[],_,i,j,n,m,_,hi,_ => by simp at hi
 |x :: l,h,i,j,n,m,hij,hi,hj => by
  replace h : cond (apartN H x l) (apartL H l) false = true := h
  cases hb : apartN H x l with
  |false => rw [hb] at h; cases h
  |true =>
   rw [hb] at h
   cases i with
   |zero =>
    simp at hi; subst hi
    cases j with
    |zero => exact absurd rfl hij
    |succ j => exact apartN_ok hb m (List.mem_of_getElem? (by simpa using hj))
   |succ i =>
    cases j with
    |zero =>
     simp at hj; subst hj
     obtain ⟨h1,h2⟩ := apartN_ok hb n (List.mem_of_getElem? (by simpa using hi))
     exact ⟨fun e => h1 e.symm,fun f e e' => h2 f e' e⟩
    |succ j => exact apartL_ok h i j n m (by omega) (by simpa using hi) (by simpa using hj)
def gcB (ns : List Nat) (H : AH) (n : Nat) : Option AO := match H.at n with
 |some (_,_,.ro) => none
 |some (T,c,_) => match renL ns c with
  |some c' => some (.cells T c' .own)
  |none => none
 |none => match H.get n with
  |some (.lst v) => some (.lst v)
  |_ => none
theorem gcB_ok {ns : List Nat} {H : AH} {n : Nat} {o : AO} (h : gcB ns H n = some o) : (∃ T c l c',H.at n = some (T,c,l) ∧ l ≠ .ro ∧ renL ns c = some c' ∧ o = .cells T c' .own) ∨ ∃ v,H.get n = some (.lst v) ∧ o = .lst v := by
 unfold gcB at h
 split at h
 ·cases h
 ·rename_i T c l hl e
  split at h
  ·rename_i c' e2
   injection h with h; subst h
   exact .inl ⟨T,c,l,c',e,fun e' => hl e',e2,rfl⟩
  ·cases h
 ·split at h
  ·rename_i v e
   injection h with h; subst h
   exact .inr ⟨v,e,rfl⟩
  ·cases h
def gcGo (ns : List Nat) (H : AH) (l : List Nat) : AH → Option AH := List.rec (fun acc => some acc) (fun n _ ih acc => match gcB ns H n with
 |some o => ih (acc.push o)
 |none => none) l
theorem gcGo_ok {ns : List Nat} {H : AH} : ∀ {l : List Nat} {acc H' : AH},gcGo ns H l acc = some H' → H'.nx = acc.nx + l.length ∧ H'.fm = acc.fm ∧ ∀ k,H'.get k = if k < acc.nx then acc.get k else if k < acc.nx + l.length then (l[k - acc.nx]?).bind (gcB ns H) else acc.get k
 |[],acc,H',h => by
  injection h with h; subst h
  exact ⟨rfl,rfl,fun k => by by_cases hk : k < acc.nx <;> simp [hk]⟩
 |n :: l,acc,H',h => by
  replace h : (match gcB ns H n with | some o => gcGo ns H l (acc.push o) | none => none) = some H' := h
  split at h
  ·rename_i o e
   obtain ⟨h1,h2,h3⟩ := gcGo_ok h
   have hnx : (acc.push o).nx = acc.nx + 1 := rfl
   refine ⟨by rw [h1,hnx]; simp only [List.length_cons]; omega,h2,fun k => ?_⟩
   rw [h3 k,hnx,AH.get_push]
   by_cases h4 : k < acc.nx
   ·rw [if_pos (by omega),if_pos h4,if_neg (by omega)]
   ·rw [if_neg h4]
    by_cases h5 : k = acc.nx
    ·subst h5
     rw [if_pos (by omega),if_pos rfl,if_pos (by simp),Nat.sub_self]
     simp [e]
    ·rw [if_neg (by omega),show k - acc.nx = (k - (acc.nx + 1)) + 1 by omega,List.getElem?_cons_succ,List.length_cons]
     by_cases h6 : k < acc.nx + (l.length + 1)
     ·rw [if_pos (by omega),if_pos h6]
     ·rw [if_neg (by omega),if_neg h6,if_neg h5]
  ·cases h
def gcH (ns : List Nat) (H : AH) : Option AH := cond (apartL H ns) (gcGo ns H ns ⟨0,.nil,.nil⟩) none
theorem gcH_get {ns : List Nat} {H H' : AH} (h : gcH ns H = some H') : apartL H ns = true ∧ H'.nx = ns.length ∧ H'.fm = .nil ∧ (∀ k,H'.get k = (ns[k]?).bind (gcB ns H)) := by
 unfold gcH at h
 cases hb : apartL H ns with
 |false => rw [hb] at h; cases h
 |true =>
  rw [hb] at h
  obtain ⟨h1,h2,h3⟩ := gcGo_ok (show gcGo ns H ns ⟨0,.nil,.nil⟩ = some H' from h)
  refine ⟨rfl,by simpa using h1,h2,fun k => ?_⟩
  rw [h3 k]
  simp only [Nat.not_lt_zero,if_false,Nat.zero_add,Nat.sub_zero]
  by_cases hk : k < ns.length
  ·rw [if_pos hk]
  ·rw [if_neg hk,List.getElem?_eq_none (by omega)]; rfl
theorem gcGo_some {ns : List Nat} {H : AH} : ∀ {l : List Nat} {acc H' : AH},gcGo ns H l acc = some H' → ∀ n ∈ l,∃ o,gcB ns H n = some o
 |[],_,_,_,n,hn => by cases hn
 |x :: l,acc,H',h,n,hn => by
  replace h : (match gcB ns H x with | some o => gcGo ns H l (acc.push o) | none => none) = some H' := h
  split at h
  ·rename_i o e
   rcases List.mem_cons.1 hn with rfl | hn
   ·exact ⟨o,e⟩
   ·exact gcGo_some h n hn
  ·cases h
theorem gcH_at {ns : List Nat} {H H' : AH} (h : gcH ns H = some H') {k : Nat} (hk : k < ns.length) : (∃ T c,H'.at k = some (T,c,.own)) ∨ ∃ v,H'.get k = some (.lst v) := by
 obtain ⟨ha,hnx,hfm,hget⟩ := gcH_get h
 have h2 : gcGo ns H ns ⟨0,.nil,.nil⟩ = some H' := by
  unfold gcH at h
  rw [ha] at h; exact h
 obtain ⟨o,ho⟩ := gcGo_some h2 _ (List.getElem_mem hk)
 have hg : H'.get k = some o := by rw [hget,List.getElem?_eq_getElem hk]; exact ho
 rcases gcB_ok ho with ⟨T,c,l,c',_,_,_,rfl⟩ | ⟨v,_,rfl⟩
 ·exact .inl ⟨T,c',AH.at_eq.2 ⟨hg,fun f e h => by cases h⟩⟩
 ·exact .inr ⟨v,hg⟩
section
variable [Tx]
theorem gcH_ok {ns : List Nat} {E : En} {H H' : AH} {w0 : W0} {w : World} (h : gcH ns H = some H') (hH : HR E H w0 w) : HR (enR ns E) H' w0 w := by
 obtain ⟨ha,hnx,hfm,hget⟩ := gcH_get h
 have fmn : ∀ f,H'.fm.get f = none := fun f => by rw [hfm]; rfl
 have any : ∀ {k : Nat} {o : AO},H'.get k = some o → ∃ n,ns[k]? = some n ∧ ((∃ T c l c',H.at n = some (T,c,l) ∧ l ≠ .ro ∧ renL ns c = some c' ∧ o = .cells T c' .own) ∨ ∃ v,H.get n = some (.lst v) ∧ o = .lst v) := fun {k o} hk => by
  rw [hget] at hk
  obtain ⟨n,hn,hb⟩ := Option.bind_eq_some_iff.1 hk
  exact ⟨n,hn,gcB_ok hb⟩
 have cells : ∀ {k : Nat} {o : AO},H'.get k = some o → (∀ v,o ≠ .lst v) → ∃ n T c l c',ns[k]? = some n ∧ H.at n = some (T,c,l) ∧ l ≠ .ro ∧ renL ns c = some c' ∧ o = .cells T c' .own := fun {k o} hk ho => by
  obtain ⟨n,hn,⟨T,c,l,c',g⟩ | ⟨v,_,e⟩⟩ := any hk
  ·exact ⟨n,T,c,l,c',hn,g⟩
  ·exact absurd e (ho v)
 have len : ∀ {k n : Nat},ns[k]? = some n → k < H'.nx := fun hn => by
  rw [hnx]; exact (List.getElem?_eq_some_iff.1 hn).1
 have lv : ∀ {k : Nat},live H' k → ∃ n T c l,ns[k]? = some n ∧ H.at n = some (T,c,l) := fun {k} hl => by
  rcases hl with hl | ⟨es,cl,hl⟩
  ·cases hat : H'.at k with
   |none => rw [hat] at hl; cases hl
   |some q =>
    obtain ⟨T,c,l⟩ := q
    obtain ⟨n,T',c',l',_,g1,g2,_⟩ := cells (AH.at_eq.1 hat).1 (by simp)
    exact ⟨n,T',c',l',g1,g2⟩
  ·obtain ⟨n,T',c',l',_,g1,g2,_,_,g5⟩ := cells hl (by simp)
   cases g5
 refine ⟨hH.wp,hH.ch,fun k p hk => ?_,fun k o hk => ?_,fun f p hf => ?_,fun k T c f e hk => ?_,fun k T c f e hk => ?_,fun k T c l B S hk he => ?_,fun k es cl B S hk he => ?_,fun k k' B S S' hkk he he' hl hl' => ?_,fun k v B S hk he => ?_⟩
 ·obtain ⟨n,hn,_⟩ := Option.bind_eq_some_iff.1 hk
  exact len hn
 ·obtain ⟨n,hn,_⟩ := any hk
  exact len hn
 ·rw [fmn] at hf; cases hf
 ·obtain ⟨_,_,_,_,_,_,_,_,_,e⟩ := cells hk (by simp)
  cases e
 ·obtain ⟨_,_,_,_,_,_,_,_,_,e⟩ := cells (AH.at_eq.1 hk).1 (by simp)
  cases e
 ·obtain ⟨n,T1,c1,l1,c2,hn,hat,hro,hr,e⟩ := cells (AH.at_eq.1 hk).1 (by simp)
  injection e with e1 e2 e3; subst e1; subst e2; subst e3
  have hE : E n = some (B,S) := by
   unfold enR at he; rw [hn] at he; exact he
  obtain ⟨C,T',fz,g1,g2,g3,g4⟩ := hH.cel n _ c1 l1 B S hat hE
  exact ⟨C,T',fz,g1,g2,renL_pre hr g3,fun _ => g4 hro⟩
 ·obtain ⟨_,_,_,_,_,_,_,_,_,e⟩ := cells hk (by simp)
  cases e
 ·obtain ⟨n,T,c,l,hn,hat⟩ := lv hl
  obtain ⟨n',T',c',l',hn',hat'⟩ := lv hl'
  obtain ⟨hne,hf⟩ := apartL_ok ha k k' n n' hkk hn hn'
  have hE : E n = some (B,S) := by unfold enR at he; rw [hn] at he; exact he
  have hE' : E n' = some (B,S') := by unfold enR at he'; rw [hn'] at he'; exact he'
  obtain ⟨f,e,_,_,_,_,g1,g2⟩ := hH.inj n n' B S S' hne hE hE' (.inl (by rw [hat]; rfl)) (.inl (by rw [hat']; rfl))
  have f1 : famOf H n = some f := by unfold famOf; rw [g1]
  have f2 : famOf H n' = some f := by unfold famOf; rw [g2]
  exact absurd f2 (hf f f1)
 ·obtain ⟨n,hn,⟨_,_,_,_,_,_,_,e⟩ | ⟨v',hg,e⟩⟩ := any hk
  ·cases e
  injection e with e; subst e
  have hE : E n = some (B,S) := by unfold enR at he; rw [hn] at he; exact he
  obtain ⟨K,h1,h2,h3,h4⟩ := hH.ls n v B S hg hE
  refine ⟨K,h1,h2,fun m p hm hp => ?_,h4⟩
  obtain ⟨n',hn',hp'⟩ := Option.bind_eq_some_iff.1 hp
  exact h3 n' p (apartL_ok ha m k n' n hm hn' hn).1 hp'
end
end
end Ev
end
section
open Go.RowKit
theorem App.runK {P : Program} {A bx : List Nat} {w : World} {s x : Sl} {size bytes : Nat} {t ty T : TypeId} {z : Value} {vs us : List (List Value)} {K : Value → World → Prop} (ht : P.underlying t = some (.slice T)) (hi : TI P T z size bytes) (hzs : z.cells.size = size) (hsz : 0 < size)
  (h : App A w s size T vs) (hA : ∀ b ∈ A,b < w.heap.size) (hx : Row [] w x size us) (h1 : ∀ u ∈ us.flatten,u.oneCell' = true) (hu : us ≠ [])
  (h63 : s.n + us.length ≤ maxLen) (hbytes : (s.n + us.length) * bytes ≤ 140737488355328) (hbx : ∀ b ∈ bx,b ∈ A)
  (k : ∀ s' w',Own A w' s' size T (vs ++ us) → Chg s.own w w' → (∀ b ∈ s'.blk,b ∈ s.own ∨ w.heap.size ≤ b) → K s'.v w') :
  RunK P (Builtin.append_ #[t,t] ty #[s.v,x.v]) w bx K := by
 obtain ⟨s',w',hr,ho,hc,hb⟩ := append_app (ty := ty) ht hi hzs hsz h hA hx h1 hu h63 hbytes
 refine ⟨_,_,hr,hc.noTouch _ (fun b hb hm => ?_),hc.size,k s' w' ho (hc.mono fun b hb => (List.mem_filter.1 hb).1) hb⟩
 have := (List.mem_filter.1 hm).2
 have := hbx b hb
 simp_all
theorem Own.avoid {A A' : List Nat} {w : World} {s : Sl} {size : Nat} {T : TypeId} {vs : List (List Value)} (h : Own A w s size T vs) (hA : ∀ b ∈ s.blk,b ∉ A') : Own A' w s size T vs :=
 ⟨h.len,h.cap,h.most,h.each,h.at_.imp_right fun ⟨g,cur,h1,_,h3⟩ => ⟨g,cur,h1,hA g (by simp [Sl.blk,h1]),h3⟩⟩
theorem Own.less {A A' : List Nat} {w : World} {s : Sl} {size : Nat} {T : TypeId} {vs : List (List Value)} (h : Own A w s size T vs) (hA : ∀ b ∈ A',b ∈ A) : Own A' w s size T vs :=
 h.avoid fun b hb hm => (h.blk b hb).1 (hA b hm)
theorem Own.cons {A : List Nat} {w : World} {s : Sl} {size : Nat} {T : TypeId} {vs : List (List Value)} (h : Own A w s size T vs) {B : Nat} (hB : B ∉ s.blk) : Own (B :: A) w s size T vs :=
 h.avoid fun b hb hm => by
  rcases List.mem_cons.1 hm with e | hm
  ·subst e; exact hB hb
  ·exact (h.blk b hb).1 hm
end
section
open Go.RowKit
def Nur (A : List Nat) (w : World) (s : Sl) (ts : List T) : Prop :=
 ∃ ps : List (Sl × Sl),ps.length = ts.length ∧ Own A w s 5 28 (List.zipWith tc ts ps) ∧ ∀ (i : Nat) (t : T) (p : Sl × Sl),ts[i]? = some t → ps[i]? = some p → RdT (s.blk ++ A) w t p.1 p.2
theorem Nur.nil (A : List Nat) (w : World) : Nur A w Sl.nil [] := ⟨[],rfl,Own.nil _ _ _ _,by simp⟩
theorem Nur.chg {A F : List Nat} {w w' : World} {s : Sl} {ts : List T} (h : Nur A w s ts) (c : Chg F w w') (hF : ∀ b ∈ F,b ∈ A) : Nur A w' s ts := by
 obtain ⟨ps,hl,ho,hr⟩ := h
 exact ⟨ps,hl,ho.chg c hF,fun i t p ht hp => (hr i t p ht hp).chg c (fun b hb => List.mem_append_right _ (hF b hb))⟩
theorem Nur.ext {A : List Nat} {w w' : World} {s : Sl} {ts : List T} (h : Nur A w s ts) (c : Ext w w') : Nur A w' s ts := h.chg c (by simp)
theorem Nur.less {A A' : List Nat} {w : World} {s : Sl} {ts : List T} (h : Nur A w s ts) (hA : ∀ b ∈ A',b ∈ A) : Nur A' w s ts := by
 obtain ⟨ps,hl,ho,hr⟩ := h
 exact ⟨ps,hl,ho.less hA,fun i t p ht hp => (hr i t p ht hp).less (fun b hb => by
  rcases List.mem_append.1 hb with hb | hb
  ·exact List.mem_append_left _ hb
  ·exact List.mem_append_right _ (hA b hb))⟩
theorem Nur.rd {A : List Nat} {w : World} {s sa : Sl} {ts : List T} (h : Nur A w s ts) {k : Int} {n x : Str} {ats : List (Str × Str)} (ha : Row A w sa 2 (ats.map ac)) : RdT A w (.node k n x ats ts) sa s := by
 obtain ⟨ps,hl,ho,hr⟩ := h
 exact .mk ps ha hl ho.row (fun i t p ht hp => (hr i t p ht hp).less (fun b hb => List.mem_append_right _ hb))
end
section
open Go.RowKit
theorem place {w : World} (v n : Int) (hn : 0 < n) (hn63 : n ≤ 9223372036854775807) : Calls Tryz.prog 15 #[.int .i64 v,.int .i64 n] w (Ret fun u w' => Ext w w' ∧ u = .int .i64 (v.emod n)) := by
 refine law00_Place.ok _ _ ?_
 unfold law00_Place.vc
 have h1 := Int.tmod_eq_emod (a := v) (b := n)
 have h2 := Int.emod_nonneg v (show n ≠ 0 by omega)
 have h3 := Int.emod_lt_of_pos v hn
 have h4 : (((if 0 ≤ v ∨ n ∣ v then 0 else n.natAbs : Nat)) : Int) = 0 ∨ (((if 0 ≤ v ∨ n ∣ v then 0 else n.natAbs : Nat)) : Int) = n := by
  split
  ·exact .inl rfl
  ·right; omega
 generalize (((if 0 ≤ v ∨ n ∣ v then 0 else n.natAbs : Nat)) : Int) = q at h1 h4
 refine ⟨by omega,fun h => ⟨⟨by omega,by omega⟩,Chg.refl _ _,?_⟩,fun h => ⟨Chg.refl _ _,?_⟩⟩
 ·show Value.int .i64 _ = Value.int .i64 (v % n)
  rw [show v.tmod n + n = v % n by omega]
 ·show Value.int .i64 _ = Value.int .i64 (v % n)
  rw [show v.tmod n = v % n by omega]
end
section
open Go.RowKit
def ic (z : Int) : List Value := [.int .i64 z]
inductive Calm : T → Prop where
 |node (k : Int) (n x : Str) (ats : List (Str × Str)) (ks : List T) : (∀ p ∈ ats,p.1 ≠ [122,122]) → (∀ u ∈ ks,Calm u) → Calm (.node k n x ats ks)
structure Sprout (d : Nat) (t : T) : Prop where
 ok : nodeOk t = true
 kind : 2 ≤ t.kind ∧ t.kind ≤ 4
 deep : t.depth ≤ d
 few : t.bulk ≤ 15 * t.size
 calm : Calm t
theorem Sprout.up {d e : Nat} {t : T} (h : Sprout d t) (he : d ≤ e) : Sprout e t := ⟨h.ok,h.kind,Nat.le_trans h.deep he,h.few,h.calm⟩
end
section
open Go.RowKit
structure Grove (us : List T) : Prop where
 ne : us ≠ []
 each : ∀ u ∈ us,Sprout 6 u
 few : (us.map T.size).sum ≤ 40
def grownT (us : List T) : T := .node 1 [] [] [] us
theorem Grove.check {us : List T} (h : Grove us) : (grownT us).check = true := by
 have hs : (grownT us).size ≤ 41 := by rw [T.size_eq]; have := h.few; simp only [grownT,T.kids]; omega
 have hd : (grownT us).depth ≤ 7 := by
  rw [T.depth_eq]
  have : ((grownT us).kids.map T.depth).foldr max 0 ≤ 6 := T.foldr_max_le fun x hx => by
   obtain ⟨u,hm,rfl⟩ := List.mem_map.1 hx
   exact (h.each u hm).deep
  omega
 have hk : kidsOk (grownT us) = true := by
  unfold kidsOk
  rw [List.all_eq_true]
  intro u hm
  have := h.each u hm
  have h3 := this.kind
  rw [this.ok,decide_eq_false (by omega : ¬ u.kind = 5)]; rfl
 unfold T.check
 rw [hk,decide_eq_true (show (grownT us).size ≤ 300 by omega),decide_eq_true (show (grownT us).depth ≤ 60 by omega)]; rfl
end
section
open Go.RowKit
theorem putAt_len (us : List Value) : ∀ (v : List Value) (o : Nat),(putAt v o us).length = v.length := by
 induction us with
 |nil => intro v o; rfl
 |cons u us ih => intro v o; rw [putAt,ih,List.length_set]
end
section
open Go.RowKit
theorem copyK {P : Program} {w : World} {bx : List Nat} {t ty T T0 : TypeId} {z : Value} {size bytes : Nat} {d s : Sl} {g o : Nat} {cur vs : List Value} {ps : Addr} {K : Value → World → Prop} (ht : P.underlying t = some (.slice T)) (hi : TI P T z size bytes) (hd : d.a = some ⟨g,o,none⟩) (hB : Box w g T0 cur) (hs : s.a = some ps)
  (hlen : vs.length = min s.n d.n * size) (hfit : o + vs.length ≤ cur.length) (hsrc : Cells w ps vs) (h1 : ∀ v ∈ vs,v.oneCell' = true) (hbx : g ∉ bx)
  (k : ∀ w',Chg [g] w w' → Box w' g T0 (putAt cur o vs) → K (.int .i64 ((min s.n d.n : Nat) : Int)) w') : RunK P (Builtin.copy_ #[t,t] ty #[d.v,s.v]) w bx K := by
 have hl := run_loadCells_list (P := P) w ps vs hsrc
 have hst := run_storeCells_box (P := P) o vs 0 hB (by simpa using hfit) h1
 have hc := setCells_chg g vs w o
 refine ⟨_,_,?_,hc.noTouch _ (fun b hb hm => by simp at hm; exact hbx (hm ▸ hb)),hc.size,k (setCells w g o vs) hc (setCells_box vs hB)⟩
 unfold Sl.v
 rw [hd,hs]
 rw [hlen] at hl
 have hm : Nat.min s.n d.n = min s.n d.n := rfl
 rw [Nat.add_zero] at hst
 simp [Builtin.copy_,run_underlying ht,Builtin.lenOf,Builtin.firstCells,hi.sizeOf,hm,hl,hst,goInt,Result.andThen]
theorem zerosK {P : Program} {w : World} {bx : List Nat} {t tn ty T : TypeId} {z : Value} {size bytes : Nat} {s : Sl} {olds : List Value} {ps : Addr} {n : Nat} {K : Value → World → Prop} (ht : P.underlying t = some (.slice T)) (htn : P.underlying tn = some (.int .i64)) (hi : TI P T z size bytes) (hsz : 0 < size) (hzs : z.cells.size = size)
  (hs : s.a = some ps) (hold : Cells w ps olds) (hol : olds.length = s.n * size) (hn : 0 < n) (hg : s.c < s.n + n) (h63 : s.n + n ≤ maxLen) (hbytes : (s.n + n) * bytes ≤ 140737488355328)
  (k : ∀ G w' zz,s.n + n ≤ G → G ≤ maxLen → Ext w w' → zz.length = (G - s.n) * size → Box w' w.heap.size T (olds ++ zz) → K (Sl.mk (some ⟨w.heap.size,0,none⟩) (s.n + n) G).v w') : RunK P (Builtin.append_ #[t,tn] ty #[s.v,.int .i64 (n : Int)]) w bx K := by
 obtain ⟨i,h1,h2,h3,h4⟩ := hi
 subst h3 h4
 have hsmall : s.n + n ≤ 9223372036854775807 := by simp only [maxLen] at h63; omega
 have hfirst : (Builtin.firstCells i.size s.n (.slice (some ps) s.n s.c)).run P w.drew = .ok olds.toArray w.drew := by
  have := run_loadCells_list (P := P) w.drew ps olds hold
  rw [hol] at this
  simpa [Builtin.firstCells] using this
 have hr := Lib.run_append_grow_zeros (P := P) w t tn ty T i z .i64 .i64 ht htn h1 h2 (some ps) s.n s.c olds hfirst n hn hsz hg (by omega) (by have := hbytes; rw [Nat.add_mul] at this; omega) (growslice_fits hg hbytes)
 have hE : Ext w (w.drew.alloc (.cells (olds.toArray ++ Builtin.zeroCells z.cells n ++ Builtin.zeroCells z.cells (grownCap w (s.n + n) s.c T - (s.n + n))) T)) := ((Chg.refl [] w).drew).trans (Ext.alloc _ _)
 have hge := grownCap_ge w (s.n + n) s.c T
 have hcm : grownCap w (s.n + n) s.c T ≤ maxLen := grownCap_le_maxLen w (s.n + n) s.c T h63
 refine ⟨_,_,?_,hE.noTouch _,hE.size,k (grownCap w (s.n + n) s.c T) _ ((Builtin.zeroCells z.cells n).toList ++ (Builtin.zeroCells z.cells (grownCap w (s.n + n) s.c T - (s.n + n))).toList) hge hcm hE ?_ ?_⟩
 ·unfold Sl.v; rw [hs]; exact hr
 ·simp only [List.length_append,Array.length_toList,size_zeroCells,hzs,← Nat.add_mul]
  congr 1; omega
 ·unfold Box
  have := heap_alloc_new w.drew (.cells (olds.toArray ++ Builtin.zeroCells z.cells n ++ Builtin.zeroCells z.cells (grownCap w (s.n + n) s.c T - (s.n + n))) T)
  rw [show w.drew.heap.size = w.heap.size from rfl] at this
  rw [this]
  simp
theorem shape_box {w : World} {B : Nat} {T : TypeId} {cs : List Value} (h : Box w B T cs) : w.shape? B = some (T,cs.length) := by
 unfold Box at h; simp [World.shape?,h]
end
section
open Go.RowKit
theorem insertNode {w : World} {g cap vb c1 : Nat} {Tg Tx : TypeId} {cur cx : List Value} {t x : Value} (hB : Box w g Tg (t :: cur)) (hn : 1 ≤ cap) (hcl : cap ≤ cur.length + 1) (hxB : Box w vb Tx (x :: cx)) (hvg : vb ≠ g) (ht1 : t.oneCell' = true) (hx1 : x.oneCell' = true) (hc1 : 1 ≤ c1) :
  Calls Tryz.prog 123 #[(Sl.mk (some ⟨g,0,none⟩) 1 cap).v,.int .i64 0,(Sl.mk (some ⟨vb,0,none⟩) 1 c1).v] w (Ret fun v w' =>
   (2 ≤ cap ∧ v = (Sl.mk (some ⟨g,0,none⟩) 2 cap).v ∧ Chg [g] w w' ∧ Box w' g Tg (x :: t :: cur.drop 1)) ∨
   (∃ G row,2 ≤ G ∧ v = (Sl.mk (some ⟨w.heap.size,0,none⟩) 2 G).v ∧ Ext w w' ∧ Box w' w.heap.size 53 (x :: t :: row) ∧ row.length + 2 = G)) := by
 refine slices_Insert__build_node_build_node_.ok _ _ _ ?_
 unfold slices_Insert__build_node_build_node_.vc
 have hmo : maxLen = 9223372036854775807 := rfl
 have hxc : ∀ {w'},Box w' vb Tx (x :: cx) → Cells w' ⟨vb,0,none⟩ [x] := fun h => h.part 0 [x] (by simp)
 have htc : ∀ {w'},Box w' g Tg (t :: cur) → Cells w' ⟨g,0,none⟩ [t] := fun h => h.part 0 [t] (by simp)
 have o1 : ∀ v ∈ [x],v.oneCell' = true := fun v hv => by rw [List.mem_singleton.1 hv]; exact hx1
 have o2 : ∀ v ∈ [t],v.oneCell' = true := fun v hv => by rw [List.mem_singleton.1 hv]; exact ht1
 dsimp only
 refine ⟨⟨by omega,by omega⟩,fun h => by omega,fun _ => ⟨fun h => by omega,fun _ => ⟨⟨by omega,by omega⟩,fun hgrow => ?_,fun hroom => ?_⟩⟩⟩
 ·have hcut : (Sl.cut ⟨some ⟨g,0,none⟩,1,cap⟩ 1 0 (0 : Int).toNat cap) = ⟨some ⟨g,0,none⟩,0,cap⟩ := by
   unfold Sl.cut; simp [Addr.add_lit]
  have hk : ((1 : Nat) : Int) + ((1 : Nat) : Int) - 0 = ((2 : Nat) : Int) := by omega
  rw [hcut,hk]
  refine ⟨⟨by omega,by omega⟩,⟨by omega,by omega⟩,⟨by omega,by omega⟩,?_⟩
  refine zerosK (s := ⟨some ⟨g,0,none⟩,0,cap⟩) (olds := []) Tryz.underlying54 Tryz.underlying3 ti_53 (by decide) rfl rfl (fun j v hv => by simp at hv) rfl (by omega) (by simp only; omega) (by simp only; omega) (by simp only; omega) fun G w1 zz hG1 hG2 hE1 hzl hB1 => ?_
  simp only [Nat.zero_add] at hG1 ⊢
  simp only [Nat.sub_zero,Nat.mul_one,List.nil_append] at hzl hB1
  refine ⟨_,rfl,⟨by omega,by simp only; omega⟩,?_⟩
  have hc0 : (Sl.cut ⟨some ⟨w.heap.size,0,none⟩,2,G⟩ 1 (0 : Int).toNat 2 G) = ⟨some ⟨w.heap.size,0,none⟩,2,G⟩ := by
   unfold Sl.cut; simp [Addr.add_lit]
  rw [hc0]
  refine copyK (o := 0) (ps := ⟨vb,0,none⟩) (vs := [x]) Tryz.underlying54 ti_53 rfl hB1 rfl (by simp) (by simp; omega) (hxc (hxB.ext hE1)) o1 (by simp) fun w2 hC2 hB2 => ⟨_,rfl,fun w3 hE3 => ⟨⟨by omega,by omega⟩,⟨by omega,by simp only; omega⟩,⟨by omega,by omega⟩,fun w4 hE4 => ?_⟩⟩
  have e1 : ((0 : Int) + ((1 : Nat) : Int)).toNat = 1 := by omega
  have hc2 : (Sl.cut ⟨some ⟨w.heap.size,0,none⟩,2,G⟩ 1 1 2 G) = ⟨some ⟨w.heap.size,1,none⟩,1,G - 1⟩ := by
   unfold Sl.cut
   have : ¬ G = 1 := by omega
   simp [Addr.add_lit,this]
  have hc3 : (Sl.cut ⟨some ⟨g,0,none⟩,1,cap⟩ 1 (0 : Int).toNat 1 cap) = ⟨some ⟨g,0,none⟩,1,cap⟩ := by
   unfold Sl.cut; simp [Addr.add_lit]
  rw [e1,hc2,hc3]
  have hE2 : Ext w w2 := Chg.fresh hE1 hC2 (by simp)
  have hE04 := (hE2.trans hE3).trans hE4
  refine copyK (o := 1) (ps := ⟨g,0,none⟩) (vs := [t]) Tryz.underlying54 ti_53 rfl ((hB2.ext hE3).ext hE4) rfl (by simp) (by rw [putAt_len]; simp; omega) (htc (hB.ext hE04)) o2 (by simp) fun w5 hC5 hB5 => ⟨_,rfl,.inr ⟨G,zz.drop 2,hG1,rfl,Chg.fresh hE04 hC5 (by simp),?_,by rw [List.length_drop]; omega⟩⟩
  match zz,hzl with
  |a :: b :: zz,_ => simpa [putAt] using hB5
  |[],h => simp at h; omega
  |[_],h => simp at h; omega
 ·have hcut : (Sl.cut ⟨some ⟨g,0,none⟩,1,cap⟩ 1 0 (((1 : Nat) : Int) + ((1 : Nat) : Int)).toNat cap) = ⟨some ⟨g,0,none⟩,2,cap⟩ := by
   unfold Sl.cut
   have e : (((1 : Nat) : Int) + ((1 : Nat) : Int)).toNat = 2 := by omega
   rw [e]; simp [Addr.add_lit]
  rw [hcut]
  have e1 : ((0 : Int) + ((1 : Nat) : Int)).toNat = 1 := by omega
  have e0 : (0 : Int).toNat = 0 := rfl
  have hci : ¬ cap = 1 := by omega
  have hci0 : ¬ cap = 0 := by omega
  rw [e1,e0]
  have hc1' : (Sl.cut ⟨some ⟨g,0,none⟩,2,cap⟩ 1 1 2 cap) = ⟨some ⟨g,1,none⟩,1,cap - 1⟩ := by
   unfold Sl.cut; simp [Addr.add_lit,hci]
  have hc2' : (Sl.cut ⟨some ⟨g,0,none⟩,2,cap⟩ 1 0 2 cap) = ⟨some ⟨g,0,none⟩,2,cap⟩ := by
   unfold Sl.cut; simp [Addr.add_lit]
  dsimp only
  rw [hc1',hc2']
  refine ⟨⟨by omega,by omega⟩,⟨by omega,by omega⟩,⟨by omega,by omega⟩,⟨by omega,by omega⟩,false,?_,fun _ w1 hE1 => ⟨⟨by omega,by omega⟩,⟨by omega,by omega⟩,⟨by omega,by omega⟩,fun w2 hE2 => ?_⟩,fun h => by cases h⟩
  ·exact Lib.run_overlaps_apart w _ _ 53 Tryz.underlying54 1 (fun w => (ti_53).sizeOf w) ⟨vb,0,none⟩ ⟨g,1,none⟩ _ _ _ _ hvg Tx Tg (x :: cx).length (t :: cur).length (shape_box hxB) (shape_box hB) (by simp) (hxB.free 0) (hxB.free _)
  ·have hE02 := hE1.trans hE2
   refine copyK (o := 1) (ps := ⟨g,0,none⟩) (vs := [t]) Tryz.underlying54 ti_53 rfl (hB.ext hE02) rfl (by simp) (by simp; omega) (htc (hB.ext hE02)) o2 (by simp) fun w3 hC3 hB3 => ⟨_,rfl,⟨by omega,by omega⟩,?_⟩
   have hxB3 := (hxB.ext hE02).keep hC3 (by simpa using hvg)
   refine copyK (o := 0) (ps := ⟨vb,0,none⟩) (vs := [x]) Tryz.underlying54 ti_53 rfl hB3 rfl (by simp) (by rw [putAt_len]; simp) (hxc hxB3) o1 (by simp) fun w4 hC4 hB4 => ⟨_,rfl,.inl ⟨by omega,rfl,((hE02.mono (by simp)).trans hC3).trans hC4,?_⟩⟩
   match cur,hcl with
   |a :: cur,_ => simpa [putAt] using hB4
   |[],h => simp at h; omega
end
section
open Go.RowKit Go.Shelf Go.Proofs
attribute [local go_sem] Oper.semAt_some
def bkw (zs : List (Option Addr)) (k : Nat) : Nat × Option Addr := (zs.length - 1 - k,zs[zs.length - 1 - k]?.getD none)
abbrev encB (x : Nat × Option Addr) : Array Value := #[Value.int .i64 (x.1 : Int),Value.pointer x.2]
set_option maxRecDepth 100000 in
set_option maxHeartbeats 2000000 in
theorem backward1_in (F : Fence) (n : Nat) (h8 : F.fn 157) (hro : F.round = none) (hn : 1 ≤ n) (l Bs n₀ b off cap : Nat) (zs : List (Option Addr)) (hreach : zs.length * 8 ≤ 140737488351232) (hb : b < n₀) (J Jx : List Nat → World → Prop)
  (hY : ∀ pre x W,J pre W → pre.length < zs.length → YieldAt F (n - 1) Tryz.prog l (encB (bkw zs x)) W fun e W' =>
   (e = .returned (.bool true) ∧ J (pre ++ [x]) W' ∧ Below n₀ W W') ∨ (e = .returned (.bool false) ∧ Jx (pre ++ [x]) W'))
  (W : World) (hBs : W.cell? ⟨Bs,0,none⟩ = some (.slice (some ⟨b,off,none⟩) zs.length cap)) (hBs' : Bs < n₀) (hc : ∀ j,j < zs.length → W.cell? ⟨b,off + j,none⟩ = some (.pointer (zs[j]?.getD none))) (h0 : J [] W) :
  CallsIn F n Tryz.prog 157 #[.func (.yield l) #[] #[],.pointer (some ⟨Bs,0,none⟩)] W fun e W' => (∃ v,e = .returned v) ∧
   ((∃ ys,ys = List.range zs.length ∧ J ys W') ∨ (∃ pre,(∃ k,k ≤ zs.length ∧ pre = List.range k) ∧ Jx pre W')) := by
 refine callsIn_of_wp Tryz.func157 rfl h8 ?_ hro
 simp only [Tryz.ntmps157,List.size_toArray,List.length_cons,List.length_nil,Nat.reduceAdd,Nat.reduceSub,Array.replicate_succ,Array.replicate_zero,List.push_toArray,List.append_toArray,List.nil_append,List.cons_append]
 gi_wp2
 gi_loopw [3] (fun i wr => ∃ k : Nat,k ≤ zs.length ∧ i = .int .i64 ((zs.length : Int) - 1 - (k : Int)) ∧ J (List.range k) wr ∧ Below n₀ W wr)
  (fun i _ => (intOf i + 1).toNat)
 case atStart => exact ⟨0,Nat.zero_le _,by simp,h0,Below.refl _ _⟩
 case round =>
  obtain ⟨k,hk,rfl,hJs,hnx⟩ := hrel
  have hBx : wr.cell? ⟨Bs,0,none⟩ = some (.slice (some ⟨b,off,none⟩) zs.length cap) := (hnx.cell hBs').trans hBs
  by_cases hlt : k < zs.length
  ·have hcx : wr.cell? ⟨b,off + (zs.length - 1 - k),none⟩ = some (.pointer (zs[zs.length - 1 - k]?.getD none)) := (hnx.cell (p := ⟨b,off + (zs.length - 1 - k),none⟩) hb).trans (hc _ (by omega))
   obtain ⟨fn,tmps,assign,body,hy,hR⟩ := hY _ k wr hJs (by rw [List.length_range]; exact hlt)
   dsimp only [encB,bkw] at hy
   obtain ⟨m,hm⟩ : ∃ m : Nat,zs.length - 1 - k = m := ⟨_,rfl⟩
   have hmi : (zs.length : Int) - 1 - (k : Int) = (m : Int) := by omega
   rw [hm] at hcx hy
   rw [hmi]
   gi_wp2
   refine hR.mono ?_
   rintro e W3 (⟨rfl,hJ3,hk3⟩ | ⟨rfl,hJx3⟩)
   ·gi_wp2
    go_roundw
    case rel => exact ⟨k + 1,by omega,by simp; omega,by rw [List.range_succ]; exact hJ3,hnx.trans hk3⟩
    case measure => simp [intOf]
   ·gi_wp2
    refine bodyPost_ret (results_none rfl _ _ _) rfl ?_
    exact ⟨⟨_,rfl⟩,.inr ⟨_,⟨k + 1,by omega,List.range_succ.symm⟩,hJx3⟩⟩
  ·obtain rfl : k = zs.length := by omega
   have hmi : (zs.length : Int) - 1 - (zs.length : Int) = -1 := by omega
   rw [hmi]
   gi_wp2
   go_end0
   exact ⟨⟨_,rfl⟩,.inl ⟨_,rfl,hJs⟩⟩
set_option maxHeartbeats 1000000 in
theorem backward_in (F : Fence) (n : Nat) (h6 : F.fn 133) (hro : F.round = none) (a : Option Addr) (len cap : Nat) (w : World) :
  CallsIn F n Tryz.prog 133 #[.slice a len cap] w fun e w' => e = .returned (.func (.func 157) #[] #[.pointer (some ⟨w.heap.size,0,none⟩)]) ∧ w' = w.alloc (.cells #[.slice a len cap] 54) := by
 refine callsIn_of_wp Tryz.func133 rfl h6 ?_ hro
 simp only [Tryz.ntmps133,List.size_toArray,List.length_cons,List.length_nil,Nat.reduceAdd,Nat.reduceSub,Array.replicate_succ,Array.replicate_zero,List.push_toArray,List.append_toArray,List.nil_append,List.cons_append]
 gi_wp2
 go_ret
 exact ⟨rfl,rfl⟩
theorem backward_stops (F : Fence) (n : Nat) (h8 : F.fn 157) (hro : F.round = none) (hn : 1 ≤ n) (Bs n₀ b off cap : Nat) (zs : List (Option Addr)) (hreach : zs.length * 8 ≤ 140737488351232) (w : World) (hBs : Bs < w.heap.size) (hBs' : Bs < n₀) (hb : b < n₀) (hn₀ : n₀ ≤ w.heap.size)
  (hc : w.cell? ⟨Bs,0,none⟩ = some (.slice (some ⟨b,off,none⟩) zs.length cap)) (hI : ∀ j,j < zs.length → w.cell? ⟨b,off + j,none⟩ = some (.pointer (zs[j]?.getD none))) :
  SeqStopsK F n Tryz.prog 157 #[.pointer (some ⟨Bs,0,none⟩)] (fun k : Nat => encB (bkw zs k)) (Below n₀) (fun ys => ys = List.range zs.length)
   (fun pre => ∃ k,k ≤ zs.length ∧ pre = List.range k) zs.length w := fun l J Jx W hW _ _ hY h0 =>
 backward1_in F n h8 hro hn l Bs n₀ b off cap zs hreach hb J Jx hY W ((hW.cell (p := ⟨Bs,0,none⟩) hBs).trans hc) hBs' (fun j hj => (hW.cell (p := ⟨b,off + j,none⟩) (by simp; omega)).trans (hI j hj)) h0
set_option maxRecDepth 100000 in
set_option maxHeartbeats 4000000 in
theorem raise_in (F : Fence) (n : Nat) (h5 : F.fn 107) (h6 : F.fn 133) (h8 : F.fn 157) (hro : F.round = none) (hn : 3 ≤ n) (bb y off cap p0 p1 : Nat) (w : World)
  (hbb : bb < w.heap.size) (hy : y < w.heap.size)
  (ho : w.cell? ⟨bb,3,none⟩ = some (.slice (some ⟨y,off,none⟩) 2 cap)) (hz0 : w.cell? ⟨y,off,none⟩ = some (.pointer (some ⟨p0,0,none⟩))) (hz1 : w.cell? ⟨y,off + 1,none⟩ = some (.pointer (some ⟨p1,0,none⟩)))
  (hn0 : w.cell? ⟨p0,2,none⟩ = some (.string ⟨#[104,116,109,108]⟩)) (hn1 : w.cell? ⟨p1,2,none⟩ = some (.string ⟨#[98,111,100,121]⟩))
  (v0 : Value) (hm : w.cell? ⟨bb,5,none⟩ = some v0) (hf : w.frozen? ⟨bb,5,none⟩ = false) (hp0 : p0 < w.heap.size) (hp1 : p1 < w.heap.size) :
  CallsIn F n Tryz.prog 107 #[.pointer (some ⟨bb,0,none⟩)] w fun e W' => e = .returned (.tuple #[]) ∧ ∃ w1,Below w.heap.size w w1 ∧ Below w.heap.size (w1.setCell ⟨bb,5,none⟩ (.int .i64 5)) W' := by
 have h1 : 1 ≤ n := by omega
 refine callsIn_of_wp_marks Tryz.func107 rfl h5 ?_ hro
 simp only [Tryz.ntmps107,List.size_toArray,List.length_cons,List.length_nil,Nat.reduceAdd,Nat.reduceSub,Array.replicate_succ,Array.replicate_zero,List.push_toArray,List.append_toArray,List.nil_append,List.cons_append]
 gi_wp2_with (gi_at_call 133; refine (backward_in F (n - 1) h6 hro _ _ _ _).mono ?_; rintro e w' ⟨rfl,rfl⟩)
 obtain ⟨w2,hw2⟩ : ∃ w2,(w.alloc (.cells #[.pointer (some ⟨bb,0,none⟩)] 52)).alloc (.cells #[.slice (some ⟨y,off,none⟩) 2 cap] 54) = w2 := ⟨_,rfl⟩
 have hB0 : Below w.heap.size w w2 := hw2 ▸ ((Below.refl _ w).alloc (Nat.le_refl _) _).alloc (by simp) _
 have hs2 : w2.heap.size = w.heap.size + 2 := by rw [← hw2]; simp
 have hc0 : w2.cell? ⟨w.heap.size,0,none⟩ = some (.pointer (some ⟨bb,0,none⟩)) := by rw [← hw2]; simp
 have hc1 : w2.cell? ⟨w.heap.size + 1,0,none⟩ = some (.slice (some ⟨y,off,none⟩) 2 cap) := by rw [← hw2]; exact (World.cell?_alloc_at _ _ _ _ (by simp)).trans rfl
 rw [hw2]
 have hlen : ([some ⟨p0,0,none⟩,some ⟨p1,0,none⟩] : List (Option Addr)).length = 2 := rfl
 refine wpIn_rangeFunc_ownG hro h1 (gf := 157) (lb := #[.pointer (some ⟨w.heap.size + 1,0,none⟩)]) rfl h8 (enters_of Tryz.func157 (by kernel_rfl) rfl)
  (backward_stops F (n - 1) h8 hro (by omega) (w.heap.size + 1) (w.heap.size + 2) y off cap [some ⟨p0,0,none⟩,some ⟨p1,0,none⟩] (by simp) w2 (by omega) (by omega) (by omega) (by omega) hc1 (fun j hj => ?hz)) belowK_t (belowK_b (by omega)) (Below.refl _ _) (fun _ => rfl)
  (fun pre W => pre = [] ∧ Below (w.heap.size + 2) w2 W)
  (fun c pre W => (c = .ret ∧ ∃ m : Nat,pre = [m]) ∧ ∃ w1,Below (w.heap.size + 2) w2 w1 ∧ Below w.heap.size (w1.setCell ⟨bb,5,none⟩ (.int .i64 (match pre with | [0] => 5 | _ => 4))) W)
  (fun s A B row hs hg hr => ⟨hs.1,ownFrom_below (β := Unit) (B := w2.heap.size) (by omega) (by omega) () A B row hs.2 hg hr⟩)
  (fun c s A B row hs hg hr => ⟨hs.1,hs.2.elim fun w1 h => ⟨w1,h.1,ownFrom_below (β := Unit) (B := w2.heap.size) (by have := h.1.size; simp [World.setCell]; omega) (by omega) () A B row h.2 hg hr⟩⟩)
  ⟨rfl,Below.refl _ _⟩
  (fun x => { tmps := #[.pointer (some ⟨bb,0,none⟩),.pointer (some ⟨w.heap.size,0,none⟩),undef,.pointer (bkw [some ⟨p0,0,none⟩,some ⟨p1,0,none⟩] x).2,.pointer (some ⟨bb,0,none⟩),.pointer (some ⟨bb,0,none⟩),.pointer (some ⟨bb,3,none⟩),.slice (some ⟨y,off,none⟩) 2 cap,.func (.func 157) #[] #[.pointer (some ⟨w.heap.size + 1,0,none⟩)],.int .i64 ((bkw [some ⟨p0,0,none⟩,some ⟨p1,0,none⟩] x).1 : Int),.pointer (bkw [some ⟨p0,0,none⟩,some ⟨p1,0,none⟩] x).2,undef,undef,undef,undef,undef,undef,undef,undef,undef,undef,undef,undef,undef,undef,undef,undef,undef,undef,undef,undef,undef,undef,undef,undef,undef,undef,undef,undef,undef,undef,undef,undef,undef,undef,undef,undef,undef,undef,undef,undef,undef,undef,undef,undef,undef,undef,undef,undef,undef,undef,undef,undef,undef,undef,undef],defers := [] }) ?assign ?body ?done ?stop
 case hz =>
  have : j = 0 ∨ j = 1 := by simp at hj; omega
  rcases this with rfl | rfl
  ·exact (hB0.cell (p := ⟨y,off,none⟩) hy).trans hz0
  ·exact (hB0.cell (p := ⟨y,off + 1,none⟩) hy).trans hz1
 case assign =>
  intro l x W K hK
  gi_wp2
  exact hK
 case body =>
  rintro l pre x W ⟨rfl,hB⟩ _
  have hBB := hB0.trans (hB.mono (by omega))
  have g0 : W.cell? ⟨w.heap.size,0,none⟩ = some (.pointer (some ⟨bb,0,none⟩)) := (hB.cell (p := ⟨w.heap.size,0,none⟩) (by simp)).trans hc0
  have g1 : W.cell? ⟨p0,2,none⟩ = some (.string ⟨#[104,116,109,108]⟩) := (hBB.cell (p := ⟨p0,2,none⟩) hp0).trans hn0
  have g2 : W.cell? ⟨p1,2,none⟩ = some (.string ⟨#[98,111,100,121]⟩) := (hBB.cell (p := ⟨p1,2,none⟩) hp1).trans hn1
  have g3 : W.frozen? ⟨bb,5,none⟩ = false := (hBB.frozen (p := ⟨bb,5,none⟩) hbb).trans hf
  have g4 : W.cell? ⟨bb,5,none⟩ = some v0 := (hBB.cell (p := ⟨bb,5,none⟩) hbb).trans hm
  cases x with
  |zero =>
   show Code.wpIn _ _ _ _ _ { tmps := #[.pointer (some ⟨bb,0,none⟩),.pointer (some ⟨w.heap.size,0,none⟩),undef,.pointer (some ⟨p1,0,none⟩),.pointer (some ⟨bb,0,none⟩),.pointer (some ⟨bb,0,none⟩),.pointer (some ⟨bb,3,none⟩),.slice (some ⟨y,off,none⟩) 2 cap,.func (.func 157) #[] #[.pointer (some ⟨w.heap.size + 1,0,none⟩)],.int .i64 1,.pointer (some ⟨p1,0,none⟩),undef,undef,undef,undef,undef,undef,undef,undef,undef,undef,undef,undef,undef,undef,undef,undef,undef,undef,undef,undef,undef,undef,undef,undef,undef,undef,undef,undef,undef,undef,undef,undef,undef,undef,undef,undef,undef,undef,undef,undef,undef,undef,undef,undef,undef,undef,undef,undef,undef,undef,undef,undef,undef,undef,undef],defers := [] } W
   gi_wp2
   exact ⟨(KeepsOthers.setCell _ _ _).from _,⟨rfl,0,rfl⟩,W,hB,Below.refl _ _⟩
  |succ x =>
   have e1 : bkw [some ⟨p0,0,none⟩,some ⟨p1,0,none⟩] (x + 1) = (0,some ⟨p0,0,none⟩) := by
    unfold bkw
    have : 2 - 1 - (x + 1) = 0 := by omega
    simp only [hlen,this]; rfl
   rw [e1]
   gi_wp2
   exact ⟨(KeepsOthers.setCell _ _ _).from _,⟨rfl,x + 1,rfl⟩,W,hB,Below.refl _ _⟩
 case done =>
  rintro D ys W hD rfl ⟨h,_⟩ hK
  simp at h
 case stop =>
  rintro D c pre W hD ⟨k,hk,rfl⟩ ⟨⟨rfl,m,hm'⟩,w1,hB1,hB2⟩ hK
  obtain rfl : k = 1 := by simpa using congrArg List.length hm'
  gi_wp2
  refine ⟨by simp,.inl ⟨_,_,rfl,run_takeDeferred hK,?_⟩⟩
  refine ⟨_,results_none rfl _ _ _,rfl,w1,hB0.trans (hB1.mono (by omega)),hB2.trans (belowK_b (w := w) (Nat.le_refl _) W D _ _ (by omega) hK rfl rfl)⟩
end
section
theorem oper_round {F : Fence} {n l : Nat} {P : Program} {o : Oper} {a : Act} {w : World} {K : Act → World → Prop} {Q : Exit → Act → World → Prop} (hF : F.round = none) (hd : ∀ c,o.op ≠ .defer c) (h : o.wpIn F n P a w K Q) : o.wpIn (F.inRound l) n P a w K Q := by
 unfold Oper.wpIn at h ⊢
 rw [hF,Oper.semAt_none] at h
 rw [Fence.inRound_round,Oper.semAt_some _ _ _ hd]
 exact h
theorem ops_round {F : Fence} {n l : Nat} {P : Program} {ops : Array Oper} {Q : Exit → Act → World → Prop} (hF : F.round = none) (hd : ∀ (i : Nat) (o : Oper),ops[i]? = some o → ∀ c,o.op ≠ .defer c) :
  ∀ (is : List Nat) (a : Act) (w : World),wpOpsIn F n P ops Q is a w → wpOpsIn (F.inRound l) n P ops Q is a w
 |[],_,_,h => h
 |i :: is,a,w,h => by
  rw [wpOpsIn_cons] at h ⊢
  unfold wpOpIn at h ⊢
  cases hi : ops[i]? with
  |none => rw [hi] at h; exact ops_round hF hd is a w h
  |some o =>
   rw [hi] at h
   dsimp only at h ⊢
   split
   ·rename_i hw
    rw [if_pos hw] at h
    exact Oper.wpIn_mono (fun a w h => ops_round hF hd is a w h) (oper_round hF (hd i o hi) h)
   ·rename_i hw
    rw [if_neg hw] at h
    exact ⟨h.1,ops_round hF hd is _ w h.2⟩
theorem region_round {F : Fence} {n l : Nat} {P : Program} {id : Nat} {ops : Array Oper} {Q : Exit → Act → World → Prop} {a : Act} {w : World} (hF : F.round = none) (hd : ∀ (i : Nat) (o : Oper),ops[i]? = some o → ∀ c,o.op ≠ .defer c) (hm : P.follows .mixedOrders = true)
  (h : wpAnyIn F n P .any ops Q ops.size (Array.replicate ops.size false) a { w with drawn := w.drawn + 1 }) : (Code.region id ops true).wpIn (F.inRound l) n P Q a w := by
 refine wpIn_region_draw fun t => ops_round hF hd _ _ _ ?_
 rw [hm]
 exact wpAnyIn_sound _ _ _ _ _ h
def noDefer (o : Oper) : Bool := match o.op with | .defer _ => false | _ => true
theorem region_round' {F : Fence} {n l : Nat} {P : Program} {id : Nat} {ops : Array Oper} {Q : Exit → Act → World → Prop} {a : Act} {w : World} (hF : F.round = none) (hd : ops.all noDefer = true) (hm : P.follows .mixedOrders = true)
  (h : wpAnyIn F n P .any ops Q ops.size (Array.replicate ops.size false) a w.drew) : (Code.region id ops true).wpIn (F.inRound l) n P Q a w := by
 refine region_round hF (fun i o hi c hc => ?_) hm h
 have := (Array.all_eq_true'.1 hd) o (Array.mem_of_getElem? hi)
 unfold noDefer at this
 rw [hc] at this
 cases this
def NoOut (Q : Exit → Act → World → Prop) : Exit → Act → World → Prop := fun e a w => e ≠ .outgrown ∧ Q e a w
theorem noOut {Q : Exit → Act → World → Prop} : ¬ LetsOut (NoOut Q) := fun ⟨_,_,h⟩ => h.1 rfl
theorem rowsIn_wide {n : Nat} {P : Program} {row : String} {args : Array Value} {w : World} {R : Value → World → Prop} (h : Rows P row args w R) : RowsIn Fence.wide n P row args w R :=
 fun c cs _ => let ⟨v,w',r,s⟩ := h c cs; ⟨v,w',r,stepsIn_wide.2 s⟩
theorem wpIn_of_wp {n : Nat} {P : Program} {o : Oper} {a : Act} {w : World} {K K' : Act → World → Prop} {Q : Exit → Act → World → Prop} (hk : ∀ a w,K a w → K' a w) (h : o.wp P a w K (NoOut Q)) : o.wpIn Fence.wide n P a w K' Q := by
 refine ⟨fun _ _ => trivial,?_⟩
 unfold Oper.wp at h
 rw [show Fence.wide.round = none from rfl,Oper.semAt_none]
 generalize (execOp a.eval o).run P w = r at h ⊢
 have hd : Fence.wide.depth.isSome = true → 1 ≤ n := fun h => by cases h
 have hc : ∀ {f : FuncId} {args : Array Value} {w' : World},o.upon P a K (NoOut Q) (.ok (.enter f args) w') → o.uponIn Fence.wide n P a K' Q (.ok (.enter f args) w') := fun h => by
  refine ⟨hd,callsIn_wide.2 (Calls.mono h fun e w h => ?_)⟩
  cases e with
  |returned v => exact hk _ _ h
  |panicked c => exact h.2
  |outgrown => exact absurd h noOut
 cases r with
 |ok v w' =>
  cases v with
  |value v => exact hk _ _ h
  |skip => exact hk _ _ h
  |defer d => exact hk _ _ h
  |enter f args => exact hc h
  |row r args => exact ⟨hd,rowsIn_wide (Rows.mono h fun _ _ => hk _ _)⟩
  |_ => exact h.elim
 |halt x w' =>
  cases x with
  |panic v => exact h.2
  |_ => exact h.elim
theorem anyIn_of {n : Nat} {P : Program} {md : Region.Mode} {ops : Array Oper} {Q : Exit → Act → World → Prop} : ∀ (fuel : Nat) (listed : Array Bool) (a : Act) (w : World),wpAny P md ops (NoOut Q) fuel listed a w → wpAnyIn Fence.wide n P md ops Q fuel listed a w
 |0,_,_,_,h => ⟨h.1,h.2.2⟩
 |fuel + 1,listed,a,w,h => by
  refine ⟨fun e => (h.1 e).2,fun i hi => ?_⟩
  have h2 := h.2 i hi
  unfold wpOp at h2
  unfold wpOpIn
  cases ho : ops[i]? with
  |none => rw [ho] at h2; exact anyIn_of fuel _ _ _ h2
  |some o =>
   rw [ho] at h2
   dsimp only at h2 ⊢
   split
   ·rename_i hw
    rw [if_pos hw] at h2
    rcases h2 with h2 | h2
    ·exact wpIn_of_wp (fun a w h => anyIn_of fuel _ _ _ h) h2
    ·exact absurd h2.2 noOut
   ·rename_i hw
    rw [if_neg hw] at h2
    exact ⟨fun _ _ => trivial,anyIn_of fuel _ _ _ h2⟩
theorem region_wide {n l : Nat} {P : Program} {id : Nat} {ops : List Oper} {Q : Exit → Act → World → Prop} {a : Act} {w : World} (hd : ops.toArray.all noDefer = true) (hm : P.follows .mixedOrders = true)
  (h : ∀ w',Ext w w' → PR P ops.toArray (NoOut Q) (List.range 0) a w') : (Code.region id ops.toArray true).wpIn (Fence.wide.inRound l) n P Q a w :=
 region_round' rfl hd hm (anyIn_of _ _ _ _ (h w.drew (Chg.refl [] w).drew _ _ (by simp) (fun i hi => by
  simp [Array.getD_eq_getD_getElem?,Array.getElem?_replicate]
  split <;> simp) (by simp)))
end
end Go.Proofs.YtenokfdkckhhiaaGreatDoor
