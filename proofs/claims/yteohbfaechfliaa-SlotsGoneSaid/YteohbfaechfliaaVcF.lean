/-
  Small things that the printed walks use.
-/
import Derived.Test.YteohbfaechfliaaVcE
namespace Go.Proofs.Yteohbfaechfliaa
open Go.RowKit

theorem enter {P : Program} {f : FuncId} {fn : Func} {c : Code} {w : World} {R : Ending → World → Prop} {n : Nat} (vs : List Value) (hf : P.funcs[f]? = some fn) (hb : fn.body = some c) (hn : fn.ntmps = n) (hle : Nat.ble vs.length n = true)
    (k : ∀ a, Ag n a (enterL 0 vs) → c.wp P (bodyPost P fn R) a w) : Calls P f vs.toArray w R := by
  subst hn
  exact calls_of_wp hf hb (k _ (Ag.enter vs _ hle))

inductive ML (ρ : Operand → Value) : List Operand → List Value → Prop
  | nil : ML ρ [] []
  | cons {x : Operand} {v : Value} {xs : List Operand} {vs : List Value} (h : ρ x = v) (t : ML ρ xs vs) : ML ρ (x :: xs) (v :: vs)
theorem ml_nil {ρ : Operand → Value} : ML ρ [] [] := .nil
theorem ml_cons {ρ : Operand → Value} {x : Operand} {v : Value} {xs : List Operand} {vs : List Value} (h : ρ x = v) (t : ML ρ xs vs) : ML ρ (x :: xs) (v :: vs) := .cons h t
theorem map_arr {ρ : Operand → Value} {xs : List Operand} {vs : List Value} (h : ML ρ xs vs) : xs.toArray.map ρ = vs.toArray := by
  have : xs.map ρ = vs := by induction h with
    | nil => rfl
    | cons h _ ih => simp [h, ih]
  simp [this]
inductive ML2 (ρ : Operand → Value) : List (Nat × Operand) → List (Nat × Value) → Prop
  | nil : ML2 ρ [] []
  | cons {i : Nat} {x : Operand} {v : Value} {xs : List (Nat × Operand)} {vs : List (Nat × Value)} (h : ρ x = v) (t : ML2 ρ xs vs) : ML2 ρ ((i, x) :: xs) ((i, v) :: vs)
theorem ml2_nil {ρ : Operand → Value} : ML2 ρ [] [] := .nil
theorem ml2_cons {ρ : Operand → Value} {i : Nat} {x : Operand} {v : Value} {xs : List (Nat × Operand)} {vs : List (Nat × Value)} (h : ρ x = v) (t : ML2 ρ xs vs) : ML2 ρ ((i, x) :: xs) ((i, v) :: vs) := .cons h t
theorem map_arr2 {ρ : Operand → Value} {xs : List (Nat × Operand)} {vs : List (Nat × Value)} (h : ML2 ρ xs vs) : (xs.toArray.map fun (i, x) => (i, ρ x)) = vs.toArray := by
  have : (xs.map fun (i, x) => (i, ρ x)) = vs := by induction h with
    | nil => rfl
    | cons h _ ih => simp [h, ih]
  simp [this]

theorem draw' {P : Program} {id : Nat} {l : List Oper} {Q : Exit → Act → World → Prop} {a : Act} {w : World} (hm : P.follows .mixedOrders = true) (k : ∀ w', Ext w w' → PR P l.toArray Q [] a w') : (Code.region id l.toArray true).wp P Q a w :=
  draw_region hm (k _ ((Chg.refl [] w).drawn _))
section ops
variable {P : Program} {ops : Array Oper} {Q : Exit → Act → World → Prop} {K : Act → World → Prop} {n : Nat} {a : Act} {w : World} {L : List (Nat × Value)}
theorem opk_callX {d : Nat} {op : Op} {ty : TypeId} {pos : String} {after : Array Edge} {f : FuncId} {args : Array Value} {R : Value → World → Prop} (hA : Ag n a L) (hd : Nat.blt d n = true)
    (hrun : (execOp a.eval ⟨some d, op, ty, pos, after, none⟩).run P w = .ok (.enter f args) w) (hc : Calls P f args w (Ret R))
    (k : ∀ a' v w', Ag n a' ((d, v) :: L) → a' = a.put (some d) v → R v w' → K a' w') : opK P ops Q ⟨some d, op, ty, pos, after, none⟩ K a w := by
  unfold opK
  simp only [Region.wanted, if_true]
  exact upon_call hrun hc fun v w' h => k _ v w' (hA.put hd v) rfl h
theorem opk_runX {d : Nat} {op : Op} {ty : TypeId} {pos : String} {after : Array Edge} {m : Sem Value} {R : Value → World → Prop} (hA : Ag n a L) (hd : Nat.blt d n = true)
    (hrun : ∀ v w', m.run P w = .ok v w' → (execOp a.eval ⟨some d, op, ty, pos, after, none⟩).run P w = .ok (.value v) w') (hk : ∃ v w', m.run P w = .ok v w' ∧ R v w')
    (k : ∀ a' v w', Ag n a' ((d, v) :: L) → a' = a.put (some d) v → R v w' → K a' w') : opK P ops Q ⟨some d, op, ty, pos, after, none⟩ K a w := by
  obtain ⟨v, w', h1, h4⟩ := hk
  exact opk_val hA hd (hrun v w' h1) fun a' h e => k a' v w' h e h4
/-- A guarded call of which a relation is known. -/
theorem opk_gcallM {j tj d : Nat} {want g e : Bool} {op : Op} {ty : TypeId} {pos : String} {after : Array Edge} {f : FuncId} {args : Array Value} {R : Value → World → Prop} (hA : Ag n a L) (hd : Nat.blt d n = true)
    (hj : (ops[j]?).bind (·.dst) = some tj) (hl : lookupL tj L = some (cV g (.bool e)))
    (hrun : (g && (e == want)) = true → (execOp a.eval ⟨some d, op, ty, pos, after, some (j, want)⟩).run P w = .ok (.enter f args) w)
    (hc : (g && (e == want)) = true → Calls P f args w (Ret fun v w' => Ext w w' ∧ R v w'))
    (k : ∀ a' v w', Ag n a' ((d, cV (g && (e == want)) v) :: L) → a' = a.put (some d) (cV (g && (e == want)) v) → Ext w w' → ((g && (e == want)) = true → R v w') → K a' w') : opK P ops Q ⟨some d, op, ty, pos, after, some (j, want)⟩ K a w := by
  unfold opK
  rw [wanted_of hA hj hl]
  by_cases h : (g && (e == want)) = true
  · rw [if_pos h]
    refine upon_call (hrun h) (hc h) fun v w' ⟨h1, h2⟩ => k _ v w' ?_ (by rw [h]; rfl) h1 (fun _ => h2)
    rw [h, cV_true]; exact hA.put hd v
  · rw [if_neg h]
    have hf : (g && (e == want)) = false := by simpa using h
    refine k _ undef w ?_ (by rw [hf]; rfl) (Chg.refl _ _) (fun h' => absurd h' h)
    rw [hf]; exact hA.put hd undef
/-- A guarded operation of which a relation is known. -/
theorem opk_grunM {j tj d : Nat} {want g e : Bool} {op : Op} {ty : TypeId} {pos : String} {after : Array Edge} {m : Sem Value} {R : Value → World → Prop} (hA : Ag n a L) (hd : Nat.blt d n = true)
    (hj : (ops[j]?).bind (·.dst) = some tj) (hl : lookupL tj L = some (cV g (.bool e)))
    (hrun : (g && (e == want)) = true → ∀ v w', m.run P w = .ok v w' → (execOp a.eval ⟨some d, op, ty, pos, after, some (j, want)⟩).run P w = .ok (.value v) w')
    (hc : (g && (e == want)) = true → ∃ v w', m.run P w = .ok v w' ∧ Ext w w' ∧ R v w')
    (k : ∀ a' v w', Ag n a' ((d, cV (g && (e == want)) v) :: L) → a' = a.put (some d) (cV (g && (e == want)) v) → Ext w w' → ((g && (e == want)) = true → R v w') → K a' w') : opK P ops Q ⟨some d, op, ty, pos, after, some (j, want)⟩ K a w := by
  unfold opK
  rw [wanted_of hA hj hl]
  by_cases h : (g && (e == want)) = true
  · rw [if_pos h]
    obtain ⟨v, w', h0, h1, h2⟩ := hc h
    simp only [Oper.wp, hrun h v w' h0, Oper.upon]
    refine k _ v w' ?_ (by rw [h]; rfl) h1 (fun _ => h2)
    rw [h, cV_true]; exact hA.put hd v
  · rw [if_neg h]
    have hf : (g && (e == want)) = false := by simpa using h
    refine k _ undef w ?_ (by rw [hf]; rfl) (Chg.refl _ _) (fun h' => absurd h' h)
    rw [hf]; exact hA.put hd undef
theorem cvty {α : Type} [Inhabited α] {g : Bool} {v : Value} {w' : World} (f : α → Value) (V : α → World → Prop) (h : g = true → ∃ x, v = f x ∧ V x w') : ∃ x, cV g v = cV g (f x) ∧ (g = true → V x w') := by
  cases g with
  | true => obtain ⟨x, h1, h2⟩ := h rfl; exact ⟨x, by rw [h1], fun _ => h2⟩
  | false => exact ⟨default, rfl, fun h => by cases h⟩
instance : Inhabited Sl := ⟨Sl.nil⟩
end ops
theorem b_or_mk {x y : Bool} (h : x = true ∨ y = true) : (x || y) = true := by simpa using h
theorem b_or_mkf {x y : Bool} (h : x = false ∧ y = false) : (x || y) = false := by simpa using h
theorem b_and_mk {x y : Bool} (h : x = true ∧ y = true) : (x && y) = true := by simpa using h
theorem b_and_mkf {x y : Bool} (h : x = false ∨ y = false) : (x && y) = false := by cases x <;> cases y <;> simp_all
theorem b_not_mk {x : Bool} (h : x = false) : (!x) = true := by simpa using h
theorem b_not_mkf {x : Bool} (h : x = true) : (!x) = false := by simpa using h
theorem g_mkt {g e : Bool} (hg : g = true) (h : e = true) : (g && (e == true)) = true := by simp [hg, h]
theorem g_mkf {g e : Bool} (hg : g = true) (h : e = false) : (g && (e == false)) = true := by simp [hg, h]
theorem b_not_t {x : Bool} (h : (!x) = true) : x = false := by simpa using h
theorem b_not_f {x : Bool} (h : (!x) = false) : x = true := by simpa using h
theorem b_or_t {x y : Bool} (h : (x || y) = true) : x = true ∨ y = true := by simpa using h
theorem b_or_f {x y : Bool} (h : (x || y) = false) : x = false ∧ y = false := by simpa using h
theorem b_and_t {x y : Bool} (h : (x && y) = true) : x = true ∧ y = true := by simpa using h
theorem b_and_f {x y : Bool} (h : (x && y) = false) : x = false ∨ y = false := by cases x <;> simp_all
theorem g_t {g e : Bool} (h : (g && (e == true)) = true) : e = true := by cases g <;> cases e <;> simp_all
theorem g_f {g e : Bool} (h : (g && (e == false)) = true) : e = false := by cases g <;> cases e <;> simp_all
theorem ones_all (vs : List Value) (h : (vs.all (·.oneCell')) = true) : ∀ v ∈ vs, v.oneCell' = true := by simpa using h

section runs
variable {P : Program} {ρ : Operand → Value} {w : World} {dst : Option Nat} {ty : TypeId} {pos : String} {after : Array Edge} {guard : Option (Nat × Bool)}
theorem r_convS {s d : TypeId} {x : Operand} {p : Str} (hx : ρ x = .string (Bs p)) (hs : P.underlying s = some .string) (hd : P.underlying d = some .string) :
    (execOp ρ ⟨dst, .convert s d x, ty, pos, after, guard⟩).run P w = .ok (.value (.string (Bs p))) w := by
  simp [execOp, hx, convert, run_underlying hs, run_underlying hd]
theorem run_equal_bool {t : TypeId} (p q : Bool) (ht : P.underlying t = some .bool) (d : Nat) : (Op.equalIn (d + 1) t (.bool p) (.bool q)).run P w = .ok (p == q) w := by
  simp [Op.equalIn, run_underlying ht]
theorem r_beql {t yt : TypeId} {x y : Operand} {p q : Bool} (hx : ρ x = .bool p) (hy : ρ y = .bool q) (ht : P.underlying t = some .bool) :
    (execOp ρ ⟨dst, .binOp .eql t x y yt, ty, pos, after, guard⟩).run P w = .ok (.value (.bool (p == q))) w := by
  have h := run_equal_bool (P := P) (w := w) p q ht 9999
  simp only [execOp, hx, hy, eqGuard_at_bool, binOp, Op.equal, Op.maxDepth, Sem.run_bind, Sem.run_pure, Result.andThen_ok]
  rw [h]; rfl
theorem r_bneq {t yt : TypeId} {x y : Operand} {p q : Bool} (hx : ρ x = .bool p) (hy : ρ y = .bool q) (ht : P.underlying t = some .bool) :
    (execOp ρ ⟨dst, .binOp .neq t x y yt, ty, pos, after, guard⟩).run P w = .ok (.value (.bool (!(p == q)))) w := by
  have h := run_equal_bool (P := P) (w := w) p q ht 9999
  simp only [execOp, hx, hy, eqGuard_at_bool, binOp, Op.equal, Op.maxDepth, Sem.run_bind, Sem.run_pure, Result.andThen_ok]
  rw [h]; rfl
end runs

end Go.Proofs.Yteohbfaechfliaa
