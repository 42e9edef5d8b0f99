/-
  One operation at a time: what each yields at values of known form. No program is in sight here.
-/
import Derived.Test.YteohbfaechfliaaVcA
import Derived.Laws.Shifts
namespace Go.Proofs.Yteohbfaechfliaa
open Go.RowKit

/-- A value that is there where g holds. -/
def cV (g : Bool) (v : Value) : Value := bif g then v else undef
theorem cV_true (v : Value) : cV true v = v := rfl

/-! ### An operation in a region -/

/-- One operation, carried out or passed by, and what follows. -/
def opK (P : Program) (ops : Array Oper) (Q : Exit → Act → World → Prop) (o : Oper) (K : Act → World → Prop) (a : Act) (w : World) : Prop :=
  if Region.wanted o (yielded ops a.tmps) then o.wp P a w K Q else K (a.put o.dst undef) w

section
variable {P : Program} {ops : Array Oper} {Q : Exit → Act → World → Prop} {K : Act → World → Prop} {n : Nat} {a : Act} {w : World} {L : List (Nat × Value)}

/-- The operations of a region that keeps the text's order, one by one. -/
theorem sq {o : Oper} {rest : List Oper} (h : opK P ops Q o (wpList P ops Q rest) a w) : wpList P ops Q (o :: rest) a w := by
  unfold opK at h
  unfold wpList
  split
  · rename_i hw; rw [if_pos hw] at h; exact .inl h
  · rename_i hw; rw [if_neg hw] at h; exact h
theorem sq_end (h : Q .normal a w) : wpList P ops Q [] a w := h

theorem opK_mono {o : Oper} {K' : Act → World → Prop} (h : opK P ops Q o K a w) (hk : ∀ a w, K a w → K' a w) : opK P ops Q o K' a w := by
  unfold opK at *
  split
  · rename_i hw; rw [if_pos hw] at h; exact Oper.wp_mono hk h
  · rename_i hw; rw [if_neg hw] at h; exact hk _ _ h

theorem opk_val {d : Nat} {op : Op} {ty : TypeId} {pos : String} {after : Array Edge} {v : Value} {w' : World} (hA : Ag n a L) (hd : Nat.blt d n = true)
    (hrun : (execOp a.eval ⟨some d, op, ty, pos, after, none⟩).run P w = .ok (.value v) w')
    (k : ∀ a', Ag n a' ((d, v) :: L) → a' = a.put (some d) v → K a' w') : opK P ops Q ⟨some d, op, ty, pos, after, none⟩ K a w := by
  unfold opK
  simp only [Region.wanted, if_true, Oper.wp, hrun, Oper.upon]
  exact k _ (hA.put hd v) rfl

/-- An operation that yields nothing (a store). -/
theorem opk_skip {op : Op} {ty : TypeId} {pos : String} {after : Array Edge} {w' : World} (hA : Ag n a L)
    (hrun : (execOp a.eval ⟨none, op, ty, pos, after, none⟩).run P w = .ok .skip w')
    (k : ∀ a', Ag n a' L → K a' w') : opK P ops Q ⟨none, op, ty, pos, after, none⟩ K a w := by
  unfold opK
  simp only [Region.wanted, if_true, Oper.wp, hrun, Oper.upon]
  exact k _ hA

theorem yielded_of {j tj : Nat} {g e : Bool} (hA : Ag n a L) (hj : (ops[j]?).bind (·.dst) = some tj) (hl : lookupL tj L = some (cV g (.bool e))) : (yielded ops a.tmps j == some true) = (g && e) ∧ (yielded ops a.tmps j == some false) = (g && !e) := by
  have hv := hA.val tj _ hl
  have : yielded ops a.tmps j = bif g then some e else none := by
    unfold yielded
    rw [hj]
    cases g with
    | false =>
      simp only [cV, cond_false] at hv ⊢
      show (match a.tmps[tj]? with | some (.bool b) => some b | _ => none) = none
      cases ht : a.tmps[tj]? with
      | none => rfl
      | some x =>
        have hx : x = undef := by rw [Array.getD_eq_getD_getElem?, ht] at hv; simpa using hv
        subst hx; rfl
    | true =>
      simp only [cV, cond_true] at hv ⊢
      show (match a.tmps[tj]? with | some (.bool b) => some b | _ => none) = some e
      cases ht : a.tmps[tj]? with
      | none => rw [Array.getD_eq_getD_getElem?, ht] at hv; simp [undef] at hv
      | some x =>
        have hx : x = .bool e := by rw [Array.getD_eq_getD_getElem?, ht] at hv; simpa using hv
        subst hx; rfl
  rw [this]
  cases g <;> cases e <;> exact ⟨rfl, rfl⟩

theorem wanted_of {j tj : Nat} {want g e : Bool} {dst : Option Nat} {op : Op} {ty : TypeId} {pos : String} {after : Array Edge} (hA : Ag n a L) (hj : (ops[j]?).bind (·.dst) = some tj) (hl : lookupL tj L = some (cV g (.bool e))) :
    Region.wanted ⟨dst, op, ty, pos, after, some (j, want)⟩ (yielded ops a.tmps) = (g && (e == want)) := by
  obtain ⟨h1, h2⟩ := yielded_of hA hj hl
  simp only [Region.wanted]
  cases want
  · rw [h2]; cases e <;> rfl
  · rw [h1]; cases e <;> rfl

/-- A guarded operation that leaves the world alone. -/
theorem opk_gval {j tj d : Nat} {want g e : Bool} {op : Op} {ty : TypeId} {pos : String} {after : Array Edge} {v : Value} (hA : Ag n a L) (hd : Nat.blt d n = true)
    (hj : (ops[j]?).bind (·.dst) = some tj) (hl : lookupL tj L = some (cV g (.bool e)))
    (hrun : (g && (e == want)) = true → (execOp a.eval ⟨some d, op, ty, pos, after, some (j, want)⟩).run P w = .ok (.value v) w)
    (k : ∀ a', Ag n a' ((d, cV (g && (e == want)) v) :: L) → a' = a.put (some d) (cV (g && (e == want)) v) → K a' w) : opK P ops Q ⟨some d, op, ty, pos, after, some (j, want)⟩ K a w := by
  unfold opK
  rw [wanted_of hA hj hl]
  by_cases h : (g && (e == want)) = true
  · rw [if_pos h]
    simp only [Oper.wp, hrun h, Oper.upon]
    have := hA.put hd v
    refine k _ ?_ (by rw [h]; rfl)
    rw [h, cV_true]; exact this
  · rw [if_neg h]
    have hf : (g && (e == want)) = false := by simpa using h
    refine k _ ?_ (by rw [hf]; rfl)
    rw [hf]; exact hA.put hd undef

/-- A guarded operation that makes memory. -/
theorem opk_gext {j tj d : Nat} {want g e : Bool} {op : Op} {ty : TypeId} {pos : String} {after : Array Edge} {v : Value} {w1 : World} (hA : Ag n a L) (hd : Nat.blt d n = true)
    (hj : (ops[j]?).bind (·.dst) = some tj) (hl : lookupL tj L = some (cV g (.bool e)))
    (hrun : (g && (e == want)) = true → (execOp a.eval ⟨some d, op, ty, pos, after, some (j, want)⟩).run P w = .ok (.value v) w1)
    (k : ∀ a', Ag n a' ((d, cV (g && (e == want)) v) :: L) → a' = a.put (some d) (cV (g && (e == want)) v) → K a' (bif (g && (e == want)) then w1 else w)) : opK P ops Q ⟨some d, op, ty, pos, after, some (j, want)⟩ K a w := by
  unfold opK
  rw [wanted_of hA hj hl]
  by_cases h : (g && (e == want)) = true
  · rw [if_pos h]
    simp only [Oper.wp, hrun h, Oper.upon]
    have := hA.put hd v
    have k' := k (a.put (some d) v) (by rw [h, cV_true]; exact this) (by rw [h]; rfl)
    rw [h] at k'; exact k'
  · rw [if_neg h]
    have hf : (g && (e == want)) = false := by simpa using h
    have k' := k (a.put (some d) undef) (by rw [hf]; exact hA.put hd undef) (by rw [hf]; rfl)
    rw [hf] at k'; exact k'

/-! ### Calls -/

theorem upon_call {o : Oper} {f : FuncId} {args : Array Value} (hrun : (execOp a.eval o).run P w = .ok (.enter f args) w) {R : Value → World → Prop}
    (hc : Calls P f args w (Ret R)) (k : ∀ v w', R v w' → K (a.put o.dst v) w') : o.wp P a w K Q := by
  unfold Oper.wp
  rw [hrun]
  refine hc.mono fun e w' he => ?_
  cases e with
  | returned v => exact k v w' he
  | _ => exact he.elim

theorem opk_call {d : Nat} {op : Op} {ty : TypeId} {pos : String} {after : Array Edge} {f : FuncId} {args : Array Value} {bx : List Nat} {R : Value → World → Prop} (hA : Ag n a L) (hd : Nat.blt d n = true)
    (hrun : (execOp a.eval ⟨some d, op, ty, pos, after, none⟩).run P w = .ok (.enter f args) w) (hc : CallK P f args w bx R)
    (k : ∀ a' v w', Ag n a' ((d, v) :: L) → a' = a.put (some d) v → NoTouch bx w w' → w.heap.size ≤ w'.heap.size → R v w' → K a' w') : opK P ops Q ⟨some d, op, ty, pos, after, none⟩ K a w := by
  unfold opK
  simp only [Region.wanted, if_true]
  exact upon_call hrun hc fun v w' ⟨h1, h2, h3⟩ => k _ v w' (hA.put hd v) rfl h1 h2 h3

/-- A guarded call whose result is known, and that makes memory at most. -/
theorem opk_gcall {j tj d : Nat} {want g e : Bool} {op : Op} {ty : TypeId} {pos : String} {after : Array Edge} {f : FuncId} {args : Array Value} {v0 : Value} (hA : Ag n a L) (hd : Nat.blt d n = true)
    (hj : (ops[j]?).bind (·.dst) = some tj) (hl : lookupL tj L = some (cV g (.bool e)))
    (hrun : (g && (e == want)) = true → (execOp a.eval ⟨some d, op, ty, pos, after, some (j, want)⟩).run P w = .ok (.enter f args) w)
    (hc : (g && (e == want)) = true → Calls P f args w (Ret fun v w' => Ext w w' ∧ v = v0))
    (k : ∀ a' w', Ag n a' ((d, cV (g && (e == want)) v0) :: L) → a' = a.put (some d) (cV (g && (e == want)) v0) → Ext w w' → K a' w') : opK P ops Q ⟨some d, op, ty, pos, after, some (j, want)⟩ K a w := by
  unfold opK
  rw [wanted_of hA hj hl]
  by_cases h : (g && (e == want)) = true
  · rw [if_pos h]
    refine upon_call (hrun h) (hc h) fun v w' ⟨h1, h2⟩ => k _ w' ?_ (by rw [h, h2]; rfl) h1
    rw [h, cV_true, h2]; exact hA.put hd v0
  · rw [if_neg h]
    have hf : (g && (e == want)) = false := by simpa using h
    refine k _ w ?_ (by rw [hf]; rfl) (Chg.refl _ _)
    rw [hf]; exact hA.put hd undef
end

/-! ### What each operation yields -/

section runs
variable {P : Program} {ρ : Operand → Value} {w : World} {dst : Option Nat} {ty : TypeId} {pos : String} {after : Array Edge} {guard : Option (Nat × Bool)}

theorem r_move {x : Operand} {v : Value} (hx : ρ x = v) : (execOp ρ ⟨dst, .move x, ty, pos, after, guard⟩).run P w = .ok (.value v) w := by simp [execOp, hx]
theorem r_assign {x : Operand} {v : Value} (hx : ρ x = v) : (execOp ρ ⟨dst, .assign x, ty, pos, after, guard⟩).run P w = .ok (.value v) w := by simp [execOp, hx]
theorem r_or {c b : Operand} {e f g : Bool} (hc : ρ c = .bool e) (hb : ρ b = cV g (.bool f)) (hg : e = false → g = true) :
    (execOp ρ ⟨dst, .pick c (.const (.bool true)) b, ty, pos, after, guard⟩).run P w = .ok (.value (.bool (e || f))) w ∨ ρ (.const (.bool true)) ≠ .bool true := by
  by_cases h : ρ (.const (.bool true)) = .bool true
  · left
    cases e with
    | true => simp [execOp, hc, asBool, h]
    | false => simp [execOp, hc, asBool, hb, hg rfl, cV]
  · exact .inr h
end runs

section runs
variable {P : Program} {a : Act} {w : World} {dst : Option Nat} {ty : TypeId} {pos : String} {after : Array Edge} {guard : Option (Nat × Bool)}

theorem r_pick_or {c b : Operand} {e f g : Bool} (hc : a.eval c = .bool e) (hb : a.eval b = cV g (.bool f)) (hg : e = false → g = true) :
    (execOp a.eval ⟨dst, .pick c (.const (.bool true)) b, ty, pos, after, guard⟩).run P w = .ok (.value (.bool (e || f))) w :=
  (r_or hc hb hg).resolve_right (by simp [Act.eval])
theorem r_pick_and {c b : Operand} {e f g : Bool} (hc : a.eval c = .bool e) (hb : a.eval b = cV g (.bool f)) (hg : e = true → g = true) :
    (execOp a.eval ⟨dst, .pick c b (.const (.bool false)), ty, pos, after, guard⟩).run P w = .ok (.value (.bool (e && f))) w := by
  cases e with
  | false =>
    have h0 : a.eval (.const (.bool false)) = .bool false := rfl
    simp [execOp, hc, asBool, h0]
  | true => simp [execOp, hc, asBool, hb, hg rfl, cV]
end runs

section runs
variable {P : Program} {ρ : Operand → Value} {w : World} {dst : Option Nat} {ty : TypeId} {pos : String} {after : Array Edge} {guard : Option (Nat × Bool)}

theorem r_add {t yt : TypeId} {x y : Operand} {k : IntKind} {p q : Int} (hx : ρ x = .int k p) (hy : ρ y = .int k q) :
    (execOp ρ ⟨dst, .binOp .add t x y yt, ty, pos, after, guard⟩).run P w = .ok (.value (.int k (k.wrap (p + q)))) w := by simp [execOp, hx, hy, go_sem, Op.intArith]
theorem r_sub {t yt : TypeId} {x y : Operand} {k : IntKind} {p q : Int} (hx : ρ x = .int k p) (hy : ρ y = .int k q) :
    (execOp ρ ⟨dst, .binOp .sub t x y yt, ty, pos, after, guard⟩).run P w = .ok (.value (.int k (k.wrap (p - q)))) w := by simp [execOp, hx, hy, go_sem, Op.intArith]
theorem r_mul {t yt : TypeId} {x y : Operand} {k : IntKind} {p q : Int} (hx : ρ x = .int k p) (hy : ρ y = .int k q) :
    (execOp ρ ⟨dst, .binOp .mul t x y yt, ty, pos, after, guard⟩).run P w = .ok (.value (.int k (k.wrap (p * q)))) w := by simp [execOp, hx, hy, go_sem, Op.intArith]
theorem r_quo {t yt : TypeId} {x y : Operand} {k : IntKind} {p q : Int} (hx : ρ x = .int k p) (hy : ρ y = .int k q) (h0 : q ≠ 0) :
    (execOp ρ ⟨dst, .binOp .quo t x y yt, ty, pos, after, guard⟩).run P w = .ok (.value (.int k (k.wrap (p.tdiv q)))) w := by simp [execOp, hx, hy, go_sem, Op.intDiv, h0]
theorem r_rem {t yt : TypeId} {x y : Operand} {k : IntKind} {p q : Int} (hx : ρ x = .int k p) (hy : ρ y = .int k q) (h0 : q ≠ 0) :
    (execOp ρ ⟨dst, .binOp .rem t x y yt, ty, pos, after, guard⟩).run P w = .ok (.value (.int k (p.tmod q))) w := by simp [execOp, hx, hy, go_sem, Op.intDiv, h0]
theorem r_and {t yt : TypeId} {x y : Operand} {k : IntKind} {p q : Int} (hx : ρ x = .int k p) (hy : ρ y = .int k q) :
    (execOp ρ ⟨dst, .binOp .and t x y yt, ty, pos, after, guard⟩).run P w = .ok (.value (.int k (bits .and k p q))) w := by simp [execOp, hx, hy, go_sem]
theorem r_bor {t yt : TypeId} {x y : Operand} {k : IntKind} {p q : Int} (hx : ρ x = .int k p) (hy : ρ y = .int k q) :
    (execOp ρ ⟨dst, .binOp .or t x y yt, ty, pos, after, guard⟩).run P w = .ok (.value (.int k (bits .or k p q))) w := by simp [execOp, hx, hy, go_sem]
theorem r_xor {t yt : TypeId} {x y : Operand} {k : IntKind} {p q : Int} (hx : ρ x = .int k p) (hy : ρ y = .int k q) :
    (execOp ρ ⟨dst, .binOp .xor t x y yt, ty, pos, after, guard⟩).run P w = .ok (.value (.int k (bits .xor k p q))) w := by simp [execOp, hx, hy, go_sem]
theorem r_andNot {t yt : TypeId} {x y : Operand} {k : IntKind} {p q : Int} (hx : ρ x = .int k p) (hy : ρ y = .int k q) :
    (execOp ρ ⟨dst, .binOp .andNot t x y yt, ty, pos, after, guard⟩).run P w = .ok (.value (.int k (bits .andNot k p q))) w := by simp [execOp, hx, hy, go_sem]
theorem r_shl {t yt : TypeId} {x y : Operand} {k yk : IntKind} {p q : Int} (hx : ρ x = .int k p) (hy : ρ y = .int yk q) (h0 : 0 ≤ q) (h1 : q ≤ k.bits) :
    (execOp ρ ⟨dst, .binOp .shl t x y yt, ty, pos, after, guard⟩).run P w = .ok (.value (.int k (k.wrap (p * 2 ^ q.toNat)))) w := by
  simp [execOp, hx, hy, go_sem, shift_shl k yk p q h0 h1]
theorem r_shr {t yt : TypeId} {x y : Operand} {k yk : IntKind} {p q : Int} (hx : ρ x = .int k p) (hy : ρ y = .int yk q) (h0 : 0 ≤ q) (h1 : q ≤ k.bits) :
    (execOp ρ ⟨dst, .binOp .shr t x y yt, ty, pos, after, guard⟩).run P w = .ok (.value (.int k (p / 2 ^ q.toNat))) w := by
  simp [execOp, hx, hy, go_sem, shift_shr k yk p q h0 h1]
theorem r_eql {t yt : TypeId} {x y : Operand} {k : IntKind} {p q : Int} (hx : ρ x = .int k p) (hy : ρ y = .int k q) :
    (execOp ρ ⟨dst, .binOp .eql t x y yt, ty, pos, after, guard⟩).run P w = .ok (.value (.bool (decide (p = q)))) w := by simp [execOp, hx, hy, go_sem]; rfl
theorem r_neq {t yt : TypeId} {x y : Operand} {k : IntKind} {p q : Int} (hx : ρ x = .int k p) (hy : ρ y = .int k q) :
    (execOp ρ ⟨dst, .binOp .neq t x y yt, ty, pos, after, guard⟩).run P w = .ok (.value (.bool (decide (p ≠ q)))) w := by
  simp [execOp, hx, hy, go_sem]; rw [Bool.eq_iff_iff]; simp
theorem r_lss {t yt : TypeId} {x y : Operand} {k : IntKind} {p q : Int} (hx : ρ x = .int k p) (hy : ρ y = .int k q) :
    (execOp ρ ⟨dst, .binOp .lss t x y yt, ty, pos, after, guard⟩).run P w = .ok (.value (.bool (decide (p < q)))) w := by simp [execOp, hx, hy, go_sem]
theorem r_leq {t yt : TypeId} {x y : Operand} {k : IntKind} {p q : Int} (hx : ρ x = .int k p) (hy : ρ y = .int k q) :
    (execOp ρ ⟨dst, .binOp .leq t x y yt, ty, pos, after, guard⟩).run P w = .ok (.value (.bool (decide (p ≤ q)))) w := by simp [execOp, hx, hy, go_sem]
theorem r_gtr {t yt : TypeId} {x y : Operand} {k : IntKind} {p q : Int} (hx : ρ x = .int k p) (hy : ρ y = .int k q) :
    (execOp ρ ⟨dst, .binOp .gtr t x y yt, ty, pos, after, guard⟩).run P w = .ok (.value (.bool (decide (q < p)))) w := by simp [execOp, hx, hy, go_sem]
theorem r_geq {t yt : TypeId} {x y : Operand} {k : IntKind} {p q : Int} (hx : ρ x = .int k p) (hy : ρ y = .int k q) :
    (execOp ρ ⟨dst, .binOp .geq t x y yt, ty, pos, after, guard⟩).run P w = .ok (.value (.bool (decide (q ≤ p)))) w := by simp [execOp, hx, hy, go_sem]

theorem Bs_toL (s : Str) : (Bs s).toList = s := by rw [ByteArray.toList_eq]; simp [Bs]

theorem r_seql {t yt : TypeId} {x y : Operand} {p q : Str} (hx : ρ x = .string (Bs p)) (hy : ρ y = .string (Bs q)) :
    (execOp ρ ⟨dst, .binOp .eql t x y yt, ty, pos, after, guard⟩).run P w = .ok (.value (.bool (decide (p = q)))) w := by
  simp only [execOp, hx, hy, eqGuard_at_string, binOp, Op.stringOp, Bs_toL]; simp; rw [Bool.eq_iff_iff]; simp
theorem r_sneq {t yt : TypeId} {x y : Operand} {p q : Str} (hx : ρ x = .string (Bs p)) (hy : ρ y = .string (Bs q)) :
    (execOp ρ ⟨dst, .binOp .neq t x y yt, ty, pos, after, guard⟩).run P w = .ok (.value (.bool (decide (p ≠ q)))) w := by
  simp only [execOp, hx, hy, eqGuard_at_string, binOp, Op.stringOp, Bs_toL]; simp; rw [Bool.eq_iff_iff]; simp
theorem r_slss {t yt : TypeId} {x y : Operand} {p q : Str} (hx : ρ x = .string (Bs p)) (hy : ρ y = .string (Bs q)) :
    (execOp ρ ⟨dst, .binOp .lss t x y yt, ty, pos, after, guard⟩).run P w = .ok (.value (.bool (Op.bytesLess p q))) w := by
  simp only [execOp, hx, hy, eqGuard_at_string, binOp, Op.stringOp, Bs_toL]; simp
theorem r_sleq {t yt : TypeId} {x y : Operand} {p q : Str} (hx : ρ x = .string (Bs p)) (hy : ρ y = .string (Bs q)) :
    (execOp ρ ⟨dst, .binOp .leq t x y yt, ty, pos, after, guard⟩).run P w = .ok (.value (.bool (Op.bytesLess p q || decide (p = q)))) w := by
  simp only [execOp, hx, hy, eqGuard_at_string, binOp, Op.stringOp, Bs_toL]; simp; rw [Bool.eq_iff_iff]; simp
theorem r_sgtr {t yt : TypeId} {x y : Operand} {p q : Str} (hx : ρ x = .string (Bs p)) (hy : ρ y = .string (Bs q)) :
    (execOp ρ ⟨dst, .binOp .gtr t x y yt, ty, pos, after, guard⟩).run P w = .ok (.value (.bool (!(Op.bytesLess p q || decide (p = q))))) w := by
  simp only [execOp, hx, hy, eqGuard_at_string, binOp, Op.stringOp, Bs_toL]; simp; rw [Bool.eq_iff_iff]; simp
theorem r_sgeq {t yt : TypeId} {x y : Operand} {p q : Str} (hx : ρ x = .string (Bs p)) (hy : ρ y = .string (Bs q)) :
    (execOp ρ ⟨dst, .binOp .geq t x y yt, ty, pos, after, guard⟩).run P w = .ok (.value (.bool (!Op.bytesLess p q))) w := by
  simp only [execOp, hx, hy, eqGuard_at_string, binOp, Op.stringOp, Bs_toL]; simp
theorem r_sadd {t yt : TypeId} {x y : Operand} {p q : Str} (hx : ρ x = .string (Bs p)) (hy : ρ y = .string (Bs q)) (hb : p.length + q.length ≤ 9223372036854775807) :
    (execOp ρ ⟨dst, .binOp .add t x y yt, ty, pos, after, guard⟩).run P w = .ok (.value (.string (Bs (p ++ q)))) w := by
  have e : ¬ (((Bs p).size + (Bs q).size : Nat) : Int) > IntKind.i64.max := by
    rw [Bs_size, Bs_size]; simp only [IntKind.max, IntKind.bits, IntKind.signed]; simp; omega
  have e2 : Bs p ++ Bs q = Bs (p ++ q) := by
    apply ByteArray.ext; simp [Bs, ByteArray.data_append]
  simp only [execOp, hx, hy, eqGuard_at_string, binOp, Op.stringOp, e2, if_neg e]
  simp

theorem r_not {t : TypeId} {x : Operand} {b : Bool} (hx : ρ x = .bool b) :
    (execOp ρ ⟨dst, .unOp .not t x, ty, pos, after, guard⟩).run P w = .ok (.value (.bool (!b))) w := by simp [execOp, hx, Op.unary]
theorem r_neg {t : TypeId} {x : Operand} {k : IntKind} {p : Int} (hx : ρ x = .int k p) :
    (execOp ρ ⟨dst, .unOp .neg t x, ty, pos, after, guard⟩).run P w = .ok (.value (.int k (k.wrap (0 - p)))) w := by simp [execOp, hx, Op.unary, Op.intArith]
theorem r_cpl {t : TypeId} {x : Operand} {k : IntKind} {p : Int} (hx : ρ x = .int k p) :
    (execOp ρ ⟨dst, .unOp .xor t x, ty, pos, after, guard⟩).run P w = .ok (.value (.int k (bits .xor k (if k.signed then -1 else k.max) p))) w := by
  simp only [execOp, hx, Op.unary, intBits_xor]; rfl

theorem r_conv {s d : TypeId} {x : Operand} {k k' : IntKind} {p : Int} (hx : ρ x = .int k' p) (hs : (P.underlying s).isSome = true) (hd : P.underlying d = some (.int k)) :
    (execOp ρ ⟨dst, .convert s d x, ty, pos, after, guard⟩).run P w = .ok (.value (.int k (k.wrap p))) w := by
  obtain ⟨z, hz⟩ := Option.isSome_iff_exists.1 hs
  simp [execOp, hx, convert, run_underlying hz, run_underlying hd, Conv.intToInt]

theorem r_len {t : TypeId} {x : Operand} {s : Sl} {e : TypeId} (hx : ρ x = s.v) (ht : P.underlying t = some (.slice e)) :
    (execOp ρ ⟨dst, .call { callee := .builtin .len, args := #[x], argTypes := #[t] }, ty, pos, after, guard⟩).run P w = .ok (.value (.int .i64 (s.n : Int))) w := by
  simp [execOp, resolve, invoke, builtin, Builtin.len_, hx, run_underlying ht, goInt]
theorem r_slen {t : TypeId} {x : Operand} {s : Str} (hx : ρ x = .string (Bs s)) (ht : P.underlying t = some .string) :
    (execOp ρ ⟨dst, .call { callee := .builtin .len, args := #[x], argTypes := #[t] }, ty, pos, after, guard⟩).run P w = .ok (.value (.int .i64 (s.length : Int))) w := by
  simp [execOp, resolve, invoke, builtin, Builtin.len_, hx, run_underlying ht, goInt, Bs_size]
theorem r_min {t u : TypeId} {x y : Operand} {k : IntKind} {p q : Int} (hx : ρ x = .int k p) (hy : ρ y = .int k q) :
    (execOp ρ ⟨dst, .call { callee := .builtin .min, args := #[x, y], argTypes := #[t, u] }, ty, pos, after, guard⟩).run P w = .ok (.value (.int k (min p q))) w := by
  have e : (if q < p then q else p) = min p q := by omega
  simp [execOp, resolve, invoke, builtin, Builtin.min_, Builtin.min2, hx, hy, e]
theorem r_max {t u : TypeId} {x y : Operand} {k : IntKind} {p q : Int} (hx : ρ x = .int k p) (hy : ρ y = .int k q) :
    (execOp ρ ⟨dst, .call { callee := .builtin .max, args := #[x, y], argTypes := #[t, u] }, ty, pos, after, guard⟩).run P w = .ok (.value (.int k (max p q))) w := by
  have e : (if p < q then q else p) = max p q := by omega
  simp [execOp, resolve, invoke, builtin, Builtin.max_, Builtin.max2, hx, hy, e]
theorem r_extract {x : Operand} {vs : Array Value} {i : Nat} {v : Value} (hx : ρ x = .tuple vs) (hv : vs[i]? = some v) :
    (execOp ρ ⟨dst, .extract x i, ty, pos, after, guard⟩).run P w = .ok (.value v) w := by simp [execOp, Instr.extract, hx, hv]
theorem r_nilCheck {x : Operand} {p : Addr} (hx : ρ x = .pointer (some p)) :
    (execOp ρ ⟨dst, .nilCheck x, ty, pos, after, guard⟩).run P w = .ok (.value (.pointer (some p))) w := by simp [execOp, hx]
theorem r_call {f : FuncId} {fn : Func} {xs : Array Operand} {ts : Array TypeId} {args : Array Value} (hf : P.funcs[f]? = some fn) (hn : fn.name ≠ "runtime.NumGoroutine") (hb : fn.body.isSome = true) (hx : xs.map ρ = args) (hρ : ρ (.func f) = .func (.func f) #[] #[]) :
    (execOp ρ ⟨dst, .call { callee := .value (.func f), args := xs, argTypes := ts }, ty, pos, after, guard⟩).run P w = .ok (.enter f args) w := by
  have e : program.run P w = .ok P w := rfl
  have hb' : fn.body.isNone = false := by cases h : fn.body <;> simp_all
  have hn' : (fn.name == "runtime.NumGoroutine") = false := by simpa using hn
  simp only [execOp, resolve, invoke, hρ, Deferred.ofValue, callFunc, hx]
  simp only [Sem.run_bind, Sem.run_pure, Result.andThen_ok, e, hf, hn', hb']
  simp

end runs

end Go.Proofs.Yteohbfaechfliaa
