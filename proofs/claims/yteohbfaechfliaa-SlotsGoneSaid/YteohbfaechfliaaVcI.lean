/-
  Rules, further: guarded operations that write; arrays read at an open number.
-/
import Derived.Test.YteohbfaechfliaaVcH
import Derived.Scope
import Derived.WalkSpells
namespace Go.Proofs.Yteohbfaechfliaa
open Go.RowKit

section ops
variable {P : Program} {ops : Array Oper} {Q : Exit → Act → World → Prop} {K : Act → World → Prop} {n : Nat} {a : Act} {w : World} {L : List (Nat × Value)}
/-- A guarded operation that may write. -/
theorem opk_grunW {j tj d : Nat} {want g e : Bool} {op : Op} {ty : TypeId} {pos : String} {after : Array Edge} {m : Sem Value} {bx : List Nat} {R : Value → World → Prop} (hA : Ag n a L) (hd : Nat.blt d n = true)
    (hj : (ops[j]?).bind (·.dst) = some tj) (hl : lookupL tj L = some (cV g (.bool e)))
    (hrun : (g && (e == want)) = true → ∀ v w', m.run P w = .ok v w' → (execOp a.eval ⟨some d, op, ty, pos, after, some (j, want)⟩).run P w = .ok (.value v) w')
    (hc : (g && (e == want)) = true → ∃ v w', m.run P w = .ok v w' ∧ NoTouch bx w w' ∧ w.heap.size ≤ w'.heap.size ∧ R v w')
    (k : ∀ a' v w', Ag n a' ((d, cV (g && (e == want)) v) :: L) → a' = a.put (some d) (cV (g && (e == want)) v) → NoTouch bx w w' → w.heap.size ≤ w'.heap.size → ((g && (e == want)) = true → R v w') → ((g && (e == want)) = false → w' = w) → K a' w') : opK P ops Q ⟨some d, op, ty, pos, after, some (j, want)⟩ K a w := by
  unfold opK
  rw [wanted_of hA hj hl]
  by_cases h : (g && (e == want)) = true
  · rw [if_pos h]
    obtain ⟨v, w', h0, h1, h2, h3⟩ := hc h
    simp only [Oper.wp, hrun h v w' h0, Oper.upon]
    refine k _ v w' ?_ (by rw [h]; rfl) h1 h2 (fun _ => h3) (fun h' => by rw [h] at h'; cases h')
    rw [h, cV_true]; exact hA.put hd v
  · rw [if_neg h]
    have hf : (g && (e == want)) = false := by simpa using h
    refine k _ undef w ?_ (by rw [hf]; rfl) (fun _ _ _ => rfl) (Nat.le_refl _) (fun h' => absurd h' h) (fun _ => rfl)
    rw [hf]; exact hA.put hd undef
end ops

/-- A cell of an array of one kind, at an open number. -/
theorem Box.cellA {α : Type} {w : World} {B : Nat} {T : TypeId} {cs : List Value} (l : List α) (f : α → Value) (d : α) (h : Box w B T cs) (hcs : cs = l.map f) {i : Int} {n : Nat} (hn : l.length = n) (hi : 0 ≤ i ∧ i < n) : w.cell? ((⟨B, 0, none⟩ : Addr).add (i.toNat * 1)) = some (f (l.getD i.toNat d)) := by
  subst hcs
  rw [Addr.add_lit, Nat.zero_add, Nat.mul_one]
  have hlt : i.toNat < l.length := by omega
  exact h.cell _ _ (by simp [List.getD_eq_getElem?_getD, hlt])

/-! ### Maps, slices that are made, calls of open function values, labelled code -/

/-- An operation without a value of which is known that it runs well: what it leaves. -/
def RunU (P : Program) (m : Sem Unit) (w : World) (bx : List Nat) (K : World → Prop) : Prop :=
  ∃ w', m.run P w = .ok () w' ∧ NoTouch bx w w' ∧ w.heap.size ≤ w'.heap.size ∧ K w'

section ops2
variable {P : Program} {ops : Array Oper} {Q : Exit → Act → World → Prop} {K : Act → World → Prop} {n : Nat} {a : Act} {w : World} {L : List (Nat × Value)}
theorem opk_runU {op : Op} {ty : TypeId} {pos : String} {after : Array Edge} {m : Sem Unit} {bx : List Nat} {R : World → Prop} (hA : Ag n a L)
    (hrun : ∀ w', m.run P w = .ok () w' → (execOp a.eval ⟨none, op, ty, pos, after, none⟩).run P w = .ok .skip w') (hk : RunU P m w bx R)
    (k : ∀ a' w', Ag n a' L → NoTouch bx w w' → w.heap.size ≤ w'.heap.size → R w' → K a' w') : opK P ops Q ⟨none, op, ty, pos, after, none⟩ K a w := by
  obtain ⟨w', h1, h2, h3, h4⟩ := hk
  exact opk_skip hA (hrun w' h1) fun a' h => k a' w' h h2 h3 h4
end ops2

section runs2
variable {P : Program} {ρ : Operand → Value} {w : World} {dst : Option Nat} {ty : TypeId} {pos : String} {after : Array Edge} {guard : Option (Nat × Bool)}
theorem r_nilCheckP {x : Operand} {p : Addr} (hx : ρ x = .pointer (some p)) : (execOp ρ ⟨dst, .nilCheck x, ty, pos, after, guard⟩).run P w = .ok (.value (.pointer (some p))) w := by
  simp [execOp, hx]
theorem r_nilCheckF {x : Operand} {f : FuncId} {fst cap : Array Value} (hx : ρ x = .func (.func f) fst cap) : (execOp ρ ⟨dst, .nilCheck x, ty, pos, after, guard⟩).run P w = .ok (.value (.func (.func f) fst cap)) w := by
  simp [execOp, hx]
theorem r_makeMap {t : TypeId} {v : Value} {w' : World} (hr : (Instr.makeMap t none).run P w = .ok v w') : (execOp ρ ⟨dst, .makeMap t none, ty, pos, after, guard⟩).run P w = .ok (.value v) w' := by
  simp [execOp, hr]
theorem r_makeSlice {t : TypeId} {x y : Operand} {v1 v2 v : Value} {w' : World} (hx : ρ x = v1) (hy : ρ y = v2) (hr : (Instr.makeSlice t v1 v2).run P w = .ok v w') : (execOp ρ ⟨dst, .makeSlice t x y, ty, pos, after, guard⟩).run P w = .ok (.value v) w' := by
  simp [execOp, hx, hy, hr]
theorem r_lookup {t : TypeId} {x y : Operand} {ok : Bool} {v1 v2 v : Value} {w' : World} (hx : ρ x = v1) (hy : ρ y = v2) (hr : (Instr.lookup t v1 v2 ok).run P w = .ok v w') : (execOp ρ ⟨dst, .lookup t x y ok, ty, pos, after, guard⟩).run P w = .ok (.value v) w' := by
  simp [execOp, hx, hy, hr]
theorem r_mapUpdate {t : TypeId} {m k x : Operand} {v1 v2 v3 : Value} {w' : World} (hm : ρ m = v1) (hk : ρ k = v2) (hx : ρ x = v3) (hr : (Instr.mapUpdate t v1 v2 v3).run P w = .ok () w') : (execOp ρ ⟨dst, .mapUpdate t m k x, ty, pos, after, guard⟩).run P w = .ok .skip w' := by
  simp [execOp, hm, hk, hx, hr]
/-- A function that has a text. -/
def Body (P : Program) (f : FuncId) : Prop := ∃ fn, P.funcs[f]? = some fn ∧ fn.name ≠ "runtime.NumGoroutine" ∧ fn.body.isSome = true
theorem r_callO {x : Operand} {f : FuncId} {xs : Array Operand} {ts : Array TypeId} {args fst cap : Array Value} (hf : Body P f) (hx : xs.map ρ = args) (hρ : ρ x = .func (.func f) fst cap) :
    (execOp ρ ⟨dst, .call { callee := .value x, args := xs, argTypes := ts }, ty, pos, after, guard⟩).run P w = .ok (.enter f (fst ++ args ++ cap)) w := by
  obtain ⟨fn, h1, h2, h3⟩ := hf
  exact r_callV h1 h2 h3 hx hρ
end runs2
theorem sco_normal {Q : Exit → Act → World → Prop} {a : Act} {w : World} (h : Q .normal a w) : Exit.noGoto Q .normal a w := h
theorem sco_exit {Q : Exit → Act → World → Prop} {a : Act} {w : World} {i : Nat} (h : Q (.exit i) a w) : Exit.noGoto Q (.exit i) a w := h
theorem sco_ret {Q : Exit → Act → World → Prop} {a : Act} {w : World} (h : Q .ret a w) : Exit.noGoto Q .ret a w := h

section
variable {P : Program} {ops : Array Oper} {Q : Exit → Act → World → Prop}
/-- Floating operations that others which have come waited for have come, too. -/
theorem PRF_drop {D : List (List Nat)} {T Fs X Fs' : List Nat} {V : Nat → Value → World → Prop} {n : Nat} {a0 : Act} {w0 : World} {L : List (Nat × Value)} (hA : Ag n a0 L)
    (hchk : ((X.all fun x => Fs.contains x && T.any fun c => Nat.blt c ops.size && (D.getD c []).contains x) && (Fs.all fun i => X.contains i || Fs'.contains i) && (Fs'.all fun i => Fs.contains i)) = true)
    (fin : ∀ a, (∀ L', SubL L L' → keysOk ops Fs L' = true → Ag n a L') → (∀ j, X.contains j = true → ∀ t, (ops[j]?).bind (·.dst) = some t → V j (a.tmps.getD t undef) w0) → PRF P ops Q D (T ++ X) Fs' V a w0) : PRF P ops Q D T Fs V a0 w0 := by
  simp only [Bool.and_eq_true, List.all_eq_true, List.any_eq_true, Bool.or_eq_true, List.contains_iff_mem, Nat.blt_eq] at hchk
  obtain ⟨⟨h1, h2⟩, h3⟩ := hchk
  intro fuel listed a hM hcount
  have hlX : ∀ x ∈ X, listed.getD x false = true := fun x hx => by
    obtain ⟨_, c, hc, hlt, hm⟩ := h1 x hx
    exact hM.closed c (hM.old c hc hlt) x hm
  refine fin a (fun L' hsub hk => same_ag hA (by rw [hM.tsize, hA.size]) (by rw [hM.defers, hA.defs]) hM.same L' hsub hk) (fun j hj t ht => ?_) fuel listed a ⟨hM.size, fun i hi => ?_, fun i hi hlt => ?_, hM.closed, Chg.refl _ _, rfl, rfl, fun _ _ => rfl, fun i hi hli t ht => hM.vals i (h3 i hi) hli t ht⟩ hcount
  · have hj' : j ∈ X := by simpa using hj
    exact hM.vals j (h1 j hj').1 (hlX j hj') t ht
  · rcases hM.only i hi with h | h
    · exact .inl (List.mem_append.2 (.inl h))
    · rcases h2 i h with h | h
      · exact .inl (List.mem_append.2 (.inr h))
      · exact .inr h
  · rcases List.mem_append.1 hi with h | h
    · exact hM.old i h hlt
    · exact hlX i h

theorem opk_runUF {op : Op} {ty : TypeId} {pos : String} {after : Array Edge} {K : Act → World → Prop} {n : Nat} {a : Act} {w : World} {L : List (Nat × Value)} {m : Sem Unit} {bx : List Nat} {R : World → Prop} (hA : Ag n a L)
    (hrun : ∀ w', m.run P w = .ok () w' → (execOp a.eval ⟨none, op, ty, pos, after, none⟩).run P w = .ok .skip w') (hk : RunU P m w bx R)
    (k : ∀ w', Ag n a L → NoTouch bx w w' → w.heap.size ≤ w'.heap.size → R w' → K a w') : opK P ops Q ⟨none, op, ty, pos, after, none⟩ K a w := by
  obtain ⟨w', h1, h2, h3, h4⟩ := hk
  unfold opK
  simp only [Region.wanted, if_true, Oper.wp, hrun w' h1, Oper.upon]
  exact k _ hA h2 h3 h4
end

section
variable {P : Program} {ρ : Operand → Value} {w : World} {dst : Option Nat} {ty : TypeId} {pos : String} {after : Array Edge} {guard : Option (Nat × Bool)}
theorem r_slnil {t yt e : TypeId} {x y : Operand} {s : Sl} (hx : ρ x = s.v) (hy : ρ y = .slice none 0 0) (hu : P.underlying t = some (.slice e)) : (execOp ρ ⟨dst, .binOp .eql t x y yt, ty, pos, after, guard⟩).run P w = .ok (.value (.bool s.a.isNone)) w := by
  have h := Lib.run_eql_slice_nil (P := P) w t e s.a s.n s.c 0 0 hu
  simp only [execOp, hx, hy, Sl.v]
  simp [eqGuard, h, Result.andThen]
theorem r_slnnil {t yt e : TypeId} {x y : Operand} {s : Sl} (hx : ρ x = s.v) (hy : ρ y = .slice none 0 0) (hu : P.underlying t = some (.slice e)) : (execOp ρ ⟨dst, .binOp .neq t x y yt, ty, pos, after, guard⟩).run P w = .ok (.value (.bool (!s.a.isNone))) w := by
  have h := run_neq_slice_nil_any (P := P) w t e s.a s.n s.c 0 0 hu
  simp only [execOp, hx, hy, Sl.v]
  simp [eqGuard, h, Result.andThen]
theorem r_pnil {t yt : TypeId} {x y : Operand} {o : Option Addr} (hx : ρ x = .pointer o) (hy : ρ y = .pointer none) (hu : P.underlying t = some (.pointer (P.pointee t))) : (execOp ρ ⟨dst, .binOp .eql t x y yt, ty, pos, after, guard⟩).run P w = .ok (.value (.bool o.isNone)) w := by
  have h := run_eql_pointer_nil (P := P) w t o hu
  simp only [execOp, hx, hy]
  simp [eqGuard, h, Result.andThen]
theorem r_pnnil {t yt : TypeId} {x y : Operand} {o : Option Addr} (hx : ρ x = .pointer o) (hy : ρ y = .pointer none) (hu : P.underlying t = some (.pointer (P.pointee t))) : (execOp ρ ⟨dst, .binOp .neq t x y yt, ty, pos, after, guard⟩).run P w = .ok (.value (.bool (!o.isNone))) w := by
  have h := run_neq_pointer_nil (P := P) w t o hu
  simp only [execOp, hx, hy]
  simp [eqGuard, h, Result.andThen]
end

section
variable {P : Program} {ρ : Operand → Value} {w : World} {dst : Option Nat} {ty : TypeId} {pos : String} {after : Array Edge} {guard : Option (Nat × Bool)}
theorem r_buildSlice0 {t e : TypeId} {ze : Value} {esize ebytes : Nat} (hu : P.underlying t = some (.slice e)) (he : TI P e ze esize ebytes) :
    (execOp ρ ⟨dst, .buildSlice t 0 #[], ty, pos, after, guard⟩).run P w = .ok (.value (.slice (some ⟨w.heap.size, 0, none⟩) 0 0)) (w.alloc (.cells ([] : List Value).toArray e (0, 0))) := by
  have h1 : ¬ 0 * esize > 2 ^ 24 := by omega
  have h2 : 0 * esize = 0 := by omega
  simp only [execOp, Instr.buildSlice, Sem.run_bind, run_underlying hu, Result.andThen_ok, he.sizeOf w, if_neg h1, if_pos h2, Sem.run_pure]
  have e0 : ∀ f : Nat → Value, (Array.range 0).map f = #[] := fun f => by
    apply Array.ext <;> simp
  simp [Instr.fill, newRow, newObj]
  rw [e0]
  rfl
end

section
variable {P : Program} {ops : Array Oper} {Q : Exit → Act → World → Prop} {n : Nat} {L : List (Nat × Value)}
/-- What some of these that come give avoids the blocks that others make. -/
def GL : List (Nat × (Value → Nat → World → Prop)) → Nat → Value → Nat → World → Prop
  | [], _ => fun _ _ _ => True
  | (k, g) :: r, i => if Nat.beq i k then g else GL r i
def GLok (F : List Nat) (V : Nat → Value → World → Prop) : List (Nat × (Value → Nat → World → Prop)) → Prop
  | [] => True
  | (k, g) :: r => ((∀ v b w w', Chg F w w' → g v b w → g v b w') ∧ (∀ v b w, V k v w → w.heap.size ≤ b → g v b w)) ∧ GLok F V r
theorem GL_stab {F : List Nat} {V : Nat → Value → World → Prop} : ∀ {Gs : List (Nat × (Value → Nat → World → Prop))}, GLok F V Gs → ∀ i v b w w', Chg F w w' → GL Gs i v b w → GL Gs i v b w'
  | [], _, _, _, _, _, _, _, _ => trivial
  | (k, g) :: r, ⟨⟨h1, _⟩, h3⟩, i, v, b, w, w', hc, h => by
    unfold GL at h ⊢
    split
    · rename_i e; rw [if_pos e] at h; exact h1 _ _ _ _ hc h
    · rename_i e; rw [if_neg e] at h; exact GL_stab h3 i v b w w' hc h
theorem GL_new {F : List Nat} {V : Nat → Value → World → Prop} : ∀ {Gs : List (Nat × (Value → Nat → World → Prop))}, GLok F V Gs → ∀ i v b w, V i v w → w.heap.size ≤ b → GL Gs i v b w
  | [], _, _, _, _, _, _, _ => trivial
  | (k, g) :: r, ⟨⟨_, h2⟩, h3⟩, i, v, b, w, hV, h => by
    unfold GL
    split
    · rename_i e; have := Nat.eq_of_beq_eq_true e; subst this; exact h2 _ _ _ hV h
    · exact GL_new h3 i v b w hV h

def OverR (N M F : List Nat) (G : Nat → Value → Nat → World → Prop) (w0 : World) (V : Nat → Value → World → Prop) (i : Nat) (dst : Option Nat) (a : Act) (w : World) (a' : Act) (w' : World) : Prop := ∃ v, a' = a.put dst v ∧ Chg F w w' ∧ (dst.isSome = true → V i v w') ∧ (N.contains i = true → w.heap.size ≤ blk v) ∧ (M.contains i = true → ∀ b, w0.heap.size ≤ b → b < w.heap.size → G i v b w')
theorem overR_of {N M F : List Nat} {G : Nat → Value → Nat → World → Prop} {w0 : World} {V : Nat → Value → World → Prop} {i : Nat} {o : Oper} {a : Act} {w : World} (h : M.contains i = false) (k : opK P ops Q o (OverN N F V i o.dst a w) a w) : opK P ops Q o (OverR N M F G w0 V i o.dst a w) a w :=
  opK_mono k fun a' w' ⟨v, h1, h2, h3, h4⟩ => ⟨v, h1, h2, h3, h4, fun hh => by rw [h] at hh; cases hh⟩

/-- As parFN; and what these of M give avoids the blocks of N. -/
theorem parFR {D : List (List Nat)} {T S Fs : List Nat} {F KE N M : List Nat} {E Ef : List (Nat × (Value → World → Prop))} {Gs : List (Nat × (Value → Nat → World → Prop))} {a0 : Act} {w0 : World} (hA : Ag n a0 L) (hk : E.map (·.1) = KE)
    (hchk : (backOk ops && certOk ops D && waitE ops D T (S ++ Fs) S && dstOk ops (S ++ Fs) && inOk ops n (S ++ Fs) && apartOk T S && apartOk Fs S && Fs.all (fun i => KE.all fun k => !(Nat.beq i k)) && N.all (fun i => S.contains i) && (M.all (fun i => S.contains i) && M.all (fun i => !(N.contains i)))) = true)
    (hN : ∀ i ∈ N, ∀ v w, VL (E ++ Ef) i v w → blk v < w.heap.size)
    (hG : GLok F (VL (E ++ Ef)) Gs)
    (stab : StabS F (VL (E ++ Ef)) (S ++ Fs))
    (each : EachS ops (fun i o => ∀ a w, Turn ops D (S ++ Fs) F (VL (E ++ Ef)) n a0 w0 i a w → opK P ops Q o (OverR N M F (GL Gs) w0 (VL (E ++ Ef)) i o.dst a w) a w) (S ++ Fs))
    (fin : ∀ a w, Chg F w0 w → (∀ L', SubL L L' → keysOk ops (S ++ Fs) L' = true → Ag n a L') → (∀ j, S.contains j = true → ∀ t, (ops[j]?).bind (·.dst) = some t → VL (E ++ Ef) j (a.tmps.getD t undef) w) →
      (∀ i j, (N.contains i && N.contains j && !(Nat.beq i j)) = true → ∀ t u, (ops[i]?).bind (·.dst) = some t → (ops[j]?).bind (·.dst) = some u → blk (a.tmps.getD t undef) ≠ blk (a.tmps.getD u undef)) →
      (∀ i j, (M.contains i && N.contains j) = true → ∀ t u, (ops[i]?).bind (·.dst) = some t → (ops[j]?).bind (·.dst) = some u → GL Gs i (a.tmps.getD t undef) (blk (a.tmps.getD u undef)) w) → PRF P ops Q D (T ++ S) Fs (VL Ef) a w) : PRF P ops Q D T Fs (VL Ef) a0 w0 := by
  subst hk
  simp only [Bool.and_eq_true] at hchk
  obtain ⟨⟨⟨⟨⟨⟨⟨⟨⟨h1, h2⟩, h3⟩, h4⟩, h5⟩, h6⟩, h7⟩, h8⟩, h9⟩, h10, h11⟩ := hchk
  have hv : ∀ i ∈ Fs, VL (E ++ Ef) i = VL Ef i := fun i hi => VL_skip Ef i E (List.all_eq_true.1 h8 i hi)
  have hNS : ∀ i ∈ N, i ∈ S := fun i hi => by simpa using List.all_eq_true.1 h9 i hi
  have hMS : ∀ i ∈ M, i ∈ S := fun i hi => by simpa using List.all_eq_true.1 h10 i hi
  have hMN : ∀ i ∈ M, i ∉ N := fun i hi => by simpa using List.all_eq_true.1 h11 i hi
  have hdst' := h4
  simp only [dstOk, List.all_eq_true, Bool.or_eq_true, beq_iff_eq, bne_iff_ne] at hdst'
  have hin' := h5
  simp only [inOk, List.all_eq_true, Bool.and_eq_true, decide_eq_true_eq] at hin'
  refine PRF.congr (fun i hi => (hv i hi).symm) fun fuel listed a hM hcount => ?_
  refine mid_runX (E := S) (X := fun listed a w => ((∀ i ∈ N, ∀ j ∈ N, i ≠ j → listed.getD i false = true → listed.getD j false = true → ∀ t u, (ops[i]?).bind (·.dst) = some t → (ops[j]?).bind (·.dst) = some u → blk (a.tmps.getD t undef) ≠ blk (a.tmps.getD u undef)) ∧ (∀ j ∈ N, listed.getD j false = true → ∀ u, (ops[j]?).bind (·.dst) = some u → w0.heap.size ≤ blk (a.tmps.getD u undef))) ∧
      (∀ i ∈ M, ∀ j ∈ N, listed.getD i false = true → listed.getD j false = true → ∀ t u, (ops[i]?).bind (·.dst) = some t → (ops[j]?).bind (·.dst) = some u → GL Gs i (a.tmps.getD t undef) (blk (a.tmps.getD u undef)) w))
    (Y := fun i v w w' => (N.contains i = true → w.heap.size ≤ blk v) ∧ (M.contains i = true → ∀ b, w0.heap.size ≤ b → b < w.heap.size → GL Gs i v b w')) hA h1 h2 (fun e he => List.mem_append.2 (.inl he)) h3 h4 h5 stab.mem (fun i hi o ho a w hs hd hc hsame hvv => ?_) ?_ (fun fuel listed a w hM hX hall hcount => ?_) fuel listed a w0 (hM.wider h6 h7) ?_ hcount
  · refine each.mem i hi o ho a w ⟨hs, hd, hc, hsame, fun j hj t ht => ?_⟩
    simp only [Bool.and_eq_true, List.contains_iff_mem] at hj
    exact hvv j hj.1 hj.2 t ht
  · intro listed a w i o v w' hM hX hi ho hil hils hchg hY
    have hdsti : (ops[i]?).bind (·.dst) = o.dst := by rw [ho]; rfl
    have sep : ∀ j ∈ S ++ Fs, j ≠ i → ∀ t, (ops[j]?).bind (·.dst) = some t → o.dst ≠ some t := by
      intro j hj e t ht h
      rcases hdst' i hi j hj with (h' | h') | h'
      · exact e h'.symm
      · rw [hdsti, h] at h'; cases h'
      · exact h' (by rw [hdsti, h, ht])
    have putne : ∀ t, o.dst ≠ some t → (a.put o.dst v).tmps.getD t undef = a.tmps.getD t undef := by
      intro t hne
      cases hd' : o.dst with
      | none => rfl
      | some d => exact getD_setIfInBounds_ne _ _ _ _ _ (fun e' => hne (by rw [hd', e']))
    have putself : ∀ t, o.dst = some t → (a.put o.dst v).tmps.getD t undef = v := by
      intro t hd'
      rw [hd']
      have hdn : t < a.tmps.size := by
        have := (hin' i hi).2
        rw [hdsti, hd'] at this
        rw [hM.tsize, hA.size]
        simpa using this
      exact getD_setIfInBounds_self _ _ _ _ hdn
    have memS : ∀ j ∈ N, j ∈ S ++ Fs := fun j hj => List.mem_append.2 (.inl (hNS j hj))
    have memM : ∀ j ∈ M, j ∈ S ++ Fs := fun j hj => List.mem_append.2 (.inl (hMS j hj))
    have low : ∀ j ∈ N, j ≠ i → listed.getD j false = true → ∀ t, (ops[j]?).bind (·.dst) = some t → blk (a.tmps.getD t undef) < w.heap.size := fun j hj _ hl t ht => hN j hj _ _ (hM.vals j (memS j hj) hl t ht)
    obtain ⟨⟨hX1, hX2⟩, hX3⟩ := hX
    obtain ⟨hY1, hY2⟩ := hY
    refine ⟨⟨?_, ?_⟩, ?_⟩
    · intro p hp q hq hpq hlp hlq t u ht hu
      rw [getD_set _ _ _ hils] at hlp hlq
      by_cases e1 : p = i
      · subst e1
        have e2 : q ≠ p := fun e => hpq e.symm
        rw [if_neg e2] at hlq
        rw [putself t (by rw [← hdsti]; exact ht), putne u (sep q (memS q hq) e2 u hu)]
        have g := hY1 (by simpa using hp)
        have l := low q hq e2 hlq u hu
        omega
      · rw [if_neg e1] at hlp
        by_cases e2 : q = i
        · subst e2
          rw [putself u (by rw [← hdsti]; exact hu), putne t (sep p (memS p hp) e1 t ht)]
          have g := hY1 (by simpa using hq)
          have l := low p hp e1 hlp t ht
          omega
        · rw [if_neg e2] at hlq
          rw [putne t (sep p (memS p hp) e1 t ht), putne u (sep q (memS q hq) e2 u hu)]
          exact hX1 p hp q hq hpq hlp hlq t u ht hu
    · intro q hq hlq u hu
      rw [getD_set _ _ _ hils] at hlq
      by_cases e2 : q = i
      · subst e2
        rw [putself u (by rw [← hdsti]; exact hu)]
        have g := hY1 (by simpa using hq)
        have := hM.chg.size
        omega
      · rw [if_neg e2] at hlq
        rw [putne u (sep q (memS q hq) e2 u hu)]
        exact hX2 q hq hlq u hu
    · intro p hp q hq hlp hlq t u ht hu
      have hpq : p ≠ q := fun e => hMN p hp (e ▸ hq)
      rw [getD_set _ _ _ hils] at hlp hlq
      by_cases e1 : p = i
      · subst e1
        have e2 : q ≠ p := fun e => hpq e.symm
        rw [if_neg e2] at hlq
        rw [putself t (by rw [← hdsti]; exact ht), putne u (sep q (memS q hq) e2 u hu)]
        exact hY2 (by simpa using hp) _ (hX2 q hq hlq u hu) (low q hq e2 hlq u hu)
      · rw [if_neg e1] at hlp
        by_cases e2 : q = i
        · subst e2
          rw [putself u (by rw [← hdsti]; exact hu), putne t (sep p (memM p hp) e1 t ht)]
          exact GL_stab hG _ _ _ _ _ hchg (GL_new hG p _ _ w (hM.vals p (memM p hp) hlp t ht) (hY1 (by simpa using hq)))
        · rw [if_neg e2] at hlq
          rw [putne t (sep p (memM p hp) e1 t ht), putne u (sep q (memS q hq) e2 u hu)]
          exact GL_stab hG _ _ _ _ _ hchg (hX3 p hp q hq hlp hlq t u ht hu)
  · obtain ⟨⟨hX1, _⟩, hX3⟩ := hX
    refine PRF.congr hv (fin a w hM.chg (fun L' hsub hk => same_ag hA (by rw [hM.tsize, hA.size]) (by rw [hM.defers, hA.defs]) hM.same L' hsub hk) (fun j hj t ht => hM.vals j (List.mem_append.2 (.inl (by simpa using hj))) (hall j (by simpa using hj)) t ht) (fun i j hij t u ht hu => ?_) (fun i j hij t u ht hu => ?_)) fuel listed a ?_ hcount
    · simp only [Bool.and_eq_true, List.contains_iff_mem, Bool.not_eq_true'] at hij
      exact hX1 i hij.1.1 j hij.1.2 (fun e => by subst e; have := hij.2; simp at this) (hall i (hNS i hij.1.1)) (hall j (hNS j hij.1.2)) t u ht hu
    · simp only [Bool.and_eq_true, List.contains_iff_mem] at hij
      exact hX3 i hij.1 j hij.2 (hall i (hMS i hij.1)) (hall j (hNS j hij.2)) t u ht hu
    · refine ⟨hM.size, fun i hi => ?_, fun i hi hlt => ?_, hM.closed, Chg.refl _ _, rfl, rfl, fun _ _ => rfl, fun i hi hli t ht => hM.vals i (List.mem_append.2 (.inr hi)) hli t ht⟩
      · rcases hM.only i hi with h | h
        · exact .inl (List.mem_append.2 (.inl h))
        · rcases List.mem_append.1 h with h | h
          · exact .inl (List.mem_append.2 (.inr h))
          · exact .inr h
      · rcases List.mem_append.1 hi with h | h
        · exact hM.old i h hlt
        · exact hall i h
  · have no : ∀ i ∈ S, listed.getD i false = true → False := fun i hiS hl => by
      simp only [apartOk, List.all_eq_true, Bool.not_eq_true', ← Bool.not_eq_true, List.contains_iff_mem] at h6 h7
      exact (hM.only i hl).elim (h6 i hiS) (h7 i hiS)
    exact ⟨⟨fun i hi j hj _ hl _ => (no i (hNS i hi) hl).elim, fun j hj hl => (no j (hNS j hj) hl).elim⟩, fun i hi j hj hl _ => (no i (hMS i hi) hl).elim⟩
end

end Go.Proofs.Yteohbfaechfliaa
