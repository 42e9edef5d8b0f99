/-
  The rules in the form in which the program that prints the walks uses them.
-/
import Derived.Test.YteohbfaechfliaaVcD
namespace Go.Proofs.Yteohbfaechfliaa
open Go.RowKit

def I64 (x : Int) : Prop := -9223372036854775808 ≤ x ∧ x ≤ 9223372036854775807
theorem wrapI {x : Int} (h : I64 x) : IntKind.i64.wrap x = x := by
  obtain ⟨h1, h2⟩ := h
  rw [IntKind.wrap_i64]; omega

section runs
variable {P : Program} {ρ : Operand → Value} {w : World} {dst : Option Nat} {ty : TypeId} {pos : String} {after : Array Edge} {guard : Option (Nat × Bool)}
theorem r_addI {t yt : TypeId} {x y : Operand} {p q : Int} (hx : ρ x = .int .i64 p) (hy : ρ y = .int .i64 q) (h : I64 (p + q)) :
    (execOp ρ ⟨dst, .binOp .add t x y yt, ty, pos, after, guard⟩).run P w = .ok (.value (.int .i64 (p + q))) w := by rw [r_add hx hy, wrapI h]
theorem r_subI {t yt : TypeId} {x y : Operand} {p q : Int} (hx : ρ x = .int .i64 p) (hy : ρ y = .int .i64 q) (h : I64 (p - q)) :
    (execOp ρ ⟨dst, .binOp .sub t x y yt, ty, pos, after, guard⟩).run P w = .ok (.value (.int .i64 (p - q))) w := by rw [r_sub hx hy, wrapI h]
theorem r_mulI {t yt : TypeId} {x y : Operand} {p q : Int} (hx : ρ x = .int .i64 p) (hy : ρ y = .int .i64 q) (h : I64 (p * q)) :
    (execOp ρ ⟨dst, .binOp .mul t x y yt, ty, pos, after, guard⟩).run P w = .ok (.value (.int .i64 (p * q))) w := by rw [r_mul hx hy, wrapI h]
theorem r_quoI {t yt : TypeId} {x y : Operand} {p q : Int} (hx : ρ x = .int .i64 p) (hy : ρ y = .int .i64 q) (h0 : q ≠ 0) (h : I64 (p.tdiv q)) :
    (execOp ρ ⟨dst, .binOp .quo t x y yt, ty, pos, after, guard⟩).run P w = .ok (.value (.int .i64 (p.tdiv q))) w := by rw [r_quo hx hy h0, wrapI h]
theorem r_negI {t : TypeId} {x : Operand} {p : Int} (hx : ρ x = .int .i64 p) (h : I64 (0 - p)) :
    (execOp ρ ⟨dst, .unOp .neg t x, ty, pos, after, guard⟩).run P w = .ok (.value (.int .i64 (0 - p))) w := by rw [r_neg hx, wrapI h]
theorem r_convI {s d : TypeId} {x : Operand} {k' : IntKind} {p : Int} (hx : ρ x = .int k' p) (hs : (P.underlying s).isSome = true) (hd : P.underlying d = some (.int .i64)) (h : I64 p) :
    (execOp ρ ⟨dst, .convert s d x, ty, pos, after, guard⟩).run P w = .ok (.value (.int .i64 p)) w := by rw [r_conv hx hs hd, wrapI h]
theorem r_cplU {t : TypeId} {x : Operand} {k : IntKind} {p : Int} (hx : ρ x = .int k p) (hk : k.signed = false) :
    (execOp ρ ⟨dst, .unOp .xor t x, ty, pos, after, guard⟩).run P w = .ok (.value (.int k (bits .xor k k.max p))) w := by rw [r_cpl hx, hk]; rfl

theorem r_build {t : TypeId} {parts : Array (Nat × Operand)} {vs : Array (Nat × Value)} {fs : Array Field} {places : Array (Nat × Nat)} {cells : Array Value} {z : Value} {size bytes : Nat}
    (hp : (parts.map fun (i, x) => (i, ρ x)) = vs) (hz : TI P t z size bytes) (hu : P.underlying t = some (.struct fs)) (hpl : ∀ w, (fs.mapM fun (f : Field) => (do pure (f.offset, ← sizeOf f.type) : Sem (Nat × Nat))).run P w = .ok places w)
    (hf : Instr.fill (places[·]?) z.cells vs.toList = some cells) :
    (execOp ρ ⟨dst, .build t parts, ty, pos, after, guard⟩).run P w = .ok (.value (.agg cells)) w := by
  have hpl' := hpl w
  simp only [execOp, hp, Instr.build, Sem.run_bind, hz.zeroValue w, Result.andThen_ok, run_underlying hu]
  rw [hpl']
  simp [hf]
theorem r_buildA {t e n : TypeId} {parts : Array (Nat × Operand)} {vs : Array (Nat × Value)} {cells : Array Value} {z ze : Value} {size bytes esize ebytes : Nat}
    (hp : (parts.map fun (i, x) => (i, ρ x)) = vs) (hz : TI P t z size bytes) (hu : P.underlying t = some (.array n e)) (he : TI P e ze esize ebytes)
    (hf : Instr.fill (fun i => some (i * esize, esize)) z.cells vs.toList = some cells) :
    (execOp ρ ⟨dst, .build t parts, ty, pos, after, guard⟩).run P w = .ok (.value (.agg cells)) w := by
  simp only [execOp, hp, Instr.build, Sem.run_bind, hz.zeroValue w, Result.andThen_ok, run_underlying hu, he.sizeOf w]
  simp [hf]
theorem r_buildSlice {t e len : TypeId} {parts : Array (Nat × Operand)} {vs : Array (Nat × Value)} {cs : List Value} {ze : Value} {esize ebytes : Nat}
    (hp : (parts.map fun (i, x) => (i, ρ x)) = vs) (hu : P.underlying t = some (.slice e)) (he : TI P e ze esize ebytes) (hle : Nat.ble (len * esize) (2 ^ 24) = true) (h0 : Nat.blt 0 (len * esize) = true)
    (hf : Instr.fill (fun i => some (i * esize, esize)) ((Array.range (len * esize)).map (ze.cells[· % ze.cells.size]!)) vs.toList = some cs.toArray) :
    (execOp ρ ⟨dst, .buildSlice t len parts, ty, pos, after, guard⟩).run P w = .ok (.value (.slice (some ⟨w.heap.size, 0, none⟩) len len)) (w.alloc (.cells cs.toArray e (0, 0))) := by
  have h1' : len * esize ≤ 2 ^ 24 := Nat.le_of_ble_eq_true hle
  have h1 : ¬ len * esize > 2 ^ 24 := Nat.not_lt.2 h1'
  have h2' : 0 < len * esize := by simpa [Nat.blt_eq] using h0
  have h2 : ¬ len * esize = 0 := Nat.ne_of_gt h2'
  simp only [execOp, hp, Instr.buildSlice, Sem.run_bind, run_underlying hu, Result.andThen_ok, he.sizeOf w, if_neg h1, if_neg h2, he.zeroValue w, hf, Sem.run_pure]
  simp only [newRow, newObj]
  rfl
theorem r_makeFunc {fn : Fn} {xs ys : Array Operand} {f c : Array Value} (hx : xs.map ρ = f) (hy : ys.map ρ = c) :
    (execOp ρ ⟨dst, .makeFunc fn xs ys, ty, pos, after, guard⟩).run P w = .ok (.value (.func fn f c)) w := by
  simp [execOp, Instr.makeFunc, hx, hy]
theorem r_callV {x : Operand} {f : FuncId} {fn : Func} {xs : Array Operand} {ts : Array TypeId} {args fst cap : Array Value} (hf : P.funcs[f]? = some fn) (hn : fn.name ≠ "runtime.NumGoroutine") (hb : fn.body.isSome = true) (hx : xs.map ρ = args) (hρ : ρ x = .func (.func f) fst cap) :
    (execOp ρ ⟨dst, .call { callee := .value x, args := xs, argTypes := ts }, ty, pos, after, guard⟩).run P w = .ok (.enter f (fst ++ args ++ cap)) w := by
  have e : program.run P w = .ok P w := rfl
  have hb' : fn.body.isNone = false := by cases h : fn.body <;> simp_all
  have hn' : (fn.name == "runtime.NumGoroutine") = false := by simpa using hn
  simp only [execOp, resolve, invoke, hρ, Deferred.ofValue, callFunc, hx]
  simp only [Sem.run_bind, Sem.run_pure, Result.andThen_ok, e, hf, hn', hb']
  simp
end runs

theorem cv_get {a : Act} {x : Operand} {g : Bool} {v : Value} (h : a.eval x = cV g v) (hg : g = true) : a.eval x = v := by rw [h, hg, cV_true]
theorem g_up {g h : Bool} (hg : (g && h) = true) : g = true := by cases g <;> simp_all

section ops
variable {P : Program} {ops : Array Oper} {Q : Exit → Act → World → Prop} {K : Act → World → Prop} {n : Nat} {a : Act} {w : World} {L : List (Nat × Value)}

theorem New.up {wa w w' : World} {B : Nat} (h : New wa B w) (hs : w.heap.size ≤ w'.heap.size) : New wa B w' := ⟨h.ge, Nat.lt_of_lt_of_le h.lt hs⟩
theorem New.of {wa w w' : World} {B : Nat} {F : List Nat} (c : Chg F wa w) (h : New w B w') : New wa B w' := ⟨Nat.le_trans c.size h.ge, h.lt⟩
theorem Chg.more {F : List Nat} {wa w w' : World} (c : Chg F wa w) (h : Ext w w') : Chg F wa w' := c.trans (Chg.ext h)
theorem Chg.storeNew {F : List Nat} {wa w w' : World} {B : Nat} (c : Chg F wa w) (hn : New wa B w) (h : Chg [B] w w') : Chg F wa w' :=
  ⟨h.os.trans c.os, h.tape.trans c.tape, h.output.trans c.output, Nat.le_trans c.size h.size,
    fun i hi hF => (h.block i (Nat.lt_of_lt_of_le hi c.size) (by have := hn.ge; simp; omega)).trans (c.block i hi hF)⟩
theorem Chg.storeOld {F : List Nat} {wa w w' : World} {B : Nat} (c : Chg F wa w) (h : Chg [B] w w') : Chg (B :: F) wa w' :=
  (c.mono (G := B :: F) (fun x hx => List.mem_cons_of_mem _ hx)).trans (h.mono (fun x hx => by simp at hx; simp [hx]))
theorem Chg.storeIn {F : List Nat} {wa w w' : World} {B : Nat} (c : Chg F wa w) (hB : B ∈ F) (h : Chg [B] w w') : Chg F wa w' :=
  c.trans (h.mono (fun x hx => by simp at hx; rw [hx]; exact hB))

/-- An operation that lays a block. -/
theorem opk_new {d : Nat} {op : Op} {ty : TypeId} {pos : String} {after : Array Edge} {T : TypeId} {cs : List Value} (f : Nat → Value) (hA : Ag n a L) (hd : Nat.blt d n = true)
    (hrun : (execOp a.eval ⟨some d, op, ty, pos, after, none⟩).run P w = .ok (.value (f w.heap.size)) (w.alloc (.cells cs.toArray T (0, 0))))
    (k : ∀ a' w' B, Ext w w' → New w B w' → Box w' B T cs → Ag n a' ((d, f B) :: L) → a' = a.put (some d) (f B) → K a' w') : opK P ops Q ⟨some d, op, ty, pos, after, none⟩ K a w :=
  opk_val hA hd hrun fun a' h e => k a' _ w.heap.size (Ext.alloc _ _) ⟨Nat.le_refl _, by simp⟩ (Box.alloc _ _ _) h e
theorem opk_gnew {j tj d : Nat} {want g e : Bool} {op : Op} {ty : TypeId} {pos : String} {after : Array Edge} {T : TypeId} {cs : List Value} (f : Nat → Value) (hA : Ag n a L) (hd : Nat.blt d n = true)
    (hj : (ops[j]?).bind (·.dst) = some tj) (hl : lookupL tj L = some (cV g (.bool e)))
    (hrun : (g && (e == want)) = true → (execOp a.eval ⟨some d, op, ty, pos, after, some (j, want)⟩).run P w = .ok (.value (f w.heap.size)) (w.alloc (.cells cs.toArray T (0, 0))))
    (k : ∀ a' w' B, Ext w w' → ((g && (e == want)) = true → New w B w' ∧ Box w' B T cs) → Ag n a' ((d, cV (g && (e == want)) (f B)) :: L) → a' = a.put (some d) (cV (g && (e == want)) (f B)) → K a' w') : opK P ops Q ⟨some d, op, ty, pos, after, some (j, want)⟩ K a w :=
  opk_gext hA hd hj hl hrun fun a' h he => by
    by_cases hg : (g && (e == want)) = true
    · refine k a' _ w.heap.size ?_ (fun _ => ?_) h he
      · rw [hg]; exact Ext.alloc _ _
      · rw [hg]; exact ⟨⟨Nat.le_refl _, by simp⟩, Box.alloc _ _ _⟩
    · have hf : (g && (e == want)) = false := by simpa using hg
      refine k a' _ w.heap.size ?_ (fun h' => absurd h' hg) h he
      rw [hf]; exact Chg.refl _ _
theorem opk_store {op : Op} {ty : TypeId} {pos : String} {after : Array Edge} {B o : Nat} {T : TypeId} {cs vs : List Value} (hA : Ag n a L) (hb : Box w B T cs)
    (hrun : (execOp a.eval ⟨none, op, ty, pos, after, none⟩).run P w = .ok .skip (setCells w B o vs))
    (k : ∀ a' w', Chg [B] w w' → Box w' B T (putAt cs o vs) → Ag n a' L → K a' w') : opK P ops Q ⟨none, op, ty, pos, after, none⟩ K a w :=
  opk_skip hA hrun fun a' h => k a' _ (setCells_chg B vs w o) (setCells_box vs hb) h
theorem opk_run {d : Nat} {op : Op} {ty : TypeId} {pos : String} {after : Array Edge} {m : Sem Value} {bx : List Nat} {R : Value → World → Prop} (hA : Ag n a L) (hd : Nat.blt d n = true)
    (hrun : ∀ v w', m.run P w = .ok v w' → (execOp a.eval ⟨some d, op, ty, pos, after, none⟩).run P w = .ok (.value v) w') (hk : RunK P m w bx R)
    (k : ∀ a' v w', Ag n a' ((d, v) :: L) → a' = a.put (some d) v → NoTouch bx w w' → w.heap.size ≤ w'.heap.size → R v w' → K a' w') : opK P ops Q ⟨some d, op, ty, pos, after, none⟩ K a w := by
  obtain ⟨v, w', h1, h2, h3, h4⟩ := hk
  exact opk_val hA hd (hrun v w' h1) fun a' h e => k a' v w' h e h2 h3 h4

/-! ### For operations that come in whatever order -/

def VL : List (Nat × (Value → World → Prop)) → Nat → Value → World → Prop
  | [], _, _, _ => True
  | (k, p) :: r, i, v, w => bif Nat.beq i k then p v w else VL r i v w
def EachS (ops : Array Oper) (f : Nat → Oper → Prop) : List Nat → Prop
  | [] => True
  | i :: r => ((ops[i]?).elim True (f i)) ∧ EachS ops f r
theorem EachS.mem {f : Nat → Oper → Prop} : ∀ {S : List Nat}, EachS ops f S → ∀ i ∈ S, ∀ o, ops[i]? = some o → f i o
  | [], _, i, hi, _, _ => by cases hi
  | j :: r, ⟨h1, h2⟩, i, hi, o, ho => by
    rcases List.mem_cons.1 hi with rfl | hi
    · rw [ho] at h1; exact h1
    · exact h2.mem i hi o ho
def StabS (F : List Nat) (V : Nat → Value → World → Prop) : List Nat → Prop
  | [] => True
  | i :: r => (∀ v w w', Chg F w w' → V i v w → V i v w') ∧ StabS F V r
theorem StabS.mem {F : List Nat} {V : Nat → Value → World → Prop} : ∀ {S : List Nat}, StabS F V S → ∀ i ∈ S, ∀ v w w', Chg F w w' → V i v w → V i v w'
  | [], _, i, hi => by cases hi
  | j :: r, ⟨h1, h2⟩, i, hi => by
    rcases List.mem_cons.1 hi with rfl | hi
    · exact h1
    · exact h2.mem i hi

/-- What an operation finds when its turn comes. -/
structure Turn (ops : Array Oper) (D : List (List Nat)) (S F : List Nat) (V : Nat → Value → World → Prop) (n : Nat) (a0 : Act) (w0 : World) (i : Nat) (a : Act) (w : World) : Prop where
  size : a.tmps.size = n
  defs : a.defers = []
  chg : Chg F w0 w
  same : ∀ t, (∀ j ∈ S, (ops[j]?).bind (·.dst) ≠ some t) → a.tmps.getD t undef = a0.tmps.getD t undef
  vals : ∀ j, (S.contains j && (D.getD i []).contains j) = true → ∀ t, (ops[j]?).bind (·.dst) = some t → V j (a.tmps.getD t undef) w

def keysOk (ops : Array Oper) (S : List Nat) (L : List (Nat × Value)) : Bool := L.all fun p => S.all fun j => (ops[j]?).bind (·.dst) != some p.1
theorem same_ag {S : List Nat} {a0 : Act} (hA : Ag n a0 L) (hs : a.tmps.size = n) (hd : a.defers = []) (hsame : ∀ t, (∀ j ∈ S, (ops[j]?).bind (·.dst) ≠ some t) → a.tmps.getD t undef = a0.tmps.getD t undef)
    (L' : List (Nat × Value)) (hsub : SubL L L') (hk : keysOk ops S L' = true) : Ag n a L' := by
  refine ⟨hs, hd, fun t v hv => ?_⟩
  have hmem : ∀ (M : List (Nat × Value)), lookupL t M = some v → ∃ u, (t, u) ∈ M := by
    intro M
    induction M with
    | nil => intro h; simp [lookupL] at h
    | cons p M ih =>
      obtain ⟨d, u⟩ := p
      intro h
      simp only [lookupL] at h
      cases hb : Nat.beq t d
      · rw [hb] at h
        obtain ⟨u', hu'⟩ := ih (by simpa using h)
        exact ⟨u', List.mem_cons_of_mem _ hu'⟩
      · have e : t = d := Nat.eq_of_beq_eq_true hb
        subst e
        exact ⟨u, List.mem_cons_self ..⟩
  obtain ⟨u, hu⟩ := hmem L' hv
  simp only [keysOk, List.all_eq_true, bne_iff_ne] at hk
  rw [hsame t (fun j hj => hk (t, u) hu j hj)]
  exact hA.val t v (hsub.look t v hv)
theorem Turn.ag {D : List (List Nat)} {S F : List Nat} {V : Nat → Value → World → Prop} {a0 : Act} {w0 : World} {i : Nat} (h : Turn ops D S F V n a0 w0 i a w) (hA : Ag n a0 L) (L' : List (Nat × Value)) (hsub : SubL L L') (hk : keysOk ops S L' = true) : Ag n a L' :=
  same_ag hA h.size h.defs h.same L' hsub hk
theorem Ag.add (h : Ag n a L) {t : Nat} {v : Value} (e : a.tmps.getD t undef = v) : Ag n a ((t, v) :: L) := by
  refine ⟨h.size, h.defs, fun s x hx => ?_⟩
  simp only [lookupL] at hx
  cases hb : Nat.beq s t
  · rw [hb] at hx; exact h.val s x (by simpa using hx)
  · rw [hb] at hx
    have e' : s = t := Nat.eq_of_beq_eq_true hb
    subst e'
    rw [e]; simpa using hx

/-- What an operation leaves when its turn is over. -/
def Over (F : List Nat) (V : Nat → Value → World → Prop) (i : Nat) (dst : Option Nat) (a : Act) (w : World) (a' : Act) (w' : World) : Prop := ∃ v, a' = a.put dst v ∧ Chg F w w' ∧ (dst.isSome = true → V i v w')

theorem par {D : List (List Nat)} {T S : List Nat} {F : List Nat} {V : Nat → Value → World → Prop} {a0 : Act} {w0 : World} (hA : Ag n a0 L)
    (hchk : (backOk ops && certOk ops D && doneOk D T && waitOk ops D T S && dstOk ops S && inOk ops n S && apartOk T S) = true)
    (stab : StabS F V S)
    (each : EachS ops (fun i o => ∀ a w, Turn ops D S F V n a0 w0 i a w → opK P ops Q o (Over F V i o.dst a w) a w) S)
    (fin : ∀ a w, Chg F w0 w → (∀ L', SubL L L' → keysOk ops S L' = true → Ag n a L') → (∀ j, S.contains j = true → ∀ t, (ops[j]?).bind (·.dst) = some t → V j (a.tmps.getD t undef) w) → PR P ops Q (T ++ S) a w) : PR P ops Q T a0 w0 := by
  simp only [Bool.and_eq_true] at hchk
  obtain ⟨⟨⟨⟨⟨⟨h1, h2⟩, h3⟩, h4⟩, h5⟩, h6⟩, h7⟩ := hchk
  refine PR_seg hA h1 h2 h3 h4 h5 h6 h7 stab.mem (fun i hi o ho a w hs hd hc hsame hv => each.mem i hi o ho a w ⟨hs, hd, hc, hsame, fun j hj t ht => ?_⟩) (fun a w hs hd hc hsame hv => fin a w hc (fun L' hsub hk => same_ag hA hs hd hsame L' hsub hk) (fun j hj t ht => hv j (by simpa using hj) t ht))
  simp only [Bool.and_eq_true, List.contains_iff_mem] at hj
  exact hv j hj.1 hj.2 t ht

theorem one {D : List (List Nat)} {T : List Nat} {i : Nat} {o : Oper} (ho : ops[i]? = some o) (hchk : (backOk ops && certOk ops D && doneOk D T && waitOk ops D T [i] && apartOk T [i]) = true)
    (h : opK P ops Q o (PR P ops Q (T ++ [i])) a w) : PR P ops Q T a w := by
  simp only [Bool.and_eq_true] at hchk
  obtain ⟨⟨⟨⟨h1, h2⟩, h3⟩, h4⟩, h5⟩ := hchk
  exact PR_one h1 h2 h3 h4 h5 ho h

end ops

/-! ### Results -/

def resM (a : Act) : ResultVar → Sem Value
  | .tmp t => pure (a.tmps.getD t undef)
  | .cell s t => do loadVar t (← asAddr (a.tmps.getD s undef))
def ResOf (P : Program) (a : Act) (w : World) (r : ResultVar) (v : Value) : Prop := (resM a r).run P w = .ok v w
def ResAll (P : Program) (a : Act) (w : World) : List ResultVar → List Value → Prop
  | [], [] => True
  | r :: rs, v :: vs => ResOf P a w r v ∧ ResAll P a w rs vs
  | _, _ => False
def resTuple : List Value → Value
  | [v] => v
  | vs => .tuple vs.toArray
theorem res_list {P : Program} {a : Act} {w : World} : ∀ (rs : List ResultVar) (vs acc : List Value), ResAll P a w rs vs →
    (rs.foldlM (fun (bs : Array Value) r => do let b ← resM a r; pure (bs.push b)) acc.toArray).run P w = .ok (acc ++ vs).toArray w
  | [], [], acc, _ => by simp
  | r :: rs, v :: vs, acc, ⟨h1, h2⟩ => by
    have ih := res_list rs vs (acc ++ [v]) h2
    simp only [ResOf] at h1
    simp only [List.foldlM_cons, Sem.run_bind, h1, Result.andThen_ok, Sem.run_pure]
    rw [show acc.toArray.push v = (acc ++ [v]).toArray by simp]
    rw [ih]; simp
  | [], _ :: _, _, h => h.elim
  | _ :: _, [], _, h => h.elim
theorem results_eq (fn : Func) (a : Act) : results fn a.tmps = (do let vs ← fn.results.mapM (resM a); pure (if h : vs.size = 1 then vs[0] else .tuple vs)) := by
  unfold results
  congr 2
theorem res_all {P : Program} {fn : Func} {n : Nat} {a : Act} {L : List (Nat × Value)} {w : World} {rs : List ResultVar} {vs : List Value} {R : Value → World → Prop} (hr : fn.results = rs.toArray) (h : Ag n a L) (hv : ResAll P a w rs vs) (hR : R (resTuple vs) w) :
    bodyPost P fn (Ret R) .ret a w := by
  have hl := res_list rs vs [] hv
  refine ⟨h.defs, _, ?_, hR⟩
  rw [results_eq, hr, Sem.run_bind]
  have e : (rs.toArray.mapM (resM a)).run P w = .ok vs.toArray w := by
    rw [Array.mapM_eq_foldlM]
    simpa using hl
  rw [e]
  simp only [Result.andThen_ok, Sem.run_pure]
  match vs with
  | [] => rfl
  | [v] => rfl
  | _ :: _ :: _ => simp [resTuple]
theorem res_of_tmp {P : Program} {n : Nat} {a : Act} {L : List (Nat × Value)} {w : World} {t : Nat} {v : Value} (h : Ag n a L) (hv : lookupL t L = some v) : ResOf P a w (.tmp t) v := by simp only [ResOf, resM, Sem.run_pure, h.val t v hv]
theorem res_of_cell {P : Program} {n : Nat} {a : Act} {L : List (Nat × Value)} {w : World} {s t B : Nat} {T : TypeId} {cs : List Value} {d : TypeDesc} {z : Value} {bytes : Nat} (h : Ag n a L) (hv : lookupL s L = some (.pointer (some ⟨B, 0, none⟩))) (hb : Box w B T cs)
    (hu : P.underlying t = some d) (hd : notAgg d = false) (ht : TI P t z cs.length bytes) : ResOf P a w (.cell s t) (.agg cs.toArray) := by
  have e := h.val s _ hv
  simp only [ResOf, resM, e, asAddr, Sem.run_bind, Sem.run_pure, Result.andThen_ok, loadVar, run_isAgg_yes hu hd w, if_true, ht.sizeOf w, run_loadCells_list w ⟨B, 0, none⟩ cs hb.cells]
theorem res_of_cell1 {P : Program} {n : Nat} {a : Act} {L : List (Nat × Value)} {w : World} {s t B : Nat} {T : TypeId} {v : Value} {d : TypeDesc} (h : Ag n a L) (hv : lookupL s L = some (.pointer (some ⟨B, 0, none⟩))) (hb : Box w B T [v])
    (hu : P.underlying t = some d) (hd : notAgg d = true) : ResOf P a w (.cell s t) v := by
  have e := h.val s _ hv
  have hc : w.cell? ⟨B, 0, none⟩ = some v := hb.cell 0 v rfl
  simp only [ResOf, resM, e, asAddr, Sem.run_bind, Sem.run_pure, Result.andThen_ok, loadVar, run_isAgg_no hu hd w]
  simp [hc]

end Go.Proofs.Yteohbfaechfliaa
