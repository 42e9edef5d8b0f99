/-
  More operations: structs compared, nil slices, a new block under a guard, the library's comparison of texts.
-/
import Derived.Test.YteohbfaechfliaaVcF
import Derived.Laws.StructEq
import Derived.Laws.Cover3
import Derived.Laws.Externs
import Derived.Lib.Bytealg
namespace Go.Proofs.Yteohbfaechfliaa
open Go.RowKit

section runs
variable {P : Program} {ρ : Operand → Value} {w : World} {dst : Option Nat} {ty : TypeId} {pos : String} {after : Array Edge} {guard : Option (Nat × Bool)}

def EqA (P : Program) (t : TypeId) (xs ys : Array Value) (b : Bool) : Prop := P.eqGuardType P.depth t = false ∧ ∀ w, (Op.equalIn 10000 t (.agg xs) (.agg ys)).run P w = .ok b w
def FE (P : Program) (xs ys : Array Value) (fs : List Field) (b : Bool) : Prop := ∀ w, (Op.eqFields 9999 xs ys fs).run P w = .ok b w
theorem fe_nil (xs ys : Array Value) : FE P xs ys [] true := fun w => by simp [Op.eqFields]
theorem fe_of {xs ys : Array Value} {f : Field} {fs : List Field} {b r : Bool} {u v : Value} (hn : f.name ≠ "_") (hx : ∀ w, (part f.type xs f.offset).run P w = .ok u w) (hy : ∀ w, (part f.type ys f.offset).run P w = .ok v w)
    (he : ∀ w, (Op.equalIn 9999 f.type u v).run P w = .ok r w) (h : FE P xs ys fs b) : FE P xs ys (f :: fs) (r && b) := fun w => by
  simp only [Op.eqFields, if_pos hn, Sem.run_bind, hx, hy, he, Result.andThen_ok]
  cases r
  · simp
  · simp [h w]
theorem run_part1 {xs : Array Value} {t : TypeId} {o : Nat} {v : Value} {d : TypeDesc} (hd : P.underlying t = some d) (hn : notAgg d = true) (hv : xs[o]? = some v) (w : World) : (part t xs o).run P w = .ok v w := by
  simp [part, run_isAgg_no hd hn, hv]
theorem fe_str {xs ys : Array Value} {f : Field} {fs : List Field} {b : Bool} {p q : Str} (hn : f.name ≠ "_") (hd : P.underlying f.type = some .string) (hx : xs[f.offset]? = some (.string (Bs p))) (hy : ys[f.offset]? = some (.string (Bs q))) (h : FE P xs ys fs b) :
    FE P xs ys (f :: fs) (decide (p = q) && b) := by
  refine fe_of hn (run_part1 hd rfl hx) (run_part1 hd rfl hy) (fun w => ?_) h
  rw [run_equalIn_string w 9998 f.type _ _ hd]
  have e : ((Bs p).toList == (Bs q).toList) = decide (p = q) := by
    rw [ByteArray.toList_eq, ByteArray.toList_eq, Bs_data, Bs_data, Bool.eq_iff_iff]; simp
  rw [e]
theorem fe_int {xs ys : Array Value} {f : Field} {fs : List Field} {b : Bool} {k : IntKind} {p q : Int} (hn : f.name ≠ "_") (hd : P.underlying f.type = some (.int k)) (hx : xs[f.offset]? = some (.int k p)) (hy : ys[f.offset]? = some (.int k q)) (h : FE P xs ys fs b) :
    FE P xs ys (f :: fs) (decide (p = q) && b) := by
  refine fe_of hn (run_part1 hd rfl hx) (run_part1 hd rfl hy) (fun w => ?_) h
  rw [run_equalIn_int w 9998 f.type k k p q hd]
  congr 1
theorem fe_bool {xs ys : Array Value} {f : Field} {fs : List Field} {b p q : Bool} (hn : f.name ≠ "_") (hd : P.underlying f.type = some .bool) (hx : xs[f.offset]? = some (.bool p)) (hy : ys[f.offset]? = some (.bool q)) (h : FE P xs ys fs b) :
    FE P xs ys (f :: fs) (decide (p = q) && b) := by
  refine fe_of hn (run_part1 hd rfl hx) (run_part1 hd rfl hy) (fun w => ?_) h
  rw [run_equalIn_bool' w 9998 f.type p q hd]
  congr 1
theorem EqA.of {t : TypeId} {xs ys : Array Value} {fs : List Field} {b c : Bool} (hg : P.eqGuardType P.depth t = false) (ht : P.underlying t = some (.struct (P.fieldsOf t))) (hp : P.stoodInHeld t = false) (hf : (P.fieldsOf t).toList = fs) (h : FE P xs ys fs b) (hc : b = c) : EqA P t xs ys c :=
  ⟨hg, fun w => by rw [show (10000 : Nat) = 9999 + 1 from rfl, run_equalIn_struct w 9999 t xs ys ht hp, hf, h w, hc]⟩
theorem r_aeql {t yt : TypeId} {x y : Operand} {xs ys : Array Value} {b : Bool} (hx : ρ x = .agg xs) (hy : ρ y = .agg ys) (he : EqA P t xs ys b) :
    (execOp ρ ⟨dst, .binOp .eql t x y yt, ty, pos, after, guard⟩).run P w = .ok (.value (.bool b)) w := by
  simp only [execOp, hx, hy, Sem.run_bind, run_eqGuard_agg w .eql t x y xs ys he.1, Result.andThen_ok, run_eql_struct, he.2, Sem.run_pure]
theorem r_aneq {t yt : TypeId} {x y : Operand} {xs ys : Array Value} {b : Bool} (hx : ρ x = .agg xs) (hy : ρ y = .agg ys) (he : EqA P t xs ys b) :
    (execOp ρ ⟨dst, .binOp .neq t x y yt, ty, pos, after, guard⟩).run P w = .ok (.value (.bool (!b))) w := by
  simp only [execOp, hx, hy, Sem.run_bind, run_eqGuard_agg w .neq t x y xs ys he.1, Result.andThen_ok, run_neq_struct, he.2, Sem.run_pure]
theorem r_aneqd {t yt : TypeId} {x y : Operand} {xs ys : Array Value} {p : Prop} [Decidable p] (hx : ρ x = .agg xs) (hy : ρ y = .agg ys) (he : EqA P t xs ys (decide p)) :
    (execOp ρ ⟨dst, .binOp .neq t x y yt, ty, pos, after, guard⟩).run P w = .ok (.value (.bool (decide (¬ p)))) w := by
  rw [r_aneq hx hy he]; simp
theorem r_cmpstr {f : FuncId} {fn : Func} {xs : Array Operand} {ts : Array TypeId} {p q : Str} (hf : P.funcs[f]? = some fn) (h1 : (fn.name == "runtime.NumGoroutine") = false) (hb : fn.body.isNone = true) (hn : Extern.findNext fn = none)
    (he : Extern.find fn = some Extern.BytealgCompare.compare) (hx : xs.map ρ = #[.string (Bs p), .string (Bs q)]) (hρ : ρ (.func f) = .func (.func f) #[] #[]) :
    (execOp ρ ⟨dst, .call { callee := .value (.func f), args := xs, argTypes := ts }, ty, pos, after, guard⟩).run P w = .ok (.value (.int .i64 (Lib.compareBytes p q))) w := by
  simp only [execOp, resolve, invoke, hρ, Deferred.ofValue, hx, Sem.run_bind, Sem.run_pure, Result.andThen_ok]
  simp [run_callFunc_extern hf h1 hb hn he, Lib.run_compareString, Bs_data, Result.andThen]
theorem r_aindexS {t e : TypeId} {x y : Operand} {cs : Array Value} {l : List Str} {k : IntKind} {i : Int} {n : Nat} {z : Value} {bytes : Nat} (hx : ρ x = .agg cs) (hl : cs = (l.map fun s => Value.string (Bs s)).toArray) (hy : ρ y = .int k i) (hu : P.underlying t = some (.array n e))
    (he : P.underlying e = some .string) (ht : TI P e z 1 bytes) (hn : l.length = n) (hb : 0 ≤ i ∧ i < n) :
    (execOp ρ ⟨dst, .index t x y, ty, pos, after, guard⟩).run P w = .ok (.value (.string (Bs (l.getD i.toNat [])))) w := by
  have hlt : i.toNat < l.length := by omega
  have hv : cs[i.toNat * 1]? = some (.string (Bs (l.getD i.toNat []))) := by
    subst hl; simp [List.getD_eq_getElem?_getD, hlt]
  simp only [execOp, Instr.index, hx, hy, asIntOf, Sem.run_bind, Sem.run_pure, Result.andThen_ok, run_underlying hu, if_pos hb, ht.sizeOf w, run_part1 he rfl hv w]
end runs

section ops
variable {P : Program} {ops : Array Oper} {Q : Exit → Act → World → Prop} {K : Act → World → Prop} {n : Nat} {a : Act} {w : World} {L : List (Nat × Value)}
theorem opk_gnew2 {j tj d : Nat} {want g e : Bool} {op : Op} {ty : TypeId} {pos : String} {after : Array Edge} {T : TypeId} {cs : List Value} (f : Nat → Value) (hA : Ag n a L) (hd : Nat.blt d n = true)
    (hj : (ops[j]?).bind (·.dst) = some tj) (hl : lookupL tj L = some (cV g (.bool e)))
    (hrun : (g && (e == want)) = true → (execOp a.eval ⟨some d, op, ty, pos, after, some (j, want)⟩).run P w = .ok (.value (f w.heap.size)) (w.alloc (.cells cs.toArray T (0, 0))))
    (k : ∀ a' w' B, Ext w w' → w.heap.size ≤ B → ((g && (e == want)) = true → New w B w' ∧ Box w' B T cs) → Ag n a' ((d, cV (g && (e == want)) (f B)) :: L) → a' = a.put (some d) (cV (g && (e == want)) (f B)) → K a' w') : opK P ops Q ⟨some d, op, ty, pos, after, some (j, want)⟩ K a w :=
  opk_gext hA hd hj hl hrun fun a' h he => by
    by_cases hg : (g && (e == want)) = true
    · refine k a' _ w.heap.size ?_ (Nat.le_refl _) (fun _ => ?_) h he
      · rw [hg]; exact Ext.alloc _ _
      · rw [hg]; exact ⟨⟨Nat.le_refl _, by simp⟩, Box.alloc _ _ _⟩
    · have hg' : (g && (e == want)) = false := by simpa using hg
      refine k a' _ w.heap.size ?_ (Nat.le_refl _) (fun h' => absurd h' hg) h he
      rw [hg']; exact Chg.refl _ _
end ops
end Go.Proofs.Yteohbfaechfliaa
