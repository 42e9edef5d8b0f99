/-
  From a law that returns true and writes nothing that was there to the row's statement: the parts that are alike in all rows.
-/
import Derived.Test.YteohbfaechfliaaRows
import Derived.Test.YteohbfaechfliaaRdB
import Derived.WalkKit
import Derived.ProofKit
import Derived.OpenShut
import Derived.JoinedCond
import Derived.Below
import Derived.Carry
import Derived.ChangeSlices
import Derived.ChangeMaps5
namespace Go.Proofs.Yteohbfaechfliaa
open Go.RowKit Go.ChangeShapes Go.WideShapes Go.ChangeAt

theorem Ret.out {R : Value → World → Prop} {e : Ending} {w : World} (h : Ret R e w) : ∃ v, e = .returned v ∧ R v w := by
  cases e with
  | returned v => exact ⟨v, rfl, h⟩
  | _ => exact h.elim
theorem ownKnob0 : ownKnob Try.prog.godebug = none := by kernel_rfl
theorem laidOut0 : laidOutB Try.prog = true := by kernel_rfl

theorem trodAll_ext {H : Type} {enc : TypeId × Value → H} {P : Program} (hl : laidOutB P = true) {W W' : World} (hE : Ext W W') : ∀ {ts : List TypeId} {vs : List Value} {ds : List (DataW H)} {ps : List MemPlace},
    (∀ t ∈ ts, P.readableRec t = true ∧ t < P.types.size) → DataW.TrodAll enc P W 0 (fun _ => true) true ts vs ds ps → DataW.TrodAll enc P W' 0 (fun b => decide (b < W.heap.size)) true ts vs ds ps
  | [], vs, ds, ps, _, h => by obtain ⟨rfl, rfl, rfl⟩ := trodAll_nil h; exact rfl
  | t :: ts, vs, ds, ps, ht, h => by
    obtain ⟨v, vs', d, ds', p, q, rfl, rfl, rfl, h1, h2⟩ := trodAll_cons h
    have lt0 : ∀ x ∈ p, x.block < W.heap.size := by obtain ⟨m, hm⟩ := h1; exact DataW.trod_lt m _ _ _ hm
    exact trodAll_cons_mk (Below.trod hl (ht t (by simp)).1 (ht t (by simp)).2 h1 hE.below lt0) (trodAll_ext hl hE (fun u hu => ht u (by simp [hu])) h2)

theorem post_ext {H : Type} {enc : TypeId × Value → H} {P : Program} {f : Func} {s : ChangeSpec} {W W' : World} {args : Array Value} {ds gs : List (DataW H)} {before : List MemPlace} {tb : TypeId}
    (hW : DataW.Whole enc P f.params.toList s.vars false W args.toList ds gs before) (hs : s.vars = []) (hr : f.resultTypes = #[tb]) (hb : P.underlying tb = some .bool)
    (hds : s.fn H (ds ++ gs) = { results := [.lit (.bool true)], args := ds }) (hl : laidOutB P = true) (ht : ∀ t ∈ f.params.toList, P.readableRec t = true ∧ t < P.types.size) (hE : Ext W W') :
    s.post enc P f false true false false W args (.bool true) W' := by
  have hW' := hW
  obtain ⟨p, q, hA, hV, rfl, hfz, hnd⟩ := hW
  refine ⟨ds, gs, _, [], p, [], hW', ?_, ?_, ?_, hE.below.frame _, fun h => by cases h⟩
  · rw [hds, hr]; exact trodAll_mk1 (shut_bool hb _)
  · rw [hds]; exact trodAll_ext hl hE ht hA
  · rw [hds, hs]; exact rfl

theorem bulk_one {H : Type} (d : DataW H) : 1 ≤ Rows.uptoBulk d := by
  cases d with
  | lit l => cases l <;> simp [Rows.uptoBulk]
  | nil => simp [Rows.uptoBulk]
  | ptr d => simp [Rows.uptoBulk]
  | slice elems spare => simp [Rows.uptoBulk]
  | agg parts => simp [Rows.uptoBulk]
  | iface t d => simp [Rows.uptoBulk]
  | map entries => simp [Rows.uptoBulk]
  | held h => simp [Rows.uptoBulk]
theorem bulk_part {H : Type} {d : DataW H} {l : List (DataW H)} (h : d ∈ l) : Rows.uptoBulk d ≤ Rows.uptoBulkAll l := by
  induction l with
  | nil => cases h
  | cons x r ih =>
    simp only [Rows.uptoBulkAll]
    cases List.mem_cons.1 h with
    | inl e => subst e; omega
    | inr e => have := ih e; omega
theorem bulk_len {H : Type} (l : List (DataW H)) : l.length ≤ Rows.uptoBulkAll l := by
  induction l with
  | nil => simp [Rows.uptoBulkAll]
  | cons x r ih => have := bulk_one x; simp only [Rows.uptoBulkAll, List.length_cons]; omega
theorem bulk_bound {H : Type} {l : List (DataW H)} (hk : Rows.uptoSmall H l = true) : Rows.uptoBulkAll l ≤ 1048576 := by
  simpa [Rows.uptoSmall] using hk
theorem bulk_mem {H : Type} {d : DataW H} {l : List (DataW H)} (hk : Rows.uptoSmall H l = true) (h : d ∈ l) : Rows.uptoBulk d ≤ 1048576 := Nat.le_trans (bulk_part h) (bulk_bound hk)

theorem byte_of_wf {n : Int} (h : (Lit.int .u8 n).wf = true) : ((UInt8.ofNat n.toNat).toNat : Int) = n := by
  have hx : 0 ≤ n ∧ n ≤ 255 := by simpa [Lit.wf, IntKind.min, IntKind.max, IntKind.signed, IntKind.bits] using h
  simp; omega

/-- Numbers in a row: what the reading gives. -/
theorem open_nums {H : Type} {enc : TypeId × Value → H} {P : Program} {t e : TypeId} {k : IntKind} {W : World} {v : Value} {d : DataW H} {ps : List MemPlace} {base : Nat} (ht : P.underlying t = some (.slice e)) (he : P.underlying e = some (.int k)) (hc : P.cellsOf e = 1)
    (hval : Value.okWide P W .any base t v) (h : DataW.Trod enc P W 0 (fun _ => true) true t v d ps) :
    ∃ (s : Sl) (zs : List Int), v = s.v ∧ Row [] W s 1 (zs.map fun z => [.int k z]) ∧ (∀ z ∈ zs, (Lit.int k z).wf = true) ∧ zs.length ≤ Rows.uptoBulk d ∧ s.c ≤ Rows.uptoBulk d := by
  obtain ⟨a, len, cap, rfl⟩ := okWide_slice ht hval
  obtain ⟨fuel, hf⟩ := h
  rcases open_ints ht he hc hf with ⟨hcs, _⟩ | ⟨x, l, c, zs, hcs, _, hl, hm, hz, hx, hcell, hwz⟩
  · simp [Value.cells] at hcs
    obtain ⟨rfl, rfl, rfl⟩ := hcs
    exact ⟨Sl.nil, [], rfl, Row.nil _ _ _, by simp, Nat.zero_le _, Nat.zero_le _⟩
  · simp [Value.cells] at hcs
    obtain ⟨rfl, rfl, rfl⟩ := hcs
    have hzl : zs.length = cap := by simpa using hz
    have hb : cap ≤ Rows.uptoBulk d := by
      have e := congrArg Prod.fst hx
      simp only at e
      rw [e]
      have h1 := bulk_len (H := H) (lits k (zs.take len))
      have h2 := bulk_len (H := H) (lits k (zs.drop len))
      have e1 : (lits (H := H) k (zs.take len)).length = (zs.take len).length := by simp [lits]
      have e2 : (lits (H := H) k (zs.drop len)).length = (zs.drop len).length := by simp [lits]
      rw [e1] at h1; rw [e2] at h2
      simp only [List.length_take, List.length_drop] at h1 h2
      simp only [Rows.uptoBulk]; omega
    refine ⟨⟨some x, len, cap⟩, zs.take len, rfl, ⟨by simp; omega, hl, hm, fun i hi => ?_⟩, fun z hz' => hwz z (List.mem_of_mem_take hz'), by simp; omega, hb⟩
    simp only [List.length_map, List.length_take] at hi
    have hg : ((zs.take len).map fun z => [Value.int k z]).getD i [] = [.int k (zs.getD i 0)] := by
      simp [List.getD_eq_getElem?_getD, List.getElem?_take, show i < len by omega, List.getElem?_eq_getElem (show i < zs.length by omega)]
    rw [hg]
    exact ⟨x, rfl, by simp, fun j u hj => by
      cases j with
      | zero => simp only [List.getElem?_cons_zero, Option.some.injEq] at hj; subst hj; rw [Addr.add_add, Nat.mul_one, Nat.add_zero]; exact hcell i (by omega)
      | succ j => simp at hj, rfl⟩

theorem open_bytes {H : Type} {enc : TypeId × Value → H} {P : Program} {t e : TypeId} {W : World} {v : Value} {d : DataW H} {ps : List MemPlace} {base : Nat} (ht : P.underlying t = some (.slice e)) (he : P.underlying e = some (.int .u8)) (hc : P.cellsOf e = 1)
    (hval : Value.okWide P W .any base t v) (h : DataW.Trod enc P W 0 (fun _ => true) true t v d ps) :
    ∃ (s : Sl) (xs : List UInt8), v = s.v ∧ RdB [] W s xs ∧ xs.length ≤ Rows.uptoBulk d ∧ s.c ≤ Rows.uptoBulk d := by
  obtain ⟨s, zs, hv, hr, hw, hn, hcc⟩ := open_nums ht he hc hval h
  refine ⟨s, zs.map fun z => UInt8.ofNat z.toNat, hv, ?_, by simpa using hn, hcc⟩
  have e : zs.map (fun z => [Value.int .u8 z]) = (zs.map fun z => UInt8.ofNat z.toNat).map bc := by
    rw [List.map_map]
    refine List.map_congr_left fun z hz => ?_
    show _ = [Value.int .u8 _]
    rw [byte_of_wf (hw z hz)]
  rw [e] at hr; exact hr

theorem open_str {H : Type} {enc : TypeId × Value → H} {P : Program} {t : TypeId} {W : World} {v : Value} {d : DataW H} {ps : List MemPlace} {base : Nat} (ht : P.underlying t = some .string)
    (hval : Value.okWide P W .any base t v) (h : DataW.Trod enc P W 0 (fun _ => true) true t v d ps) :
    ∃ s : Str, v = .string (Bs s) ∧ s.length ≤ Rows.uptoBulk d ∧ s.length ≤ maxLen := by
  obtain ⟨s, rfl, rfl, _, hm⟩ := ChangeMaps.open_string ht hval h
  refine ⟨s.data.toList, by rw [Bs_toList], ?_, ?_⟩
  · simp [Rows.uptoBulk]
  · rw [Array.length_toList]; exact hm

theorem nat_of_wf {k : IntKind} {n : Int} (hk : k.signed = false) (h : (Lit.int k n).wf = true) : 0 ≤ n ∧ n ≤ k.max := by
  simpa [Lit.wf, IntKind.min, hk] using h
theorem u32_of_wf {n : Int} (h : (Lit.int .u32 n).wf = true) : 0 ≤ n ∧ n < 4294967296 := by
  have hx : 0 ≤ n ∧ n ≤ 4294967295 := by simpa [Lit.wf, IntKind.min, IntKind.max, IntKind.signed, IntKind.bits] using h
  omega
theorem u64_of_wf {n : Int} (h : (Lit.int .u64 n).wf = true) : 0 ≤ n ∧ n < 18446744073709551616 := by
  have hx : 0 ≤ n ∧ n ≤ 18446744073709551615 := by simpa [Lit.wf, IntKind.min, IntKind.max, IntKind.signed, IntKind.bits] using h
  omega
theorem i64_of_wf {n : Int} (h : (Lit.int .i64 n).wf = true) : -9223372036854775808 ≤ n ∧ n ≤ 9223372036854775807 := by
  simpa [Lit.wf, IntKind.min, IntKind.max, IntKind.signed, IntKind.bits] using h

theorem nats_of {zs : List Int} {b : Int} (h : ∀ z ∈ zs, 0 ≤ z ∧ z < b) : ∃ ns : List Nat, (∀ n ∈ ns, (n : Int) < b) ∧ zs = ns.map fun n : Nat => (n : Int) := by
  refine ⟨zs.map Int.toNat, fun n hn => ?_, ?_⟩
  · obtain ⟨z, hz, rfl⟩ := List.mem_map.1 hn
    have := h z hz; omega
  · rw [List.map_map]
    conv => lhs; rw [← List.map_id zs]
    refine List.map_congr_left fun z hz => ?_
    have := h z hz
    show z = ((z.toNat : Nat) : Int)
    omega

end Go.Proofs.Yteohbfaechfliaa
