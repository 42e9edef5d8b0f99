/-
  An argument that is a tree, opened.
-/
import Derived.Test.YtpacegmmbabhjaaTreeR
import Derived.Test.YtpacegmmbabhjaaRowO
import Derived.DataReads
import Derived.ChangeArms
namespace Go.Proofs.Ytpacegmmbabhjaa
open Go.RowKit Go.ChangeShapes Go.WideShapes Go.ChangeAt

theorem open_attr {H : Type} {enc : TypeId × Value → H} {W : World} {m : Nat} {cs : List Value} {y : DataW H × List MemPlace} (h : DataW.trod enc Try.prog W 0 (fun _ => true) true m 33 cs = some y) :
    ∃ p : Str × Str, cs = ac p ∧ True ∧ T.abulk p ≤ Rows.uptoBulk y.1 := by
  obtain ⟨xs, n, rfl, rfl, hl, hx, hf⟩ := DataW.trod_struct Try.underlying33 h
  have hl : cs.length = 2 := hl.trans (by kernel_rfl)
  match cs, hl with
  | [c0, c1], _ =>
    match xs, hx with
    | [x0, x1], _ =>
      have h0 := hf 0 _ rfl
      have h1 := hf 1 _ rfl
      have k9 : Try.prog.cellsOf 9 = 1 := by kernel_rfl
      simp only [k9, List.drop_zero, List.take_succ_cons, List.take_zero, List.drop_succ_cons, List.getElem?_cons_zero, List.getElem?_cons_succ] at h0 h1
      obtain ⟨s0, e0, b0⟩ := isStr h0
      obtain ⟨s1, e1, b1⟩ := isStr h1
      cases e0; cases e1
      refine ⟨(s0, s1), rfl, trivial, ?_⟩
      simp only [T.abulk, List.map_cons, List.map_nil, Rows.uptoBulk, Rows.uptoBulkAll]
      omega

/-- What a node's cells hold. -/
def NodeAt (W : World) (g : T × Sl × Sl) : Prop := RdT [] W g.1 g.2.1 g.2.2

theorem open_node {H : Type} {enc : TypeId × Value → H} {W : World} : ∀ (fuel : Nat) {cs : List Value} {y : DataW H × List MemPlace}, DataW.trod enc Try.prog W 0 (fun _ => true) true fuel 26 cs = some y →
    ∃ g : T × Sl × Sl, cs = tc g.1 g.2 ∧ NodeAt W g ∧ g.1.bulk ≤ Rows.uptoBulk y.1 := by
  intro fuel
  induction fuel using Nat.strongRecOn with
  | ind fuel ih =>
    intro cs y h
    obtain ⟨xs, n, rfl, rfl, hl, hx, hf⟩ := DataW.trod_struct Try.underlying26 h
    have hl : cs.length = 5 := hl.trans (by kernel_rfl)
    match cs, hl with
    | [c0, c1, c2, c3, c4], _ =>
      match xs, hx with
      | [x0, x1, x2, x3, x4], _ =>
        have h0 := hf 0 _ rfl
        have h1 := hf 1 _ rfl
        have h2 := hf 2 _ rfl
        have h3 := hf 3 _ rfl
        have h4 := hf 4 _ rfl
        have k3 : Try.prog.cellsOf 3 = 1 := by kernel_rfl
        have k9 : Try.prog.cellsOf 9 = 1 := by kernel_rfl
        have ka : Try.prog.cellsOf 23 = 1 := by kernel_rfl
        have kk : Try.prog.cellsOf 24 = 1 := by kernel_rfl
        simp only [k3, k9, ka, kk, List.drop_zero, List.take_succ_cons, List.take_zero, List.drop_succ_cons, List.getElem?_cons_zero, List.getElem?_cons_succ] at h0 h1 h2 h3 h4
        obtain ⟨kd, e0, b0, _⟩ := isInt h0
        obtain ⟨s1, e1, b1⟩ := isStr h1
        obtain ⟨s2, e2, b2⟩ := isStr h2
        obtain ⟨sa, ats, e3, ha, _, b3⟩ := open_row Try.underlying23 (by kernel_rfl : Try.prog.cellsOf 33 = 2) ac (fun _ => True) T.abulk (fun m _ cs y _ h => open_attr h) h3
        obtain ⟨sk, gs, e4, hk, hg, b4⟩ := open_row Try.underlying24 (by kernel_rfl : Try.prog.cellsOf 26 = 5) (fun g : T × Sl × Sl => tc g.1 g.2) (NodeAt W) (fun g => g.1.bulk) (fun m hm cs y _ h => ih m (by omega) h) h4
        cases e0; cases e1; cases e2; cases e3; cases e4
        refine ⟨(.node kd s1 s2 ats (gs.map (·.1)), sa, sk), rfl, .mk (gs.map (·.2)) ha (by simp) ?_ (fun i t p hi hp => ?_), ?_⟩
        · have e : List.zipWith tc (gs.map (·.1)) (gs.map (·.2)) = gs.map fun g => tc g.1 g.2 := by
            clear hk hg b4 h4
            induction gs with
            | nil => rfl
            | cons g gs ih => simp only [List.map_cons, List.zipWith_cons_cons, ih]
          rw [e]; exact hk
        · rw [List.getElem?_map] at hi hp
          cases hq : gs[i]? with
          | none => rw [hq] at hi; cases hi
          | some g =>
            rw [hq] at hi hp; cases hi; cases hp
            exact hg g (List.mem_of_getElem? hq)
        · rw [T.bulk_eq]
          simp only [T.name, T.text, T.attrs, T.kids, List.map_map, List.map_cons, List.map_nil, Rows.uptoBulk, Rows.uptoBulkAll]
          have e : (List.map (T.bulk ∘ fun x => x.fst) gs).sum = (gs.map fun g => g.1.bulk).sum := rfl
          omega

/-- An argument that is a tree. -/
theorem open_tree {H : Type} {enc : TypeId × Value → H} {W : World} {v : Value} {d : DataW H} {ps : List MemPlace} {base : Nat} (hval : Value.okWide Try.prog W .any base 26 v) (h : DataW.Trod enc Try.prog W 0 (fun _ => true) true 26 v d ps) :
    ∃ (t : T) (sa sk : Sl), v = tv t sa sk ∧ RdT [] W t sa sk ∧ t.bulk ≤ Rows.uptoBulk d := by
  obtain ⟨cs, rfl, _⟩ := okWide_struct Try.underlying26 hval
  obtain ⟨fuel, hf⟩ := h
  obtain ⟨⟨t, sa, sk⟩, hc, hg, hb⟩ := open_node fuel hf
  refine ⟨t, sa, sk, ?_, hg, hb⟩
  have : cs.toList = tc t (sa, sk) := hc
  unfold tv
  congr 1
  exact Array.toList_inj.1 (by rw [this]; rfl)

end Go.Proofs.Ytpacegmmbabhjaa
