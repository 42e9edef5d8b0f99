/-
  PRINTED BY PROGRAM: for each function its condition (vc), and that this suffices (ok).
-/
import Derived.Test.YteohbfaechfliaaGT
namespace Go.Proofs.Yteohbfaechfliaa
open Go.RowKit
set_option linter.unusedVariables false

/-- The condition of topiary/topiaryref06.Bare. -/
def ref06_Bare.vc (t_1_Kind : Int) (t_1_Name : Str) (t_1_Text : Str) (t_1_Attrs : Sl) (t_1_Kids : Sl) (R : Value → World → Prop) (w : World) : Prop :=
∀ (w22 : World) (B_2 : Nat) (B_10 : Nat), New w B_2 w22 → New w B_10 w22 → B_2 ≠ B_10 → Chg [] w w22 →
RunK Try.prog (Builtin.append_ #[23, 23] 23 #[Sl.v Sl.nil, Sl.v t_1_Attrs]) w22 [B_2, B_10] (fun v w38 => ∃ (r_44 : Sl), v = Sl.v r_44 ∧
∀ (w54 : World), Chg [] w38 w54 →
∀ (w79 : World), Chg [B_10] w54 w79 →
R (.agg #[.int .i64 t_1_Kind, .string (Bs t_1_Name), .string (Bs t_1_Text), Sl.v r_44, Sl.v Sl.nil]) w79)
set_option maxHeartbeats 1000000 in
set_option maxRecDepth 10000 in
theorem ref06_Bare.ok (t_1_Kind : Int) (t_1_Name : Str) (t_1_Text : Str) (t_1_Attrs : Sl) (t_1_Kids : Sl) {R : Value → World → Prop} {w : World} (ht0 : ref06_Bare.vc t_1_Kind t_1_Name t_1_Text t_1_Attrs t_1_Kids R w) : Calls Try.prog 59 #[.agg #[.int .i64 t_1_Kind, .string (Bs t_1_Name), .string (Bs t_1_Text), Sl.v t_1_Attrs, Sl.v t_1_Kids]] w (Ret R) := by
  refine enter [.agg #[.int .i64 t_1_Kind, .string (Bs t_1_Name), .string (Bs t_1_Text), Sl.v t_1_Attrs, Sl.v t_1_Kids]] Try.func59 rfl Try.ntmps59 rfl ?_
  intro a0 hA0
  unfold ref06_Bare.vc at ht0
  refine wp_seq ?_
  refine wp_region_lit ?_
  refine sq (opk_new (fun B => .pointer (some ⟨B, 0, none⟩)) hA0 rfl (r_box (cs := [.int .i64 t_1_Kind, .string (Bs t_1_Name), .string (Bs t_1_Text), Sl.v t_1_Attrs, Sl.v t_1_Kids]) (hA0.get rfl) rfl) fun a4 w3 B_2 hE5 hN6 hB7 hA4 _ => ?_)
  have hN8 : New w B_2 w3 := hN6
  have hC9 : Chg [] w w3 := hE5
  refine sq (opk_new (fun B => .pointer (some ⟨B, 0, none⟩)) hA4 rfl (r_alloc (cs := [.int .i64 0, .string (Bs ([] : Str)), .string (Bs ([] : Str)), Sl.v Sl.nil, Sl.v Sl.nil]) ti_26 rfl) fun a12 w11 B_10 hE13 hN14 hB15 hA12 _ => ?_)
  have hne16 : B_2 ≠ B_10 := Nat.ne_of_lt (Nat.lt_of_lt_of_le hB7.lt hN14.ge)
  have hN17 := New.of hC9 hN14
  have hB18 := hB7.ext hE13
  have hC19 := hC9.more hE13
  have hN20 := hN8.up hE13.size
  refine sq_end ?_
  have hA21 := hA12.keep [(1, .pointer (some (⟨B_2, 0, none⟩ : Addr))), (2, .pointer (some (⟨B_10, 0, none⟩ : Addr)))] ⟨rfl, rfl, trivial⟩
  refine then_normal ?_
  refine wp_seq ?_
  refine draw' (by kernel_rfl) fun w22 hE23 => ?_
  have hB24 := hB18.ext hE23
  have hB25 := hB15.ext hE23
  have hC26 := hC19.more hE23
  have hN27 := hN20.up hE23.size
  have hN28 := hN17.up hE23.size
  have ht29 := ht0 w22 B_2 B_10 hN27 hN28 hne16 hC26
  refine startF (D := [[], [0], [], [2], [], [4], [], [6], [6, 7], [0, 1, 2, 3, 4, 5, 6, 7, 8], [0, 1, 2, 3, 4, 5, 6, 7, 8, 9]]) (Fs := [0, 1, 2, 3, 4, 5, 6, 7]) (Ef := [(0, fun v _ => v = .pointer (some (⟨B_2, 0, none⟩ : Addr))), (1, fun v _ => v = .int .i64 t_1_Kind), (2, fun v _ => v = .pointer (some (⟨B_2, 1, none⟩ : Addr))), (3, fun v _ => v = .string (Bs t_1_Name)), (4, fun v _ => v = .pointer (some (⟨B_2, 2, none⟩ : Addr))), (5, fun v _ => v = .string (Bs t_1_Text)), (6, fun v _ => v = .pointer (some (⟨B_2, 3, none⟩ : Addr))), (7, fun v _ => v = Sl.v t_1_Attrs)]) (by kernel_rfl) ?_
  refine oneF (c := 8) hA21 rfl (by kernel_rfl) (constF ⟨fun _ _ _ h => by first | exact h | (change _ = _ at h; change _ = _; exact h), fun _ _ _ h => by first | exact h | (change _ = _ at h; change _ = _; exact h), fun _ _ _ h => by first | exact h | (change _ = _ at h; change _ = _; exact h), fun _ _ _ h => by first | exact h | (change _ = _ at h; change _ = _; exact h), fun _ _ _ h => by first | exact h | (change _ = _ at h; change _ = _; exact h), fun _ _ _ h => by first | exact h | (change _ = _ at h; change _ = _; exact h), fun _ _ _ h => by first | exact h | (change _ = _ at h; change _ = _; exact h), fun _ _ _ h => by first | exact h | (change _ = _ at h; change _ = _; exact h), trivial⟩) ⟨?_, ?_, ?_, ?_, ?_, ?_, ?_, ?_, trivial⟩ ?_
  · intro a hT
    have hAp := hT.ag hA21 [(1, .pointer (some (⟨B_2, 0, none⟩ : Addr)))] ⟨rfl, trivial⟩ (by kernel_rfl)
    exact opk_val hAp rfl (r_fieldAddr (hAp.get rfl) Try.underlying26 rfl ti_3 (by decide)) fun _ _ e => ⟨_, e, rfl, fun _ => Eq.refl _⟩
  · intro a hT
    have hAp := hT.ag hA21 [] trivial (by kernel_rfl)
    have e30 : a.tmps.getD 3 undef = .pointer (some (⟨B_2, 0, none⟩ : Addr)) := hT.vals 0 rfl 3 rfl
    have hAp := hAp.add e30
    exact opk_val hAp rfl (r_load1 Try.underlying3 rfl (hAp.get rfl) ((hB24.ext hT.chg).cell 0 _ rfl)) fun _ _ e => ⟨_, e, rfl, fun _ => Eq.refl _⟩
  · intro a hT
    have hAp := hT.ag hA21 [(1, .pointer (some (⟨B_2, 0, none⟩ : Addr)))] ⟨rfl, trivial⟩ (by kernel_rfl)
    exact opk_val hAp rfl (r_fieldAddr (hAp.get rfl) Try.underlying26 rfl ti_9 (by decide)) fun _ _ e => ⟨_, e, rfl, fun _ => Eq.refl _⟩
  · intro a hT
    have hAp := hT.ag hA21 [] trivial (by kernel_rfl)
    have e31 : a.tmps.getD 5 undef = .pointer (some (⟨B_2, 1, none⟩ : Addr)) := hT.vals 2 rfl 5 rfl
    have hAp := hAp.add e31
    exact opk_val hAp rfl (r_load1 Try.underlying9 rfl (hAp.get rfl) ((hB24.ext hT.chg).cell 1 _ rfl)) fun _ _ e => ⟨_, e, rfl, fun _ => Eq.refl _⟩
  · intro a hT
    have hAp := hT.ag hA21 [(1, .pointer (some (⟨B_2, 0, none⟩ : Addr)))] ⟨rfl, trivial⟩ (by kernel_rfl)
    exact opk_val hAp rfl (r_fieldAddr (hAp.get rfl) Try.underlying26 rfl ti_9 (by decide)) fun _ _ e => ⟨_, e, rfl, fun _ => Eq.refl _⟩
  · intro a hT
    have hAp := hT.ag hA21 [] trivial (by kernel_rfl)
    have e32 : a.tmps.getD 7 undef = .pointer (some (⟨B_2, 2, none⟩ : Addr)) := hT.vals 4 rfl 7 rfl
    have hAp := hAp.add e32
    exact opk_val hAp rfl (r_load1 Try.underlying9 rfl (hAp.get rfl) ((hB24.ext hT.chg).cell 2 _ rfl)) fun _ _ e => ⟨_, e, rfl, fun _ => Eq.refl _⟩
  · intro a hT
    have hAp := hT.ag hA21 [(1, .pointer (some (⟨B_2, 0, none⟩ : Addr)))] ⟨rfl, trivial⟩ (by kernel_rfl)
    exact opk_val hAp rfl (r_fieldAddr (hAp.get rfl) Try.underlying26 rfl ti_23 (by decide)) fun _ _ e => ⟨_, e, rfl, fun _ => Eq.refl _⟩
  · intro a hT
    have hAp := hT.ag hA21 [] trivial (by kernel_rfl)
    have e33 : a.tmps.getD 9 undef = .pointer (some (⟨B_2, 3, none⟩ : Addr)) := hT.vals 6 rfl 9 rfl
    have hAp := hAp.add e33
    exact opk_val hAp rfl (r_load1 Try.underlying23 rfl (hAp.get rfl) ((hB24.ext hT.chg).cell 3 _ rfl)) fun _ _ e => ⟨_, e, rfl, fun _ => Eq.refl _⟩
  · intro a34 hT
    have hA34 := hT.ag hA21 [(1, .pointer (some (⟨B_2, 0, none⟩ : Addr))), (2, .pointer (some (⟨B_10, 0, none⟩ : Addr)))] ⟨rfl, rfl, trivial⟩ (by kernel_rfl)
    have e35 : a34.tmps.getD 10 undef = Sl.v t_1_Attrs := hT.vals 7 rfl 10 rfl
    have hA36 := hA34.add e35
    refine (opk_run hA36 rfl (fun _ _ hr => r_append rfl (hA36.get rfl) hr) ht29 fun a37 v43 w38 hA37 heq88 hn40 hz41 hK42 => ?_)
    refine ⟨_, heq88, ?_⟩
    obtain ⟨r_44, rfl, ht39⟩ := hK42
    have hB45 := hB24.kept hn40 (.head _)
    have hB46 := hB25.kept hn40 (.tail _ (.head _))
    refine PRF_drop (X := [6, 7]) (Fs' := [0, 1, 2, 3, 4, 5]) hA37 (by kernel_rfl) fun a47 hag48 hv49 => ?_
    have hA47 := hag48 [(1, .pointer (some (⟨B_2, 0, none⟩ : Addr))), (2, .pointer (some (⟨B_10, 0, none⟩ : Addr))), (11, Sl.v r_44)] ⟨rfl, rfl, rfl, trivial⟩ (by kernel_rfl)
    refine joinF hA47 (by kernel_rfl) ⟨fun _ _ _ _ h => by first | exact h | (change _ = _ at h; change _ = _; exact h), fun _ _ _ _ h => by first | exact h | (change _ = _ at h; change _ = _; exact h), fun _ _ _ _ h => by first | exact h | (change _ = _ at h; change _ = _; exact h), fun _ _ _ _ h => by first | exact h | (change _ = _ at h; change _ = _; exact h), fun _ _ _ _ h => by first | exact h | (change _ = _ at h; change _ = _; exact h), fun _ _ _ _ h => by first | exact h | (change _ = _ at h; change _ = _; exact h), trivial⟩ ⟨?_, ?_, ?_, ?_, ?_, ?_, trivial⟩ ?_
    · intro a w hT
      have hAp := hT.ag hA47 [(1, .pointer (some (⟨B_2, 0, none⟩ : Addr)))] ⟨rfl, trivial⟩ (by kernel_rfl)
      exact opk_val hAp rfl (r_fieldAddr (hAp.get rfl) Try.underlying26 rfl ti_3 (by decide)) fun _ _ e => ⟨_, e, Chg.refl _ _, fun _ => Eq.refl _⟩
    · intro a w hT
      have hAp := hT.ag hA47 [] trivial (by kernel_rfl)
      have e50 : a.tmps.getD 3 undef = .pointer (some (⟨B_2, 0, none⟩ : Addr)) := hT.vals 0 rfl 3 rfl
      have hAp := hAp.add e50
      exact opk_val hAp rfl (r_load1 Try.underlying3 rfl (hAp.get rfl) ((hB45.ext hT.chg).cell 0 _ rfl)) fun _ _ e => ⟨_, e, Chg.refl _ _, fun _ => Eq.refl _⟩
    · intro a w hT
      have hAp := hT.ag hA47 [(1, .pointer (some (⟨B_2, 0, none⟩ : Addr)))] ⟨rfl, trivial⟩ (by kernel_rfl)
      exact opk_val hAp rfl (r_fieldAddr (hAp.get rfl) Try.underlying26 rfl ti_9 (by decide)) fun _ _ e => ⟨_, e, Chg.refl _ _, fun _ => Eq.refl _⟩
    · intro a w hT
      have hAp := hT.ag hA47 [] trivial (by kernel_rfl)
      have e51 : a.tmps.getD 5 undef = .pointer (some (⟨B_2, 1, none⟩ : Addr)) := hT.vals 2 rfl 5 rfl
      have hAp := hAp.add e51
      exact opk_val hAp rfl (r_load1 Try.underlying9 rfl (hAp.get rfl) ((hB45.ext hT.chg).cell 1 _ rfl)) fun _ _ e => ⟨_, e, Chg.refl _ _, fun _ => Eq.refl _⟩
    · intro a w hT
      have hAp := hT.ag hA47 [(1, .pointer (some (⟨B_2, 0, none⟩ : Addr)))] ⟨rfl, trivial⟩ (by kernel_rfl)
      exact opk_val hAp rfl (r_fieldAddr (hAp.get rfl) Try.underlying26 rfl ti_9 (by decide)) fun _ _ e => ⟨_, e, Chg.refl _ _, fun _ => Eq.refl _⟩
    · intro a w hT
      have hAp := hT.ag hA47 [] trivial (by kernel_rfl)
      have e52 : a.tmps.getD 7 undef = .pointer (some (⟨B_2, 2, none⟩ : Addr)) := hT.vals 4 rfl 7 rfl
      have hAp := hAp.add e52
      exact opk_val hAp rfl (r_load1 Try.underlying9 rfl (hAp.get rfl) ((hB45.ext hT.chg).cell 2 _ rfl)) fun _ _ e => ⟨_, e, Chg.refl _ _, fun _ => Eq.refl _⟩
    · intro a53 w54 hE55 hag56 hv57
      have hA53 := hag56 [(2, .pointer (some (⟨B_10, 0, none⟩ : Addr))), (11, Sl.v r_44)] ⟨rfl, rfl, trivial⟩ (by kernel_rfl)
      have e58 : a53.tmps.getD 4 undef = .int .i64 t_1_Kind := hv57 1 rfl 4 rfl
      have hA59 := hA53.add e58
      have e60 : a53.tmps.getD 6 undef = .string (Bs t_1_Name) := hv57 3 rfl 6 rfl
      have hA61 := hA59.add e60
      have e62 : a53.tmps.getD 8 undef = .string (Bs t_1_Text) := hv57 5 rfl 8 rfl
      have hA63 := hA61.add e62
      have hB64 := hB45.ext hE55
      have hB65 := hB46.ext hE55
      have hC66 : Chg [] w38 w54 := hE55
      have ht67 := ht39 w54    hC66
      refine par (D := [[], [0], [], [2], [], [4], [], [6], [6, 7], [0, 1, 2, 3, 4, 5, 6, 7, 8], [0, 1, 2, 3, 4, 5, 6, 7, 8, 9]]) (S := [9]) (F := []) (V := VL [(9, fun v _ => v = .agg #[.int .i64 t_1_Kind, .string (Bs t_1_Name), .string (Bs t_1_Text), Sl.v r_44, Sl.v Sl.nil])]) hA63 (by kernel_rfl) ⟨fun _ _ _ _ h => by first | exact h | (change _ = _ at h; change _ = _; exact h), trivial⟩ ⟨?_, trivial⟩ ?_
      · intro a w hT
        have hAp := hT.ag hA63 [(4, .int .i64 t_1_Kind), (6, .string (Bs t_1_Name)), (8, .string (Bs t_1_Text)), (11, Sl.v r_44)] ⟨rfl, rfl, rfl, rfl, trivial⟩ (by kernel_rfl)
        exact opk_val hAp rfl (r_build (vs := #[(0, .int .i64 t_1_Kind), (1, .string (Bs t_1_Name)), (2, .string (Bs t_1_Text)), (3, Sl.v r_44)]) (cells := #[.int .i64 t_1_Kind, .string (Bs t_1_Name), .string (Bs t_1_Text), Sl.v r_44, Sl.v Sl.nil]) (map_arr2 (ml2_cons (hAp.get rfl) (ml2_cons (hAp.get rfl) (ml2_cons (hAp.get rfl) (ml2_cons (hAp.get rfl) (ml2_nil)))))) ti_26 Try.underlying26 pl_26 (by kernel_rfl)) fun _ _ e => ⟨_, e, Chg.refl _ _, fun _ => Eq.refl _⟩
      · intro a68 w69 hE70 hag71 hv72
        have hA68 := hag71 [(2, .pointer (some (⟨B_10, 0, none⟩ : Addr)))] ⟨rfl, trivial⟩ (by kernel_rfl)
        have e74 : a68.tmps.getD 12 undef = .agg #[.int .i64 t_1_Kind, .string (Bs t_1_Name), .string (Bs t_1_Text), Sl.v r_44, Sl.v Sl.nil] := hv72 9 rfl 12 rfl
        have hA75 := hA68.add e74
        have hB76 := hB64.ext hE70
        have hB77 := hB65.ext hE70
        have hC78 : Chg [] w54 w69 := hE70
        refine one (D := [[], [0], [], [2], [], [4], [], [6], [6, 7], [0, 1, 2, 3, 4, 5, 6, 7, 8], [0, 1, 2, 3, 4, 5, 6, 7, 8, 9]]) (i := 10) rfl (by kernel_rfl) (opk_store hA75 hB77 (r_store (vs := [.int .i64 t_1_Kind, .string (Bs t_1_Name), .string (Bs t_1_Text), Sl.v r_44, Sl.v Sl.nil]) (hA75.get rfl) (hA75.get rfl) rfl ti_26 hB77 rfl (ones_all [.int .i64 t_1_Kind, .string (Bs t_1_Name), .string (Bs t_1_Text), Sl.v r_44, Sl.v Sl.nil] rfl)) fun a80 w79 hS81 hB82 hA80 => ?_)
        have hB83 : Box w79 B_10 26 [.int .i64 t_1_Kind, .string (Bs t_1_Name), .string (Bs t_1_Text), Sl.v r_44, Sl.v Sl.nil] := hB82
        have hB84 := hB76.keep hS81 (by simpa using hne16)
        have hC85 := hC78.storeOld hS81
        refine PR_end (by kernel_rfl) ?_
        have hA86 := hA80.keep [(2, .pointer (some (⟨B_10, 0, none⟩ : Addr)))] ⟨rfl, trivial⟩
        refine then_normal ?_
        refine wp_ret ?_
        have ht87 := ht67 w79    hC85
        exact res_all (vs := [.agg #[.int .i64 t_1_Kind, .string (Bs t_1_Name), .string (Bs t_1_Text), Sl.v r_44, Sl.v Sl.nil]]) rfl hA86 ⟨res_of_cell hA86 rfl hB83 Try.underlying26 rfl ti_26, trivial⟩ ht87

end Go.Proofs.Yteohbfaechfliaa
