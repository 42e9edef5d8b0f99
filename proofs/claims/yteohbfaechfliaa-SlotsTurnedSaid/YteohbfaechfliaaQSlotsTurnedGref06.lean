/-
  PRINTED BY PROGRAM: for each function its condition (vc), and that this suffices (ok).
-/
import Derived.Test.YteohbfaechfliaaQSlotsTurnedGT
namespace Go.Proofs.Yteohbfaechfliaa
open Go.RowKit
set_option linter.unusedVariables false
set_option maxHeartbeats 1000000
set_option maxRecDepth 10000
def ref06_Bare.vc (f : Int) (g : Str) (j : Str) (o : Sl) (y : Sl) (R : Value → World → Prop) (w : World) : Prop :=
∀ (p : World) (b : Nat) (d : Nat), New w b p → New w d p → b ≠ d → Chg [] w p →
RunK Try.prog (Builtin.append_ #[23, 23] 23 #[Sl.v Sl.nil, Sl.v o]) p [b, d] (fun v z => ∃ (k : Sl), v = Sl.v k ∧
∀ (q : World), Chg [] z q →
∀ (u : World), Chg [d] q u →
R (.agg #[.int .i64 f, .string (Bs g), .string (Bs j), Sl.v k, Sl.v Sl.nil]) u)
theorem ref06_Bare.ok (f : Int) (g : Str) (j : Str) (o : Sl) (y : Sl) {R : Value → World → Prop} {w : World} (ap : ref06_Bare.vc f g j o y R w) : Calls Try.prog 59 #[.agg #[.int .i64 f, .string (Bs g), .string (Bs j), Sl.v o, Sl.v y]] w (Ret R) := by
 refine go _ Try.func59 Try.ntmps59 ap ?_
 refine gS <| gR <| nb fun w3 b => ?_
 refine na ti_26 fun w5 d => ge <| tn <| gS ?_
 intro a8 m aq
 have l := m.ag
 have ar := m.bx 1 rfl
 have au := m.bx 0 rfl
 have av := m.chg
 have ax := m.new b (by simp)
 have ay := m.new d (by simp)
 have aj : b ≠ d := m.ne 1 0
 let aa : List (List Nat) := [[], [0], [], [2], [], [4], [], [6], [6, 7], [0, 1, 2, 3, 4, 5, 6, 7, 8], [0, 1, 2, 3, 4, 5, 6, 7, 8, 9]]
 refine draw' (by kernel_rfl) fun p r => ?_
 have s := ar.ext r
 have az := au.ext r
 have aA := av.more r
 have aB := ax.up r.size
 have aC := ay.up r.size
 have aD := aq p b d aB aC aj aA
 refine startF (D := aa) (Fs := [0, 1, 2, 3, 4, 5, 6, 7]) (Ef := [(0, fun v _ => v = pB b 0), (1, fun v _ => v = .int .i64 f), (2, fun v _ => v = pB b 1), (3, fun v _ => v = .string (Bs g)), (4, fun v _ => v = pB b 2), (5, fun v _ => v = .string (Bs j)), (6, fun v _ => v = pB b 3), (7, fun v _ => v = Sl.v o)]) (by kernel_rfl) ?_
 refine oneF (c := 8) l rfl (by kernel_rfl) (constF ⟨fun _ _ _ h => h, fun _ _ _ h => h, fun _ _ _ h => h, fun _ _ _ h => h, fun _ _ _ h => h, fun _ _ _ h => h, fun _ _ _ h => h, fun _ _ _ h => h, trivial⟩) ⟨?_, ?_, ?_, ?_, ?_, ?_, ?_, ?_, trivial⟩ ?_
 ·intro a hT
  have hAp := hT.ag l [(1, pB b 0)] ⟨rfl, trivial⟩ (by kernel_rfl)
  exact opk_val hAp rfl (r_fieldAddr (hAp.get rfl) Try.underlying26 rfl ti_3 (by decide)) fun _ _ e => ⟨_, e, rfl, fun _ => Eq.refl _⟩
 ·intro a hT
  have hAp := hT.ag l [] trivial (by kernel_rfl)
  have hAp := hAp.add (t := 3) (v := pB b 0) (hT.vals 0 rfl 3 rfl)
  exact opk_val hAp rfl (r_load1 tU3 rfl (hAp.get rfl) ((s.ext hT.chg).cell 0 _ rfl)) fun _ _ e => ⟨_, e, rfl, fun _ => Eq.refl _⟩
 ·intro a hT
  have hAp := hT.ag l [(1, pB b 0)] ⟨rfl, trivial⟩ (by kernel_rfl)
  exact opk_val hAp rfl (r_fieldAddr (hAp.get rfl) Try.underlying26 rfl ti_9 (by decide)) fun _ _ e => ⟨_, e, rfl, fun _ => Eq.refl _⟩
 ·intro a hT
  have hAp := hT.ag l [] trivial (by kernel_rfl)
  have hAp := hAp.add (t := 5) (v := pB b 1) (hT.vals 2 rfl 5 rfl)
  exact opk_val hAp rfl (r_load1 tU9 rfl (hAp.get rfl) ((s.ext hT.chg).cell 1 _ rfl)) fun _ _ e => ⟨_, e, rfl, fun _ => Eq.refl _⟩
 ·intro a hT
  have hAp := hT.ag l [(1, pB b 0)] ⟨rfl, trivial⟩ (by kernel_rfl)
  exact opk_val hAp rfl (r_fieldAddr (hAp.get rfl) Try.underlying26 rfl ti_9 (by decide)) fun _ _ e => ⟨_, e, rfl, fun _ => Eq.refl _⟩
 ·intro a hT
  have hAp := hT.ag l [] trivial (by kernel_rfl)
  have hAp := hAp.add (t := 7) (v := pB b 2) (hT.vals 4 rfl 7 rfl)
  exact opk_val hAp rfl (r_load1 tU9 rfl (hAp.get rfl) ((s.ext hT.chg).cell 2 _ rfl)) fun _ _ e => ⟨_, e, rfl, fun _ => Eq.refl _⟩
 ·intro a hT
  have hAp := hT.ag l [(1, pB b 0)] ⟨rfl, trivial⟩ (by kernel_rfl)
  exact opk_val hAp rfl (r_fieldAddr (hAp.get rfl) Try.underlying26 rfl ti_23 (by decide)) fun _ _ e => ⟨_, e, rfl, fun _ => Eq.refl _⟩
 ·intro a hT
  have hAp := hT.ag l [] trivial (by kernel_rfl)
  have hAp := hAp.add (t := 9) (v := pB b 3) (hT.vals 6 rfl 9 rfl)
  exact opk_val hAp rfl (r_load1 tU23 rfl (hAp.get rfl) ((s.ext hT.chg).cell 3 _ rfl)) fun _ _ e => ⟨_, e, rfl, fun _ => Eq.refl _⟩
 ·intro aG hT
  have aH := hT.ag l [(1, pB b 0), (2, pB d 0)] ⟨rfl, rfl, trivial⟩ (by kernel_rfl)
  have aI : aG.tmps.getD 10 undef = Sl.v o := hT.vals 7 rfl 10 rfl
  have ak := aH.add aI
  refine (opk_run ak rfl (fun _ _ hr => r_append rfl (ak.get rfl) hr) aD fun bl bo z aJ aK al bp aL => ?_)
  refine ⟨_, aK, ?_⟩
  obtain ⟨k, rfl, aM⟩ := aL
  have x := s.kept al (.head _)
  have aN := az.kept al (.tail _ (.head _))
  refine PRF_drop (X := [6, 7]) (Fs' := [0, 1, 2, 3, 4, 5]) aJ (by kernel_rfl) fun bq aO bt => ?_
  have n := aO [(1, pB b 0), (2, pB d 0), (11, Sl.v k)] ⟨rfl, rfl, rfl, trivial⟩ (by kernel_rfl)
  refine joinF n (by kernel_rfl) ⟨fun _ _ _ _ h => h, fun _ _ _ _ h => h, fun _ _ _ _ h => h, fun _ _ _ _ h => h, fun _ _ _ _ h => h, fun _ _ _ _ h => h, trivial⟩ ⟨?_, ?_, ?_, ?_, ?_, ?_, trivial⟩ ?_
  ·intro a w hT
   have hAp := hT.ag n [(1, pB b 0)] ⟨rfl, trivial⟩ (by kernel_rfl)
   exact ovr hAp rfl (r_fieldAddr (hAp.get rfl) Try.underlying26 rfl ti_3 (by decide)) fun _ => Eq.refl _
  ·intro a w hT
   have hAp := hT.ag n [] trivial (by kernel_rfl)
   have hAp := hAp.add (t := 3) (v := pB b 0) (hT.vals 0 rfl 3 rfl)
   exact ovr hAp rfl (r_load1 tU3 rfl (hAp.get rfl) ((x.ext hT.chg).cell 0 _ rfl)) fun _ => Eq.refl _
  ·intro a w hT
   have hAp := hT.ag n [(1, pB b 0)] ⟨rfl, trivial⟩ (by kernel_rfl)
   exact ovr hAp rfl (r_fieldAddr (hAp.get rfl) Try.underlying26 rfl ti_9 (by decide)) fun _ => Eq.refl _
  ·intro a w hT
   have hAp := hT.ag n [] trivial (by kernel_rfl)
   have hAp := hAp.add (t := 5) (v := pB b 1) (hT.vals 2 rfl 5 rfl)
   exact ovr hAp rfl (r_load1 tU9 rfl (hAp.get rfl) ((x.ext hT.chg).cell 1 _ rfl)) fun _ => Eq.refl _
  ·intro a w hT
   have hAp := hT.ag n [(1, pB b 0)] ⟨rfl, trivial⟩ (by kernel_rfl)
   exact ovr hAp rfl (r_fieldAddr (hAp.get rfl) Try.underlying26 rfl ti_9 (by decide)) fun _ => Eq.refl _
  ·intro a w hT
   have hAp := hT.ag n [] trivial (by kernel_rfl)
   have hAp := hAp.add (t := 7) (v := pB b 2) (hT.vals 4 rfl 7 rfl)
   exact ovr hAp rfl (r_load1 tU9 rfl (hAp.get rfl) ((x.ext hT.chg).cell 2 _ rfl)) fun _ => Eq.refl _
  ·intro ab q ad aP af
   have aQ := aP [(2, pB d 0), (11, Sl.v k)] ⟨rfl, rfl, trivial⟩ (by kernel_rfl)
   have aR : ab.tmps.getD 4 undef = .int .i64 f := af 1 rfl 4 rfl
   have aS := aQ.add aR
   have aU : ab.tmps.getD 6 undef = .string (Bs g) := af 3 rfl 6 rfl
   have aV := aS.add aU
   have aX : ab.tmps.getD 8 undef = .string (Bs j) := af 5 rfl 8 rfl
   have am := aV.add aX
   have aY := x.ext ad
   have aZ := aN.ext ad
   have a0 : Chg [] z q := ad
   have a1 := aM q    a0
   refine par (D := aa) (S := [9]) (F := []) (V := VL [(9, fun v _ => v = .agg #[.int .i64 f, .string (Bs g), .string (Bs j), Sl.v k, Sl.v Sl.nil])]) am (by kernel_rfl) ⟨fun _ _ _ _ h => h, trivial⟩ ⟨?_, trivial⟩ ?_
   ·intro a w hT
    have hAp := hT.ag am [(4, .int .i64 f), (6, .string (Bs g)), (8, .string (Bs j)), (11, Sl.v k)] ⟨rfl, rfl, rfl, rfl, trivial⟩ (by kernel_rfl)
    exact ovr hAp rfl (r_build (vs := #[(0, .int .i64 f), (1, .string (Bs g)), (2, .string (Bs j)), (3, Sl.v k)]) (cells := #[.int .i64 f, .string (Bs g), .string (Bs j), Sl.v k, Sl.v Sl.nil]) (map_arr2 (ml2_cons (hAp.get rfl) (ml2_cons (hAp.get rfl) (ml2_cons (hAp.get rfl) (ml2_cons (hAp.get rfl) (ml2_nil)))))) ti_26 Try.underlying26 pl_26 (by kernel_rfl)) fun _ => Eq.refl _
   ·intro a2 a3 ah a4 a5
    have a6 := a4 [(2, pB d 0)] ⟨rfl, trivial⟩ (by kernel_rfl)
    have a7 : a2.tmps.getD 12 undef = .agg #[.int .i64 f, .string (Bs g), .string (Bs j), Sl.v k, Sl.v Sl.nil] := a5 9 rfl 12 rfl
    have ai := a6.add a7
    have hB70 := aY.ext ah
    have an := aZ.ext ah
    have a9 : Chg [] q a3 := ah
    refine one (D := aa) (i := 10) rfl (by kernel_rfl) (opk_store ai an (r_store (vs := [.int .i64 f, .string (Bs g), .string (Bs j), Sl.v k, Sl.v Sl.nil]) (ai.get rfl) (ai.get rfl) rfl ti_26 an rfl (ones_all _ rfl)) fun bu u ao ba bb => ?_)
    have bd : Box u d 26 [.int .i64 f, .string (Bs g), .string (Bs j), Sl.v k, Sl.v Sl.nil] := ba
    have bv := hB70.keep ao (by simpa using aj)
    have bf := a9.storeOld ao
    refine PR_end (by kernel_rfl) ?_
    have bg := bb.kp [(2, pB d 0)] rfl
    refine gK (bs := [(d, 26, [.int .i64 f, .string (Bs g), .string (Bs j), Sl.v k, Sl.v Sl.nil])]) (N := []) bg bf ⟨bd, trivial⟩ (by simp) trivial (by simp) a1 ?_
    exact tn <| gr <| gT0 <| gzB 0 Try.underlying26 ti_26
end Go.Proofs.Yteohbfaechfliaa
