/-
  PRINTED BY PROGRAM: for each function its condition (vc), and that this suffices (ok).
-/
import Derived.Test.YteohbfaechfliaaQSlotsAttrsGT
namespace Go.Proofs.Yteohbfaechfliaa
open Go.RowKit
set_option linter.unusedVariables false
set_option maxHeartbeats 1000000
set_option maxRecDepth 10000
def ref06_Bare.vc (f : Int) (g : Str) (j : Str) (o : Sl) (y : Sl) (R : Value → World → Prop) (w : World) : Prop :=
∀ (p : World) (b : Nat) (d : Nat), New w b p → New w d p → b ≠ d → Chg [] w p →
RunK Try.prog (Builtin.append_ #[23, 23] 23 #[Sl.v Sl.nil, Sl.v o]) p [b, d] (fun v z => ∃ (k : Sl), v = Sl.v k ∧
∀ (q : World), Chg [] z q →
∀ (u : World), Chg [d] q u →
R (.agg #[.int .i64 f, .string (Bs g), .string (Bs j), Sl.v k, Sl.v Sl.nil]) u)
theorem ref06_Bare.ok (f : Int) (g : Str) (j : Str) (o : Sl) (y : Sl) {R : Value → World → Prop} {w : World} (ao : ref06_Bare.vc f g j o y R w) : Calls Try.prog 59 #[.agg #[.int .i64 f, .string (Bs g), .string (Bs j), Sl.v o, Sl.v y]] w (Ret R) := by
 refine go _ Try.func59 Try.ntmps59 ao ?_
 refine gS <| gR <| nb fun w3 b => ?_
 refine na ti_26 fun w5 d => ge <| tn <| gS ?_
 intro a8 m ap
 have l := m.ag
 have aq := m.bx 1 rfl
 have ar := m.bx 0 rfl
 have au := m.chg
 have av := m.new b (by simp)
 have ax := m.new d (by simp)
 have ai : b ≠ d := m.ne 1 0
 refine draw' (by kernel_rfl) fun p r => ?_
 have s := aq.ext r
 have ay := ar.ext r
 have az := au.more r
 have aA := av.up r.size
 have aB := ax.up r.size
 have aC := ap p b d aA aB ai az
 refine startF (D := [[], [0], [], [2], [], [4], [], [6], [6, 7], [0, 1, 2, 3, 4, 5, 6, 7, 8], [0, 1, 2, 3, 4, 5, 6, 7, 8, 9]]) (Fs := [0, 1, 2, 3, 4, 5, 6, 7]) (Ef := [(0, fun v _ => v = pB b 0), (1, fun v _ => v = .int .i64 f), (2, fun v _ => v = pB b 1), (3, fun v _ => v = .string (Bs g)), (4, fun v _ => v = pB b 2), (5, fun v _ => v = .string (Bs j)), (6, fun v _ => v = pB b 3), (7, fun v _ => v = Sl.v o)]) (by kernel_rfl) ?_
 refine oneF (c := 8) l rfl (by kernel_rfl) (constF ⟨fun _ _ _ h => h, fun _ _ _ h => h, fun _ _ _ h => h, fun _ _ _ h => h, fun _ _ _ h => h, fun _ _ _ h => h, fun _ _ _ h => h, fun _ _ _ h => h, trivial⟩) ⟨?_, ?_, ?_, ?_, ?_, ?_, ?_, ?_, trivial⟩ ?_
 ·intro a hT
  have hAp := hT.ag l [(1, pB b 0)] ⟨rfl, trivial⟩ (by kernel_rfl)
  exact opk_val hAp rfl (r_fieldAddr (hAp.get rfl) Try.underlying26 rfl ti_3 (by decide)) fun _ _ e => ⟨_, e, rfl, fun _ => Eq.refl _⟩
 ·intro a hT
  have hAp := hT.ag l [] trivial (by kernel_rfl)
  have hAp := hAp.add (t := 3) (v := pB b 0) (hT.vals 0 rfl 3 rfl)
  exact opk_val hAp rfl (r_load1 tU3 rfl (hAp.get rfl) ((s.ext hT.chg).cell 0 _ rfl)) fun _ _ e => ⟨_, e, rfl, fun _ => Eq.refl _⟩
 ·intro a hT
  have hAp := hT.ag l [(1, pB b 0)] ⟨rfl, trivial⟩ (by kernel_rfl)
  exact opk_val hAp rfl (r_fieldAddr (hAp.get rfl) Try.underlying26 rfl ti_9 (by decide)) fun _ _ e => ⟨_, e, rfl, fun _ => Eq.refl _⟩
 ·intro a hT
  have hAp := hT.ag l [] trivial (by kernel_rfl)
  have hAp := hAp.add (t := 5) (v := pB b 1) (hT.vals 2 rfl 5 rfl)
  exact opk_val hAp rfl (r_load1 tU9 rfl (hAp.get rfl) ((s.ext hT.chg).cell 1 _ rfl)) fun _ _ e => ⟨_, e, rfl, fun _ => Eq.refl _⟩
 ·intro a hT
  have hAp := hT.ag l [(1, pB b 0)] ⟨rfl, trivial⟩ (by kernel_rfl)
  exact opk_val hAp rfl (r_fieldAddr (hAp.get rfl) Try.underlying26 rfl ti_9 (by decide)) fun _ _ e => ⟨_, e, rfl, fun _ => Eq.refl _⟩
 ·intro a hT
  have hAp := hT.ag l [] trivial (by kernel_rfl)
  have hAp := hAp.add (t := 7) (v := pB b 2) (hT.vals 4 rfl 7 rfl)
  exact opk_val hAp rfl (r_load1 tU9 rfl (hAp.get rfl) ((s.ext hT.chg).cell 2 _ rfl)) fun _ _ e => ⟨_, e, rfl, fun _ => Eq.refl _⟩
 ·intro a hT
  have hAp := hT.ag l [(1, pB b 0)] ⟨rfl, trivial⟩ (by kernel_rfl)
  exact opk_val hAp rfl (r_fieldAddr (hAp.get rfl) Try.underlying26 rfl ti_23 (by decide)) fun _ _ e => ⟨_, e, rfl, fun _ => Eq.refl _⟩
 ·intro a hT
  have hAp := hT.ag l [] trivial (by kernel_rfl)
  have hAp := hAp.add (t := 9) (v := pB b 3) (hT.vals 6 rfl 9 rfl)
  exact opk_val hAp rfl (r_load1 tU23 rfl (hAp.get rfl) ((s.ext hT.chg).cell 3 _ rfl)) fun _ _ e => ⟨_, e, rfl, fun _ => Eq.refl _⟩
 ·intro aD hT
  have aG := hT.ag l [(1, pB b 0), (2, pB d 0)] ⟨rfl, rfl, trivial⟩ (by kernel_rfl)
  have aH : aD.tmps.getD 10 undef = Sl.v o := hT.vals 7 rfl 10 rfl
  have aj := aG.add aH
  refine (opk_run aj rfl (fun _ _ hr => r_append rfl (aj.get rfl) hr) aC fun bk bl z aI aJ ak bo aK => ?_)
  refine ⟨_, aJ, ?_⟩
  obtain ⟨k, rfl, aL⟩ := aK
  have x := s.kept ak (.head _)
  have aM := ay.kept ak (.tail _ (.head _))
  refine PRF_drop (X := [6, 7]) (Fs' := [0, 1, 2, 3, 4, 5]) aI (by kernel_rfl) fun bp aN bq => ?_
  have n := aN [(1, pB b 0), (2, pB d 0), (11, Sl.v k)] ⟨rfl, rfl, rfl, trivial⟩ (by kernel_rfl)
  refine joinF n (by kernel_rfl) ⟨fun _ _ _ _ h => h, fun _ _ _ _ h => h, fun _ _ _ _ h => h, fun _ _ _ _ h => h, fun _ _ _ _ h => h, fun _ _ _ _ h => h, trivial⟩ ⟨?_, ?_, ?_, ?_, ?_, ?_, trivial⟩ ?_
  ·intro a w hT
   have hAp := hT.ag n [(1, pB b 0)] ⟨rfl, trivial⟩ (by kernel_rfl)
   exact ovr hAp rfl (r_fieldAddr (hAp.get rfl) Try.underlying26 rfl ti_3 (by decide)) fun _ => Eq.refl _
  ·intro a w hT
   have hAp := hT.ag n [] trivial (by kernel_rfl)
   have hAp := hAp.add (t := 3) (v := pB b 0) (hT.vals 0 rfl 3 rfl)
   exact ovr hAp rfl (r_load1 tU3 rfl (hAp.get rfl) ((x.ext hT.chg).cell 0 _ rfl)) fun _ => Eq.refl _
  ·intro a w hT
   have hAp := hT.ag n [(1, pB b 0)] ⟨rfl, trivial⟩ (by kernel_rfl)
   exact ovr hAp rfl (r_fieldAddr (hAp.get rfl) Try.underlying26 rfl ti_9 (by decide)) fun _ => Eq.refl _
  ·intro a w hT
   have hAp := hT.ag n [] trivial (by kernel_rfl)
   have hAp := hAp.add (t := 5) (v := pB b 1) (hT.vals 2 rfl 5 rfl)
   exact ovr hAp rfl (r_load1 tU9 rfl (hAp.get rfl) ((x.ext hT.chg).cell 1 _ rfl)) fun _ => Eq.refl _
  ·intro a w hT
   have hAp := hT.ag n [(1, pB b 0)] ⟨rfl, trivial⟩ (by kernel_rfl)
   exact ovr hAp rfl (r_fieldAddr (hAp.get rfl) Try.underlying26 rfl ti_9 (by decide)) fun _ => Eq.refl _
  ·intro a w hT
   have hAp := hT.ag n [] trivial (by kernel_rfl)
   have hAp := hAp.add (t := 7) (v := pB b 2) (hT.vals 4 rfl 7 rfl)
   exact ovr hAp rfl (r_load1 tU9 rfl (hAp.get rfl) ((x.ext hT.chg).cell 2 _ rfl)) fun _ => Eq.refl _
  ·intro aa q ab aO ad
   have aP := aO [(2, pB d 0), (11, Sl.v k)] ⟨rfl, rfl, trivial⟩ (by kernel_rfl)
   have aQ : aa.tmps.getD 4 undef = .int .i64 f := ad 1 rfl 4 rfl
   have aR := aP.add aQ
   have aS : aa.tmps.getD 6 undef = .string (Bs g) := ad 3 rfl 6 rfl
   have aU := aR.add aS
   have aV : aa.tmps.getD 8 undef = .string (Bs j) := ad 5 rfl 8 rfl
   have al := aU.add aV
   have aX := x.ext ab
   have aY := aM.ext ab
   have aZ : Chg [] z q := ab
   have a0 := aL q    aZ
   refine par (D := [[], [0], [], [2], [], [4], [], [6], [6, 7], [0, 1, 2, 3, 4, 5, 6, 7, 8], [0, 1, 2, 3, 4, 5, 6, 7, 8, 9]]) (S := [9]) (F := []) (V := VL [(9, fun v _ => v = .agg #[.int .i64 f, .string (Bs g), .string (Bs j), Sl.v k, Sl.v Sl.nil])]) al (by kernel_rfl) ⟨fun _ _ _ _ h => h, trivial⟩ ⟨?_, trivial⟩ ?_
   ·intro a w hT
    have hAp := hT.ag al [(4, .int .i64 f), (6, .string (Bs g)), (8, .string (Bs j)), (11, Sl.v k)] ⟨rfl, rfl, rfl, rfl, trivial⟩ (by kernel_rfl)
    exact ovr hAp rfl (r_build (vs := #[(0, .int .i64 f), (1, .string (Bs g)), (2, .string (Bs j)), (3, Sl.v k)]) (cells := #[.int .i64 f, .string (Bs g), .string (Bs j), Sl.v k, Sl.v Sl.nil]) (map_arr2 (ml2_cons (hAp.get rfl) (ml2_cons (hAp.get rfl) (ml2_cons (hAp.get rfl) (ml2_cons (hAp.get rfl) (ml2_nil)))))) ti_26 Try.underlying26 pl_26 (by kernel_rfl)) fun _ => Eq.refl _
   ·intro a1 a2 af a3 a4
    have a5 := a3 [(2, pB d 0)] ⟨rfl, trivial⟩ (by kernel_rfl)
    have a6 : a1.tmps.getD 12 undef = .agg #[.int .i64 f, .string (Bs g), .string (Bs j), Sl.v k, Sl.v Sl.nil] := a4 9 rfl 12 rfl
    have ah := a5.add a6
    have a7 := aX.ext af
    have am := aY.ext af
    have hC72 : Chg [] q a2 := af
    refine one (D := [[], [0], [], [2], [], [4], [], [6], [6, 7], [0, 1, 2, 3, 4, 5, 6, 7, 8], [0, 1, 2, 3, 4, 5, 6, 7, 8, 9]]) (i := 10) rfl (by kernel_rfl) (opk_store ah am (r_store (vs := [.int .i64 f, .string (Bs g), .string (Bs j), Sl.v k, Sl.v Sl.nil]) (ah.get rfl) (ah.get rfl) rfl ti_26 am rfl (ones_all _ rfl)) fun bt u an a9 ba => ?_)
    have bb : Box u d 26 [.int .i64 f, .string (Bs g), .string (Bs j), Sl.v k, Sl.v Sl.nil] := a9
    have bu := a7.keep an (by simpa using ai)
    have bd := hC72.storeOld an
    refine PR_end (by kernel_rfl) ?_
    have bf := ba.kp [(2, pB d 0)] rfl
    refine gK (bs := [(d, 26, [.int .i64 f, .string (Bs g), .string (Bs j), Sl.v k, Sl.v Sl.nil])]) (N := []) bf bd ⟨bb, trivial⟩ (by simp) trivial (by simp) a0 ?_
    exact tn <| gr <| gT0 <| gzB 0 Try.underlying26 ti_26
end Go.Proofs.Yteohbfaechfliaa
