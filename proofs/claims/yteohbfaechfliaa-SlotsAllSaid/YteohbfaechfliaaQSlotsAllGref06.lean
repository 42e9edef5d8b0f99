/-
  PRINTED BY PROGRAM: for each function its condition (vc), and that this suffices (ok).
-/
import Derived.Test.YteohbfaechfliaaQSlotsAllGT
namespace Go.Proofs.Yteohbfaechfliaa
open Go.RowKit
set_option linter.unusedVariables false
set_option maxHeartbeats 1000000
set_option maxRecDepth 10000
def ref06_Bare.vc (d : Int) (f : Str) (g : Str) (m : Sl) (q : Sl) (R : Value → World → Prop) (w : World) : Prop :=
∀ (o : World) (b : Nat) (j : Nat), New w b o → New w j o → b ≠ j → Chg [] w o →
RunK Try.prog (Builtin.append_ #[23, 23] 23 #[Sl.v Sl.nil, Sl.v m]) o [b, j] (fun v y => ∃ (k : Sl), v = Sl.v k ∧
∀ (p : World), Chg [] y p →
∀ (r : World), Chg [j] p r →
R (.agg #[.int .i64 d, .string (Bs f), .string (Bs g), Sl.v k, Sl.v Sl.nil]) r)
theorem ref06_Bare.ok (d : Int) (f : Str) (g : Str) (m : Sl) (q : Sl) {R : Value → World → Prop} {w : World} (ai : ref06_Bare.vc d f g m q R w) : Calls Try.prog 59 #[.agg #[.int .i64 d, .string (Bs f), .string (Bs g), Sl.v m, Sl.v q]] w (Ret R) := by
 refine enter [.agg #[.int .i64 d, .string (Bs f), .string (Bs g), Sl.v m, Sl.v q]] Try.func59 rfl Try.ntmps59 rfl ?_
 intro a0 aj
 unfold ref06_Bare.vc at ai
 refine wp_seq (wp_region_lit ?_)
 refine sq (opk_new (fun B => .pointer (some ⟨B, 0, none⟩)) aj rfl (r_box (cs := [.int .i64 d, .string (Bs f), .string (Bs g), Sl.v m, Sl.v q]) (aj.get rfl) rfl) fun a4 w3 b ay az al aA _ => ?_)
 have aB : New w b w3 := az
 have am : Chg [] w w3 := ay
 refine sq (opk_new (fun B => .pointer (some ⟨B, 0, none⟩)) aA rfl (r_alloc (cs := [.int .i64 0, .string (Bs []), .string (Bs []), Sl.v Sl.nil, Sl.v Sl.nil]) ti_26 rfl) fun bq br j z an aC aD _ => ?_)
 have ao : b ≠ j := Nat.ne_of_lt (Nat.lt_of_lt_of_le al.lt an.ge)
 have aF := New.of am an
 have aG := al.ext z
 have aH := am.more z
 have aI := aB.up z.size
 refine sq_end ?_
 have l := aD.kp [(1, pB b 0), (2, pB j 0)] rfl
 refine then_normal (wp_seq ?_)
 refine draw' (by kernel_rfl) fun o s => ?_
 have u := aG.ext s
 have aJ := aC.ext s
 have aK := aH.more s
 have aL := aI.up s.size
 have aM := aF.up s.size
 have aN := ai o b j aL aM ao aK
 refine startF (D := [[], [0], [], [2], [], [4], [], [6], [6, 7], [0, 1, 2, 3, 4, 5, 6, 7, 8], [0, 1, 2, 3, 4, 5, 6, 7, 8, 9]]) (Fs := [0, 1, 2, 3, 4, 5, 6, 7]) (Ef := [(0, fun v _ => v = pB b 0), (1, fun v _ => v = .int .i64 d), (2, fun v _ => v = pB b 1), (3, fun v _ => v = .string (Bs f)), (4, fun v _ => v = pB b 2), (5, fun v _ => v = .string (Bs g)), (6, fun v _ => v = pB b 3), (7, fun v _ => v = Sl.v m)]) (by kernel_rfl) ?_
 refine oneF (c := 8) l rfl (by kernel_rfl) (constF ⟨fun _ _ _ h => h, fun _ _ _ h => h, fun _ _ _ h => h, fun _ _ _ h => h, fun _ _ _ h => h, fun _ _ _ h => h, fun _ _ _ h => h, fun _ _ _ h => h, trivial⟩) ⟨?_, ?_, ?_, ?_, ?_, ?_, ?_, ?_, trivial⟩ ?_
 ·intro a hT
  have hAp := hT.ag l [(1, pB b 0)] ⟨rfl, trivial⟩ (by kernel_rfl)
  exact opk_val hAp rfl (r_fieldAddr (hAp.get rfl) Try.underlying26 rfl ti_3 (by decide)) fun _ _ e => ⟨_, e, rfl, fun _ => Eq.refl _⟩
 ·intro a hT
  have hAp := hT.ag l [] trivial (by kernel_rfl)
  have hAp := hAp.add (t := 3) (v := pB b 0) (hT.vals 0 rfl 3 rfl)
  exact opk_val hAp rfl (r_load1 tU3 rfl (hAp.get rfl) ((u.ext hT.chg).cell 0 _ rfl)) fun _ _ e => ⟨_, e, rfl, fun _ => Eq.refl _⟩
 ·intro a hT
  have hAp := hT.ag l [(1, pB b 0)] ⟨rfl, trivial⟩ (by kernel_rfl)
  exact opk_val hAp rfl (r_fieldAddr (hAp.get rfl) Try.underlying26 rfl ti_9 (by decide)) fun _ _ e => ⟨_, e, rfl, fun _ => Eq.refl _⟩
 ·intro a hT
  have hAp := hT.ag l [] trivial (by kernel_rfl)
  have hAp := hAp.add (t := 5) (v := pB b 1) (hT.vals 2 rfl 5 rfl)
  exact opk_val hAp rfl (r_load1 tU9 rfl (hAp.get rfl) ((u.ext hT.chg).cell 1 _ rfl)) fun _ _ e => ⟨_, e, rfl, fun _ => Eq.refl _⟩
 ·intro a hT
  have hAp := hT.ag l [(1, pB b 0)] ⟨rfl, trivial⟩ (by kernel_rfl)
  exact opk_val hAp rfl (r_fieldAddr (hAp.get rfl) Try.underlying26 rfl ti_9 (by decide)) fun _ _ e => ⟨_, e, rfl, fun _ => Eq.refl _⟩
 ·intro a hT
  have hAp := hT.ag l [] trivial (by kernel_rfl)
  have hAp := hAp.add (t := 7) (v := pB b 2) (hT.vals 4 rfl 7 rfl)
  exact opk_val hAp rfl (r_load1 tU9 rfl (hAp.get rfl) ((u.ext hT.chg).cell 2 _ rfl)) fun _ _ e => ⟨_, e, rfl, fun _ => Eq.refl _⟩
 ·intro a hT
  have hAp := hT.ag l [(1, pB b 0)] ⟨rfl, trivial⟩ (by kernel_rfl)
  exact opk_val hAp rfl (r_fieldAddr (hAp.get rfl) Try.underlying26 rfl ti_23 (by decide)) fun _ _ e => ⟨_, e, rfl, fun _ => Eq.refl _⟩
 ·intro a hT
  have hAp := hT.ag l [] trivial (by kernel_rfl)
  have hAp := hAp.add (t := 9) (v := pB b 3) (hT.vals 6 rfl 9 rfl)
  exact opk_val hAp rfl (r_load1 tU23 rfl (hAp.get rfl) ((u.ext hT.chg).cell 3 _ rfl)) fun _ _ e => ⟨_, e, rfl, fun _ => Eq.refl _⟩
 ·intro aO hT
  have aP := hT.ag l [(1, pB b 0), (2, pB j 0)] ⟨rfl, rfl, trivial⟩ (by kernel_rfl)
  have aQ : aO.tmps.getD 10 undef = Sl.v m := hT.vals 7 rfl 10 rfl
  have ap := aP.add aQ
  refine (opk_run ap rfl (fun _ _ hr => r_append rfl (ap.get rfl) hr) aN fun bs bt y aR aS aq bu aT => ?_)
  refine ⟨_, aS, ?_⟩
  obtain ⟨k, rfl, aU⟩ := aT
  have x := u.kept aq (.head _)
  have aV := aJ.kept aq (.tail _ (.head _))
  refine PRF_drop (X := [6, 7]) (Fs' := [0, 1, 2, 3, 4, 5]) aR (by kernel_rfl) fun bv aX bx => ?_
  have n := aX [(1, pB b 0), (2, pB j 0), (11, Sl.v k)] ⟨rfl, rfl, rfl, trivial⟩ (by kernel_rfl)
  refine joinF n (by kernel_rfl) ⟨fun _ _ _ _ h => h, fun _ _ _ _ h => h, fun _ _ _ _ h => h, fun _ _ _ _ h => h, fun _ _ _ _ h => h, fun _ _ _ _ h => h, trivial⟩ ⟨?_, ?_, ?_, ?_, ?_, ?_, trivial⟩ ?_
  ·intro a w hT
   have hAp := hT.ag n [(1, pB b 0)] ⟨rfl, trivial⟩ (by kernel_rfl)
   exact ovr hAp rfl (r_fieldAddr (hAp.get rfl) Try.underlying26 rfl ti_3 (by decide)) fun _ => Eq.refl _
  ·intro a w hT
   have hAp := hT.ag n [] trivial (by kernel_rfl)
   have hAp := hAp.add (t := 3) (v := pB b 0) (hT.vals 0 rfl 3 rfl)
   exact ovr hAp rfl (r_load1 tU3 rfl (hAp.get rfl) ((x.ext hT.chg).cell 0 _ rfl)) fun _ => Eq.refl _
  ·intro a w hT
   have hAp := hT.ag n [(1, pB b 0)] ⟨rfl, trivial⟩ (by kernel_rfl)
   exact ovr hAp rfl (r_fieldAddr (hAp.get rfl) Try.underlying26 rfl ti_9 (by decide)) fun _ => Eq.refl _
  ·intro a w hT
   have hAp := hT.ag n [] trivial (by kernel_rfl)
   have hAp := hAp.add (t := 5) (v := pB b 1) (hT.vals 2 rfl 5 rfl)
   exact ovr hAp rfl (r_load1 tU9 rfl (hAp.get rfl) ((x.ext hT.chg).cell 1 _ rfl)) fun _ => Eq.refl _
  ·intro a w hT
   have hAp := hT.ag n [(1, pB b 0)] ⟨rfl, trivial⟩ (by kernel_rfl)
   exact ovr hAp rfl (r_fieldAddr (hAp.get rfl) Try.underlying26 rfl ti_9 (by decide)) fun _ => Eq.refl _
  ·intro a w hT
   have hAp := hT.ag n [] trivial (by kernel_rfl)
   have hAp := hAp.add (t := 7) (v := pB b 2) (hT.vals 4 rfl 7 rfl)
   exact ovr hAp rfl (r_load1 tU9 rfl (hAp.get rfl) ((x.ext hT.chg).cell 2 _ rfl)) fun _ => Eq.refl _
  ·intro aa p ab aY ad
   have aZ := aY [(2, pB j 0), (11, Sl.v k)] ⟨rfl, rfl, trivial⟩ (by kernel_rfl)
   have e58 : aa.tmps.getD 4 undef = .int .i64 d := ad 1 rfl 4 rfl
   have a1 := aZ.add e58
   have a2 : aa.tmps.getD 6 undef = .string (Bs f) := ad 3 rfl 6 rfl
   have a3 := a1.add a2
   have e62 : aa.tmps.getD 8 undef = .string (Bs g) := ad 5 rfl 8 rfl
   have ar := a3.add e62
   have a5 := x.ext ab
   have a6 := aV.ext ab
   have a7 : Chg [] y p := ab
   have a8 := aU p    a7
   refine par (D := [[], [0], [], [2], [], [4], [], [6], [6, 7], [0, 1, 2, 3, 4, 5, 6, 7, 8], [0, 1, 2, 3, 4, 5, 6, 7, 8, 9]]) (S := [9]) (F := []) (V := VL [(9, fun v _ => v = .agg #[.int .i64 d, .string (Bs f), .string (Bs g), Sl.v k, Sl.v Sl.nil])]) ar (by kernel_rfl) ⟨fun _ _ _ _ h => h, trivial⟩ ⟨?_, trivial⟩ ?_
   ·intro a w hT
    have hAp := hT.ag ar [(4, .int .i64 d), (6, .string (Bs f)), (8, .string (Bs g)), (11, Sl.v k)] ⟨rfl, rfl, rfl, rfl, trivial⟩ (by kernel_rfl)
    exact ovr hAp rfl (r_build (vs := #[(0, .int .i64 d), (1, .string (Bs f)), (2, .string (Bs g)), (3, Sl.v k)]) (cells := #[.int .i64 d, .string (Bs f), .string (Bs g), Sl.v k, Sl.v Sl.nil]) (map_arr2 (ml2_cons (hAp.get rfl) (ml2_cons (hAp.get rfl) (ml2_cons (hAp.get rfl) (ml2_cons (hAp.get rfl) (ml2_nil)))))) ti_26 Try.underlying26 pl_26 (by kernel_rfl)) fun _ => Eq.refl _
   ·intro a9 ba af bb bd
    have bf := bb [(2, pB j 0)] ⟨rfl, trivial⟩ (by kernel_rfl)
    have bg : a9.tmps.getD 12 undef = .agg #[.int .i64 d, .string (Bs f), .string (Bs g), Sl.v k, Sl.v Sl.nil] := bd 9 rfl 12 rfl
    have ah := bf.add bg
    have bh := a5.ext af
    have au := a6.ext af
    have bi : Chg [] p ba := af
    refine one (D := [[], [0], [], [2], [], [4], [], [6], [6, 7], [0, 1, 2, 3, 4, 5, 6, 7, 8], [0, 1, 2, 3, 4, 5, 6, 7, 8, 9]]) (i := 10) rfl (by kernel_rfl) (opk_store ah au (r_store (vs := [.int .i64 d, .string (Bs f), .string (Bs g), Sl.v k, Sl.v Sl.nil]) (ah.get rfl) (ah.get rfl) rfl ti_26 au rfl (ones_all _ rfl)) fun bz r av bj bk => ?_)
    have bl : Box r j 26 [.int .i64 d, .string (Bs f), .string (Bs g), Sl.v k, Sl.v Sl.nil] := bj
    have bA := bh.keep av (by simpa using ao)
    have bm := bi.storeOld av
    refine PR_end (by kernel_rfl) ?_
    have ax := bk.kp [(2, pB j 0)] rfl
    refine then_normal ?_
    refine wp_ret ?_
    have bn := a8 r    bm
    exact res_all (vs := [.agg #[.int .i64 d, .string (Bs f), .string (Bs g), Sl.v k, Sl.v Sl.nil]]) rfl ax ⟨res_of_cell ax rfl bl Try.underlying26 rfl ti_26, trivial⟩ bn
end Go.Proofs.Yteohbfaechfliaa
