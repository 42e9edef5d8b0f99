/-
  PRINTED BY PROGRAM: for each function its condition (vc), and that this suffices (ok).
-/
import Derived.Test.YteohbfaechfliaaQSlotsAllGT
namespace Go.Proofs.Yteohbfaechfliaa
open Go.RowKit
set_option linter.unusedVariables false
set_option maxHeartbeats 1000000
set_option maxRecDepth 10000
def ref07_Flat.vc (a : Int) (b : Str) (c : Str) (d : Sl) (f : Sl) (R : Value → World → Prop) (w : World) : Prop :=
∀ (g : World) (h : Nat), New w h g → Chg [] w g →
CallK Try.prog 35 #[Sl.v Sl.nil, .agg #[.int .i64 a, .string (Bs b), .string (Bs c), Sl.v d, Sl.v f], .int .i64 (-1), .int .i64 0, .int .i64 0] g [h] (fun v j => ∃ (i : Sl), v = Sl.v i ∧
R (Sl.v i) j)
theorem ref07_Flat.ok (a : Int) (b : Str) (c : Str) (d : Sl) (f : Sl) {R : Value → World → Prop} {w : World} (k : ref07_Flat.vc a b c d f R w) : Calls Try.prog 11 #[.agg #[.int .i64 a, .string (Bs b), .string (Bs c), Sl.v d, Sl.v f]] w (Ret R) := by
 refine enter [.agg #[.int .i64 a, .string (Bs b), .string (Bs c), Sl.v d, Sl.v f]] Try.func11 rfl Try.ntmps11 rfl ?_
 intro a0 l
 unfold ref07_Flat.vc at k
 refine wp_seq (wp_region_lit ?_)
 refine sq (opk_new (fun B => .pointer (some ⟨B, 0, none⟩)) l rfl (r_box (cs := [.int .i64 a, .string (Bs b), .string (Bs c), Sl.v d, Sl.v f]) (l.get rfl) rfl) fun a4 g h r s m t _ => ?_)
 have u : New w h g := s
 have x : Chg [] w g := r
 refine sqv t rfl (r_assign rfl) fun _ y => sq_end ?_
 have n := y.kp [(1, pB h 0)] rfl
 refine then_normal (wp_seq (wp_region_lit ?_))
 refine sqv n rfl (r_loadN (cs := [.int .i64 a, .string (Bs b), .string (Bs c), Sl.v d, Sl.v f]) Try.underlying26 rfl ti_26 (n.get rfl) (m.part 0 _ rfl)) fun _ o => ?_
 have z := k g h u  x
 refine sq (opk_call o rfl (r_call (args := #[Sl.v Sl.nil, .agg #[.int .i64 a, .string (Bs b), .string (Bs c), Sl.v d, Sl.v f], .int .i64 (-1), .int .i64 0, .int .i64 0]) Try.func35 (by decide) rfl (map_arr (ml_cons rfl (ml_cons (o.get rfl) (ml_cons rfl (ml_cons rfl (ml_cons rfl ml_nil)))))) rfl) z fun ai aj j p _ aa ak ab => ?_)
 obtain ⟨i, rfl, ad⟩ := ab
 have al := m.kept aa (.head _)
 refine sqv p rfl (r_assign (p.get rfl)) fun _ af => sq_end ?_
 have q := af.kp [(2, Sl.v i)] rfl
 refine then_normal ?_
 refine wp_ret ?_
 exact res_all (vs := [Sl.v i]) rfl q ⟨res_of_tmp q rfl, trivial⟩ ad
def ref07_Kids.vc (d : Sl) (b : Int) (R : Value → World → Prop) (w : World) : Prop :=
(I64 (b + 1)) ∧
∃ (m : Sl → Int → World → Prop) (p : Sl → Int → World → Nat),
m Sl.nil (b + 1) w ∧
(∀ (f : Sl) (c : Int) (g : World), m f c g →
((0 : Int) ≤ b ∧ b < (d.n : Int)) ∧ ∃ r : Addr, d.a = some r ∧
∃ (k : Int), (g.cell? ((r.add (b.toNat * 15)).add 1) = some (.int .i64 k)) ∧
(I64 (b + k)) ∧
((c < (b + k)) →
∀ (h : World) (l : Nat), New g l h → Chg [] g h →
∀ (_ : Box h l 3 [.int .i64 c]),
RunK Try.prog (Builtin.append_ #[22, 22] 22 #[Sl.v f, Sl.v (Sl.mk (some ⟨l, 0, none⟩) 1 1)]) h [] (fun v o => ∃ (i : Sl), v = Sl.v i ∧
((0 : Int) ≤ c ∧ c < (d.n : Int)) ∧ ∃ t : Addr, d.a = some t ∧
∃ (j : Int), (o.cell? ((t.add (c.toNat * 15)).add 1) = some (.int .i64 j)) ∧
(I64 (c + j)) ∧
m i (c + j) o ∧ p i (c + j) o < p f c g)) ∧
((¬ (c < (b + k))) →
R (Sl.v f) g))
theorem ref07_Kids.ok (d : Sl) (b : Int) {R : Value → World → Prop} {w : World} (ad : ref07_Kids.vc d b R w) : Calls Try.prog 17 #[Sl.v d, .int .i64 b] w (Ret R) := by
 refine enter [Sl.v d, .int .i64 b] Try.func17 rfl Try.ntmps17 rfl ?_
 intro a0 aG
 unfold ref07_Kids.vc at ad
 refine wp_seq (wp_region_lit ?_)
 refine sqv aG rfl (r_assign rfl) fun _ aH => sq_end ?_
 have aI := aH.kp [(0, Sl.v d), (1, .int .i64 b)] rfl
 refine then_normal (wp_seq (wp_region_lit ?_))
 refine sqv aI rfl (r_assign rfl) fun _ aJ => sq_end ?_
 have af := aJ.kp [(0, Sl.v d), (1, .int .i64 b), (5, Sl.v Sl.nil)] rfl
 refine then_normal (wp_seq (wp_seq (wp_region_lit ?_)))
 refine sqv af rfl (r_move (af.get rfl)) fun _ ag => ?_
 obtain ⟨aK, aL⟩ := ad
 refine sqv ag rfl (r_addI (ag.get rfl) rfl aK) fun _ ah => sqv ah rfl (r_assign (ah.get rfl)) fun _ aM => sq_end ?_
 have aN := aM.kp [(0, Sl.v d), (1, .int .i64 b), (5, Sl.v Sl.nil), (6, .int .i64 (b + 1))] rfl
 refine then_normal (wp_block ?_)
 obtain ⟨m, p, aO, aP⟩ := aL
 refine wp_loop_st (σ := Sl × Int × World) (fun s a w => Ag 30 a [(0, Sl.v d), (1, .int .i64 b), (5, Sl.v s.1), (6, .int .i64 s.2.1)] ∧ w = s.2.2 ∧ m s.1 s.2.1 s.2.2) (fun s => p s.1 s.2.1 s.2.2) (Sl.nil, b + 1, w) ⟨aN.kp [(0, Sl.v d), (1, .int .i64 b), (5, Sl.v Sl.nil), (6, .int .i64 (b + 1))] rfl, rfl, aO⟩ ?_
 rintro ⟨f, c, g⟩ bp w_ ⟨ai, hw_, aQ⟩
 have hw_ : g = w_ := hw_.symm
 subst hw_
 have aR := aP f c _ aQ
 refine wp_seq (wp_seq (wp_region_lit ?_))
 refine sqv ai rfl (r_move (ai.get rfl)) fun _ aj => sqv aj rfl (r_move (aj.get rfl)) fun _ ak => sqv ak rfl (r_move (ak.get rfl)) fun _ al => sqv al rfl (r_move (al.get rfl)) fun _ u => ?_
 obtain ⟨aS, r, aT, aU⟩ := aR
 refine sqv u rfl (r_indexAddr (u.get rfl) (u.get rfl) tU31 ti_38 aS aT) fun _ am => sqv am rfl (r_fieldAddr (am.get rfl) Try.underlying38 rfl ti_3 (by decide)) fun _ an => ?_
 obtain ⟨k, aV, aX⟩ := aU
 refine sqv an rfl (r_load1 tU3 rfl (an.get rfl) aV) fun _ x => ?_
 obtain ⟨aY, ao⟩ := aX
 refine sqv x rfl (r_addI (x.get rfl) (x.get rfl) aY) fun _ y => sqv y rfl (r_lss (y.get rfl) (y.get rfl)) fun _ aZ => sq_end ?_
 have q := aZ.kp [(0, Sl.v d), (1, .int .i64 b), (5, Sl.v f), (6, .int .i64 c), (17, .bool (decide (c < (b + k))))] rfl
 refine then_normal ?_
 refine wp_cond_split (q.get rfl) (fun hc => ?_) (fun hc => ?_)
 ·have ht104 := ao.1 (of_decide_eq_true hc)
  clear hc
  refine wp_skip ?_
  refine then_normal (wp_seq (wp_block (wp_region_lit ?_)))
  refine sqv q rfl (r_move (q.get rfl)) fun _ ap => sqv ap rfl (r_move (ap.get rfl)) fun _ aq => ?_
  refine sq (opk_new (fun B => .slice (some ⟨B, 0, none⟩) 1 1) aq rfl (r_buildSlice (vs := #[(0, .int .i64 c)]) (cs := [.int .i64 c]) (map_arr2 (ml2_cons (aq.get rfl) (ml2_nil))) tU22 ti_3 rfl rfl (by kernel_rfl)) fun bq h l a1 a2 a3 z _ => ?_)
  have a4 : New g l h := a2
  have a5 : Chg [] g h := a1
  have a6 := ht104 h l a4  a5
  have a7 := a6 a3
  refine sq (opk_run z rfl (fun _ _ hr => r_append (z.get rfl) (z.get rfl) hr) a7 fun br bs o ar _ bt bu a8 => ?_)
  obtain ⟨i, rfl, a9⟩ := a8
  refine sqv ar rfl (r_assign (ar.get rfl)) fun _ ba => sq_end ?_
  have au := ba.kp [(0, Sl.v d), (1, .int .i64 b), (5, Sl.v i), (6, .int .i64 c)] rfl
  refine block_normal ?_
  refine then_normal (wp_region_lit ?_)
  refine sqv au rfl (r_move (au.get rfl)) fun _ av => sqv av rfl (r_move (av.get rfl)) fun _ ax => sqv ax rfl (r_move (ax.get rfl)) fun _ aa => ?_
  obtain ⟨bb, t, bd, bf⟩ := a9
  refine sqv aa rfl (r_indexAddr (aa.get rfl) (aa.get rfl) tU31 ti_38 bb bd) fun _ ay => sqv ay rfl (r_fieldAddr (ay.get rfl) Try.underlying38 rfl ti_3 (by decide)) fun _ az => ?_
  obtain ⟨j, bg, bh⟩ := bf
  refine sqv az rfl (r_load1 tU3 rfl (az.get rfl) bg) fun _ ab => ?_
  obtain ⟨bi, aA⟩ := bh
  refine sqv ab rfl (r_addI (ab.get rfl) (ab.get rfl) bi) fun _ aB => sqv aB rfl (r_assign (aB.get rfl)) fun _ bj => sq_end ?_
  have bk := bj.kp [(0, Sl.v d), (1, .int .i64 b), (5, Sl.v i), (6, .int .i64 (c + j))] rfl
  have bl := bk.kp [(0, Sl.v d), (1, .int .i64 b), (5, Sl.v i), (6, .int .i64 (c + j))] rfl
  exact then_normal ⟨(i, c + j, o), ⟨bl, rfl, aA.1⟩, aA.2⟩
 ·have bm := ao.2 (of_decide_eq_false hc)
  clear hc
  refine wp_exit ?_
  refine then_exit ?_
  refine then_exit ?_
  refine block_hit ?_
  have aC := q.kp [(5, Sl.v f)] rfl
  refine then_normal (wp_seq (wp_region_lit ?_))
  refine sqv aC rfl (r_move (aC.get rfl)) fun _ aD => sqv aD rfl (r_assign (aD.get rfl)) fun _ bn => sq_end ?_
  have aF := bn.kp [(4, Sl.v f)] rfl
  refine then_normal ?_
  refine wp_ret ?_
  exact res_all (vs := [Sl.v f]) rfl aF ⟨res_of_tmp aF rfl, trivial⟩ bm
def ref07_flat.vc (k : Sl) (q : Int) (r : Str) (u : Str) (x : Sl) (m : Sl) (aa : Int) (l : Int) (ab : Int) (R : Value → World → Prop) (w : World) : Prop :=
∀ (aj : World) (p : Nat), New w p aj → Chg [] w aj →
∃ ak : Int → Str → Str → Sl → Sl → World → Prop, (∀ c : Int, ∀ d : Str, ∀ f : Str, ∀ g : Sl, ∀ j : Sl, ∀ w' w'' : World, Ext w' w'' → ak c d f g j w' → ak c d f g j w'') ∧
(∀ w' : World, Ext aj w' → Calls Try.prog 59 #[.agg #[.int .i64 q, .string (Bs r), .string (Bs u), Sl.v x, Sl.v m]] w' (Ret fun v w'' => Ext w' w'' ∧ ∃ c : Int, ∃ d : Str, ∃ f : Str, ∃ g : Sl, ∃ j : Sl, v = .agg #[.int .i64 c, .string (Bs d), .string (Bs f), Sl.v g, Sl.v j] ∧ ak c d f g j w'')) ∧
∀ (al : World) (c : Int) (d : Str) (f : Str) (g : Sl) (j : Sl) (ad : Nat), Ext aj al → ak c d f g j al → aj.heap.size ≤ ad → Box al ad 38 [.int .i64 aa, .int .i64 0, .int .i64 l, .int .i64 0, .int .i64 ab, .int .i64 c, .string (Bs d), .string (Bs f), Sl.v g, Sl.v j, .int .i64 q, .string (Bs r), .string (Bs u), Sl.v x, Sl.v m] → 
∀ (_ : Box al ad 38 [.int .i64 aa, .int .i64 0, .int .i64 l, .int .i64 0, .int .i64 ab, .int .i64 c, .string (Bs d), .string (Bs f), Sl.v g, Sl.v j, .int .i64 q, .string (Bs r), .string (Bs u), Sl.v x, Sl.v m]),
RunK Try.prog (Builtin.append_ #[31, 31] 31 #[Sl.v k, Sl.v (Sl.mk (some ⟨ad, 0, none⟩) 1 1)]) al [p] (fun v aN => ∃ (af : Sl), v = Sl.v af ∧
∀ (ao : World), Chg [] aN ao →
∃ (av : Sl → Int → Int → World → Prop) (az : Sl → Int → Int → World → Nat),
av af 0 0 ao ∧
(∀ (o : Sl) (z : Int) (y : Int) (am : World), av o z y am →
((y < (m.n : Int)) →
((0 : Int) ≤ y ∧ y < (m.n : Int)) ∧ ∃ aO : Addr, m.a = some aO ∧
∃ (aA : Int) (aB : Str) (aC : Str) (aD : Sl) (aF : Sl), (Cells am (aO.add (y.toNat * 5)) [.int .i64 aA, .string (Bs aB), .string (Bs aC), Sl.v aD, Sl.v aF]) ∧
(I64 (l + 1)) ∧
CallK Try.prog 35 #[Sl.v o, .agg #[.int .i64 aA, .string (Bs aB), .string (Bs aC), Sl.v aD, Sl.v aF], .int .i64 (k.n : Int), .int .i64 (l + 1), .int .i64 y] am [p] (fun v ax => ∃ (ah : Sl), v = Sl.v ah ∧
((0 : Int) ≤ (o.n : Int) ∧ (o.n : Int) < (ah.n : Int)) ∧ ∃ aP : Addr, ah.a = some aP ∧
∃ (an : Int), (ax.cell? ((aP.add ((o.n : Int).toNat * 15)).add 3) = some (.int .i64 an)) ∧
(I64 (y + 1)) ∧
av ah (max z an) (y + 1) ax ∧ az ah (max z an) (y + 1) ax < az o z y am)) ∧
((¬ (y < (m.n : Int))) →
(I64 ((o.n : Int) - (k.n : Int))) ∧
((0 : Int) ≤ (k.n : Int) ∧ (k.n : Int) < (o.n : Int)) ∧ ∃ aQ : Addr, o.a = some aQ ∧
∃ (ap aG : Nat) (aR : TypeId) (aH : List Value), ((aQ.add ((k.n : Int).toNat * 15)).add 1) = ⟨ap, aG, none⟩ ∧ Box am ap aR aH ∧ aG + 1 ≤ aH.length ∧ (∀ b ∈ [], b ≠ ap) ∧
(∀ aq : World, Chg [ap] am aq → Box aq ap aR (putAt aH aG [.int .i64 ((o.n : Int) - (k.n : Int))]) →
(I64 (z + 1)) ∧
((0 : Int) ≤ (k.n : Int) ∧ (k.n : Int) < (o.n : Int)) ∧ ∃ aS : Addr, o.a = some aS ∧
∃ (ar aI : Nat) (aT : TypeId) (aJ : List Value), ((aS.add ((k.n : Int).toNat * 15)).add 3) = ⟨ar, aI, none⟩ ∧ Box aq ar aT aJ ∧ aI + 1 ≤ aJ.length ∧ (∀ b ∈ [], b ≠ ar) ∧
(∀ ay : World, Chg [ar] aq ay → Box ay ar aT (putAt aJ aI [.int .i64 (z + 1)]) →
R (Sl.v o) ay)))))
theorem ref07_flat.ok (k : Sl) (q : Int) (r : Str) (u : Str) (x : Sl) (m : Sl) (aa : Int) (l : Int) (ab : Int) {R : Value → World → Prop} {w : World} (ht0 : ref07_flat.vc k q r u x m aa l ab R w) : Calls Try.prog 35 #[Sl.v k, .agg #[.int .i64 q, .string (Bs r), .string (Bs u), Sl.v x, Sl.v m], .int .i64 aa, .int .i64 l, .int .i64 ab] w (Ret R) := by
 refine enter [Sl.v k, .agg #[.int .i64 q, .string (Bs r), .string (Bs u), Sl.v x, Sl.v m], .int .i64 aa, .int .i64 l, .int .i64 ab] Try.func35 rfl Try.ntmps35 rfl ?_
 intro a0 a9
 unfold ref07_flat.vc at ht0
 refine wp_seq (wp_region_lit ?_)
 refine sq (opk_new (fun B => .pointer (some ⟨B, 0, none⟩)) a9 rfl (r_box (cs := [.int .i64 q, .string (Bs r), .string (Bs u), Sl.v x, Sl.v m]) (a9.get rfl) rfl) fun a8 w7 p b7 b8 b9 ca _ => ?_)
 have cb : New w p w7 := b8
 have cc : Chg [] w w7 := b7
 refine sqv ca rfl (r_assign rfl) fun _ cd => sq_end ?_
 have bb := cd.kp [(0, Sl.v k), (2, .int .i64 aa), (3, .int .i64 l), (4, .int .i64 ab), (6, pB p 0)] rfl
 refine then_normal (wp_seq (wp_region_lit ?_))
 refine sqv bb rfl (r_move (bb.get rfl)) fun _ bd => sqv bd rfl (r_len (bd.get rfl) tU31) fun _ bf => sqv bf rfl (r_assign (bf.get rfl)) fun _ cf => sq_end ?_
 have ai := cf.kp [(0, Sl.v k), (2, .int .i64 aa), (3, .int .i64 l), (4, .int .i64 ab), (6, pB p 0), (11, .int .i64 (k.n : Int))] rfl
 refine then_normal (wp_seq ?_)
 refine draw' (by kernel_rfl) fun aj aU => ?_
 have aK := b9.ext aU
 have cg := cc.more aU
 have ch := cb.up aU.size
 have ci := ht0 aj p ch  cg
 obtain ⟨ak, aL, cj, ck⟩ := ci
 refine par (D := [[], [], [], [], [], [4], [], [1, 2, 3, 4, 5, 6], [1, 2, 3, 4, 5, 6, 7], [0, 1, 2, 3, 4, 5, 6, 7, 8], [0, 1, 2, 3, 4, 5, 6, 7, 8, 9]]) (S := [0, 1, 2, 3, 4, 5, 6, 7, 8]) (F := []) (V := VL [(0, fun v _ => v = Sl.v k), (1, fun v _ => v = .int .i64 aa), (2, fun v _ => v = .int .i64 l), (3, fun v _ => v = .int .i64 ab), (4, fun v _ => v = .agg #[.int .i64 q, .string (Bs r), .string (Bs u), Sl.v x, Sl.v m]), (5, fun v w' => ∃ c : Int, ∃ d : Str, ∃ f : Str, ∃ g : Sl, ∃ j : Sl, ak c d f g j w' ∧ v = .agg #[.int .i64 c, .string (Bs d), .string (Bs f), Sl.v g, Sl.v j]), (6, fun v _ => v = .agg #[.int .i64 q, .string (Bs r), .string (Bs u), Sl.v x, Sl.v m]), (7, fun v w' => ∃ c : Int, ∃ d : Str, ∃ f : Str, ∃ g : Sl, ∃ j : Sl, ak c d f g j w' ∧ v = .agg #[.int .i64 aa, .int .i64 0, .int .i64 l, .int .i64 0, .int .i64 ab, .int .i64 c, .string (Bs d), .string (Bs f), Sl.v g, Sl.v j, .int .i64 q, .string (Bs r), .string (Bs u), Sl.v x, Sl.v m]), (8, fun v w' => ∃ c : Int, ∃ d : Str, ∃ f : Str, ∃ g : Sl, ∃ j : Sl, ∃ ad : Nat, ak c d f g j w' ∧ aj.heap.size ≤ ad ∧ Box w' ad 38 [.int .i64 aa, .int .i64 0, .int .i64 l, .int .i64 0, .int .i64 ab, .int .i64 c, .string (Bs d), .string (Bs f), Sl.v g, Sl.v j, .int .i64 q, .string (Bs r), .string (Bs u), Sl.v x, Sl.v m] ∧ v = Sl.v (Sl.mk (some ⟨ad, 0, none⟩) 1 1))]) ai (by kernel_rfl) ⟨fun _ _ _ _ h => h, fun _ _ _ _ h => h, fun _ _ _ _ h => h, fun _ _ _ _ h => h, fun _ _ _ _ h => h, fun _ _ _ hE ⟨c, d, f, g, j, h0_, e⟩ => ⟨c, d, f, g, j, (aL c d f g j _ _ hE h0_), e⟩, fun _ _ _ _ h => h, fun _ _ _ hE ⟨c, d, f, g, j, h0_, e⟩ => ⟨c, d, f, g, j, (aL c d f g j _ _ hE h0_), e⟩, fun _ _ _ hE ⟨c, d, f, g, j, ad, h0_, h1_, h2_, e⟩ => ⟨c, d, f, g, j, ad, (aL c d f g j _ _ hE h0_), h1_, (h2_.ext hE), e⟩, trivial⟩ ⟨?_, ?_, ?_, ?_, ?_, ?_, ?_, ?_, ?_, trivial⟩ ?_
 ·intro a w hT
  have hAp := hT.ag ai [(0, Sl.v k)] ⟨rfl, trivial⟩ (by kernel_rfl)
  exact ovr hAp rfl (r_move (hAp.get rfl)) fun _ => Eq.refl _
 ·intro a w hT
  have hAp := hT.ag ai [(2, .int .i64 aa)] ⟨rfl, trivial⟩ (by kernel_rfl)
  exact ovr hAp rfl (r_move (hAp.get rfl)) fun _ => Eq.refl _
 ·intro a w hT
  have hAp := hT.ag ai [(3, .int .i64 l)] ⟨rfl, trivial⟩ (by kernel_rfl)
  exact ovr hAp rfl (r_move (hAp.get rfl)) fun _ => Eq.refl _
 ·intro a w hT
  have hAp := hT.ag ai [(4, .int .i64 ab)] ⟨rfl, trivial⟩ (by kernel_rfl)
  exact ovr hAp rfl (r_move (hAp.get rfl)) fun _ => Eq.refl _
 ·intro a w hT
  have hAp := hT.ag ai [(6, pB p 0)] ⟨rfl, trivial⟩ (by kernel_rfl)
  exact ovr hAp rfl (r_loadN (cs := [.int .i64 q, .string (Bs r), .string (Bs u), Sl.v x, Sl.v m]) Try.underlying26 rfl ti_26 (hAp.get rfl) ((aK.ext hT.chg).part 0 _ rfl)) fun _ => Eq.refl _
 ·intro a w hT
  have hAp := hT.ag ai [] trivial (by kernel_rfl)
  have hAp := hAp.add (t := 21) (v := .agg #[.int .i64 q, .string (Bs r), .string (Bs u), Sl.v x, Sl.v m]) (hT.vals 4 rfl 21 rfl)
  exact opk_callX hAp rfl (r_call (args := #[.agg #[.int .i64 q, .string (Bs r), .string (Bs u), Sl.v x, Sl.v m]]) Try.func59 (by decide) rfl (map_arr (ml_cons (hAp.get rfl) ml_nil)) rfl) (cj w hT.chg) fun _ _ _ _ e ⟨hE, c, d, f, g, j, he, hV⟩ => ⟨_, e, hE, fun _ => ⟨c, d, f, g, j, hV, he⟩⟩
 ·intro a w hT
  have hAp := hT.ag ai [(6, pB p 0)] ⟨rfl, trivial⟩ (by kernel_rfl)
  exact ovr hAp rfl (r_loadN (cs := [.int .i64 q, .string (Bs r), .string (Bs u), Sl.v x, Sl.v m]) Try.underlying26 rfl ti_26 (hAp.get rfl) ((aK.ext hT.chg).part 0 _ rfl)) fun _ => Eq.refl _
 ·intro a w hT
  have hAp := hT.ag ai [] trivial (by kernel_rfl)
  have hAp := hAp.add (t := 18) (v := .int .i64 aa) (hT.vals 1 rfl 18 rfl)
  have hAp := hAp.add (t := 19) (v := .int .i64 l) (hT.vals 2 rfl 19 rfl)
  have hAp := hAp.add (t := 20) (v := .int .i64 ab) (hT.vals 3 rfl 20 rfl)
  obtain ⟨c, d, f, g, j, cl, cm⟩ := hT.vals 5 rfl 22 rfl
  have hAp := hAp.add cm
  have hAp := hAp.add (t := 23) (v := .agg #[.int .i64 q, .string (Bs r), .string (Bs u), Sl.v x, Sl.v m]) (hT.vals 6 rfl 23 rfl)
  exact opk_val hAp rfl (r_build (vs := #[(0, .int .i64 aa), (2, .int .i64 l), (4, .int .i64 ab), (5, .agg #[.int .i64 c, .string (Bs d), .string (Bs f), Sl.v g, Sl.v j]), (6, .agg #[.int .i64 q, .string (Bs r), .string (Bs u), Sl.v x, Sl.v m])]) (cells := #[.int .i64 aa, .int .i64 0, .int .i64 l, .int .i64 0, .int .i64 ab, .int .i64 c, .string (Bs d), .string (Bs f), Sl.v g, Sl.v j, .int .i64 q, .string (Bs r), .string (Bs u), Sl.v x, Sl.v m]) (map_arr2 (ml2_cons (hAp.get rfl) (ml2_cons (hAp.get rfl) (ml2_cons (hAp.get rfl) (ml2_cons (hAp.get rfl) (ml2_cons (hAp.get rfl) (ml2_nil))))))) ti_38 Try.underlying38 pl_38 (by kernel_rfl)) fun _ _ e => ⟨_, e, Chg.refl _ _, fun _ => ⟨c, d, f, g, j, cl, rfl⟩⟩
 ·intro a w hT
  have hAp := hT.ag ai [] trivial (by kernel_rfl)
  obtain ⟨c, d, f, g, j, cn, co⟩ := hT.vals 7 rfl 24 rfl
  have hAp := hAp.add co
  exact opk_new (fun B => .slice (some ⟨B, 0, none⟩) 1 1) hAp rfl (r_buildSlice (vs := #[(0, .agg #[.int .i64 aa, .int .i64 0, .int .i64 l, .int .i64 0, .int .i64 ab, .int .i64 c, .string (Bs d), .string (Bs f), Sl.v g, Sl.v j, .int .i64 q, .string (Bs r), .string (Bs u), Sl.v x, Sl.v m])]) (cs := [.int .i64 aa, .int .i64 0, .int .i64 l, .int .i64 0, .int .i64 ab, .int .i64 c, .string (Bs d), .string (Bs f), Sl.v g, Sl.v j, .int .i64 q, .string (Bs r), .string (Bs u), Sl.v x, Sl.v m]) (map_arr2 (ml2_cons (hAp.get rfl) (ml2_nil))) tU31 ti_38 rfl rfl (by kernel_rfl)) fun _ dX ad bg cp cq _ e => ⟨_, e, bg, fun _ => ⟨c, d, f, g, j, ad, (aL c d f g j _ _ bg cn), Nat.le_trans hT.chg.size cp.ge, cq, rfl⟩⟩
 ·intro cr al aV ct bh
  have cu := ct [(0, Sl.v k), (3, .int .i64 l), (6, pB p 0), (11, .int .i64 (k.n : Int))] ⟨rfl, rfl, rfl, rfl, trivial⟩ (by kernel_rfl)
  have cv : cr.tmps.getD 17 undef = Sl.v k := bh 0 rfl 17 rfl
  have cx := cu.add cv
  obtain ⟨c, d, f, g, j, ad, cy, bi, bj, cz⟩ := bh 8 rfl 25 rfl
  have aX := cx.add cz
  have cA := aK.ext aV
  have dY : Chg [] aj al := aV
  have cB := ck al c d f g j ad aV cy bi bj
  have dZ : p ≠ ad := Nat.ne_of_lt (Nat.lt_of_lt_of_le aK.lt bi)
  have cC := cB bj
  refine one (D := [[], [], [], [], [], [4], [], [1, 2, 3, 4, 5, 6], [1, 2, 3, 4, 5, 6, 7], [0, 1, 2, 3, 4, 5, 6, 7, 8], [0, 1, 2, 3, 4, 5, 6, 7, 8, 9]]) (i := 9) rfl (by kernel_rfl) (opk_run aX rfl (fun _ _ hr => r_append (aX.get rfl) (aX.get rfl) hr) cC fun d0 d1 aN bk _ cD d2 cF => ?_)
  obtain ⟨af, rfl, cG⟩ := cF
  have cH := cA.kept cD (.head _)
  refine par (D := [[], [], [], [], [], [4], [], [1, 2, 3, 4, 5, 6], [1, 2, 3, 4, 5, 6, 7], [0, 1, 2, 3, 4, 5, 6, 7, 8], [0, 1, 2, 3, 4, 5, 6, 7, 8, 9]]) (S := [10]) (F := []) (V := VL [(10, fun v _ => v = Sl.v af)]) bk (by kernel_rfl) ⟨fun _ _ _ _ h => h, trivial⟩ ⟨?_, trivial⟩ ?_
  ·intro a w hT
   have hAp := hT.ag bk [(26, Sl.v af)] ⟨rfl, trivial⟩ (by kernel_rfl)
   exact ovr hAp rfl (r_assign (hAp.get rfl)) fun _ => Eq.refl _
  ·intro cI ao bl cJ cK
   have cL := cJ [(3, .int .i64 l), (6, pB p 0), (11, .int .i64 (k.n : Int))] ⟨rfl, rfl, rfl, trivial⟩ (by kernel_rfl)
   have cM : cI.tmps.getD 0 undef = Sl.v af := cK 10 rfl 0 rfl
   have cN := cL.add cM
   have cO := cH.ext bl
   have cP : Chg [] aN ao := bl
   refine PR_end (by kernel_rfl) ?_
   have cQ := cN.kp [(0, Sl.v af), (3, .int .i64 l), (6, pB p 0), (11, .int .i64 (k.n : Int))] rfl
   refine then_normal (wp_seq (wp_region_lit ?_))
   refine sqv cQ rfl (r_assign rfl) fun _ cR => sq_end ?_
   have cS := cR.kp [(0, Sl.v af), (3, .int .i64 l), (6, pB p 0), (11, .int .i64 (k.n : Int)), (12, .int .i64 0)] rfl
   refine then_normal (wp_seq (wp_seq (wp_region_lit ?_)))
   refine sqv cS rfl (r_assign rfl) fun _ cT => sq_end ?_
   have cU := cT.kp [(0, Sl.v af), (3, .int .i64 l), (6, pB p 0), (11, .int .i64 (k.n : Int)), (12, .int .i64 0), (13, .int .i64 0)] rfl
   refine then_normal (wp_block ?_)
   have cX := cG ao    cP
   obtain ⟨av, az, cY, cZ⟩ := cX
   refine wp_loop_st (σ := Sl × Int × Int × World) (fun s a w => Ag 69 a [(0, Sl.v s.1), (3, .int .i64 l), (6, pB p 0), (11, .int .i64 (k.n : Int)), (12, .int .i64 s.2.1), (13, .int .i64 s.2.2.1)] ∧ Box w p 26 [.int .i64 q, .string (Bs r), .string (Bs u), Sl.v x, Sl.v m] ∧ w = s.2.2.2 ∧ av s.1 s.2.1 s.2.2.1 s.2.2.2) (fun s => az s.1 s.2.1 s.2.2.1 s.2.2.2) (af, 0, 0, ao) ⟨cU.kp [(0, Sl.v af), (3, .int .i64 l), (6, pB p 0), (11, .int .i64 (k.n : Int)), (12, .int .i64 0), (13, .int .i64 0)] rfl, cO, rfl, cY⟩ ?_
   rintro ⟨o, z, y, am⟩ d3 w_ ⟨bm, aY, hw_, c0⟩
   have hw_ : am = w_ := hw_.symm
   subst hw_
   have bn := cZ o z y _ c0
   refine wp_seq (wp_seq (wp_region_lit ?_))
   refine sqv bm rfl (r_move (bm.get rfl)) fun _ bo => sqv bo rfl (r_fieldAddr (bo.get rfl) Try.underlying26 rfl ti_24 (by decide)) fun _ bp => sqv bp rfl (r_load1 tU24 rfl (bp.get rfl) (aY.cell 4 _ rfl)) fun _ bq => sqv bq rfl (r_len (bq.get rfl) tU24) fun _ aZ => sqv aZ rfl (r_lss (aZ.get rfl) (aZ.get rfl)) fun _ c1 => sq_end ?_
   have aM := c1.kp [(0, Sl.v o), (3, .int .i64 l), (6, pB p 0), (11, .int .i64 (k.n : Int)), (12, .int .i64 z), (13, .int .i64 y), (31, .bool (decide (y < (m.n : Int))))] rfl
   refine then_normal ?_
   refine wp_cond_split (aM.get rfl) (fun hc => ?_) (fun hc => ?_)
   ·have c2 := bn.1 (of_decide_eq_true hc)
    clear hc
    refine wp_skip ?_
    refine then_normal (wp_seq (wp_block (wp_seq (wp_region_lit ?_))))
    refine sqv aM rfl (r_move (aM.get rfl)) fun _ br => sqv br rfl (r_len (br.get rfl) tU31) fun _ bs => sqv bs rfl (r_assign (bs.get rfl)) fun _ c3 => sq_end ?_
    have bt := c3.kp [(0, Sl.v o), (3, .int .i64 l), (6, pB p 0), (11, .int .i64 (k.n : Int)), (12, .int .i64 z), (13, .int .i64 y), (14, .int .i64 (o.n : Int))] rfl
    refine then_normal (wp_seq (wp_region_lit ?_))
    refine sqv bt rfl (r_move (bt.get rfl)) fun _ bu => sqv bu rfl (r_fieldAddr (bu.get rfl) Try.underlying26 rfl ti_24 (by decide)) fun _ bv => sqv bv rfl (r_load1 tU24 rfl (bv.get rfl) (aY.cell 4 _ rfl)) fun _ bx => sqv bx rfl (r_move (bx.get rfl)) fun _ hA181 => ?_
    obtain ⟨c4, aO, c5, c6⟩ := c2
    refine sqv hA181 rfl (r_indexAddr (hA181.get rfl) (hA181.get rfl) tU24 ti_26 c4 c5) fun _ bz => ?_
    obtain ⟨aA, aB, aC, aD, aF, c7, c8⟩ := c6
    refine sqv bz rfl (r_loadN Try.underlying26 rfl ti_26 (bz.get rfl) c7) fun _ bA => sqv bA rfl (r_move (bA.get rfl)) fun _ bB => sqv bB rfl (r_move (bB.get rfl)) fun _ bC => ?_
    obtain ⟨c9, da⟩ := c8
    refine sqv bC rfl (r_addI (bC.get rfl) rfl c9) fun _ bD => sqv bD rfl (r_move (bD.get rfl)) fun _ au => ?_
    refine sq (opk_call au rfl (r_call (args := #[Sl.v o, .agg #[.int .i64 aA, .string (Bs aB), .string (Bs aC), Sl.v aD, Sl.v aF], .int .i64 (k.n : Int), .int .i64 (l + 1), .int .i64 y]) Try.func35 (by decide) rfl (map_arr (ml_cons (au.get rfl) (ml_cons (au.get rfl) (ml_cons (au.get rfl) (ml_cons (au.get rfl) (ml_cons (au.get rfl) ml_nil)))))) rfl) da fun d4 d5 ax bF _ db d6 dc => ?_)
    obtain ⟨ah, rfl, dd⟩ := dc
    have df := aY.kept db (.head _)
    refine sqv bF rfl (r_assign (bF.get rfl)) fun _ dg => sq_end ?_
    have bG := dg.kp [(0, Sl.v ah), (3, .int .i64 l), (6, pB p 0), (11, .int .i64 (k.n : Int)), (12, .int .i64 z), (13, .int .i64 y), (14, .int .i64 (o.n : Int))] rfl
    refine then_normal (wp_region_lit ?_)
    refine sqv bG rfl (r_move (bG.get rfl)) fun _ bH => sqv bH rfl (r_move (bH.get rfl)) fun _ bI => sqv bI rfl (r_move (bI.get rfl)) fun _ a1 => ?_
    obtain ⟨dh, aP, di, dj⟩ := dd
    refine sqv a1 rfl (r_indexAddr (a1.get rfl) (a1.get rfl) tU31 ti_38 dh di) fun _ bJ => sqv bJ rfl (r_fieldAddr (bJ.get rfl) Try.underlying38 rfl ti_3 (by decide)) fun _ bK => ?_
    obtain ⟨an, dk, dl⟩ := dj
    refine sqv bK rfl (r_load1 tU3 rfl (bK.get rfl) dk) fun _ a2 => sqv a2 rfl (r_max (a2.get rfl) (a2.get rfl)) fun _ bL => sqv bL rfl (r_assign (bL.get rfl)) fun _ dm => sq_end ?_
    have bM := dm.kp [(0, Sl.v ah), (3, .int .i64 l), (6, pB p 0), (11, .int .i64 (k.n : Int)), (12, .int .i64 (max z an)), (13, .int .i64 y)] rfl
    refine block_normal ?_
    refine then_normal (wp_region_lit ?_)
    refine sqv bM rfl (r_move (bM.get rfl)) fun _ bN => ?_
    obtain ⟨dn, bO⟩ := dl
    refine sqv bN rfl (r_addI (bN.get rfl) rfl dn) fun _ bP => sqv bP rfl (r_assign (bP.get rfl)) fun _ dp => sq_end ?_
    have dq := dp.kp [(0, Sl.v ah), (3, .int .i64 l), (6, pB p 0), (11, .int .i64 (k.n : Int)), (12, .int .i64 (max z an)), (13, .int .i64 (y + 1))] rfl
    have dr := dq.kp [(0, Sl.v ah), (3, .int .i64 l), (6, pB p 0), (11, .int .i64 (k.n : Int)), (12, .int .i64 (max z an)), (13, .int .i64 (y + 1))] rfl
    exact then_normal ⟨(ah, max z an, y + 1, ax), ⟨dr, df, rfl, bO.1⟩, bO.2⟩
   ·have ds := bn.2 (of_decide_eq_false hc)
    clear hc
    refine wp_exit ?_
    refine then_exit ?_
    refine then_exit ?_
    refine block_hit ?_
    have bQ := aM.kp [(0, Sl.v o), (11, .int .i64 (k.n : Int)), (12, .int .i64 z)] rfl
    refine then_normal (wp_seq (wp_region_lit ?_))
    refine sqv bQ rfl (r_move (bQ.get rfl)) fun _ bR => sqv bR rfl (r_move (bR.get rfl)) fun _ bS => sqv bS rfl (r_move (bS.get rfl)) fun _ bT => sqv bT rfl (r_len (bT.get rfl) tU31) fun _ bU => sqv bU rfl (r_move (bU.get rfl)) fun _ a3 => ?_
    obtain ⟨dt, du⟩ := ds
    refine sqv a3 rfl (r_subI (a3.get rfl) (a3.get rfl) dt) fun _ a4 => ?_
    obtain ⟨dv, aQ, dx, dy⟩ := du
    refine sqv a4 rfl (r_indexAddr (a4.get rfl) (a4.get rfl) tU31 ti_38 dv dx) fun _ bV => sqv bV rfl (r_fieldAddr (bV.get rfl) Try.underlying38 rfl ti_3 (by decide)) fun _ a5 => ?_
    obtain ⟨ap, aG, aR, aH, dz, bX, dA, d7, dB⟩ := dy
    refine sq (opk_store a5 bX (r_store (vs := [.int .i64 ((o.n : Int) - (k.n : Int))]) (((a5.get rfl)).trans (congrArg (fun a => Value.pointer (some a)) dz)) (a5.get rfl) rfl ti_3 bX (Nat.ble_eq_true_of_le dA) (ones_all _ rfl)) fun d8 aq dC dD dF => ?_)
    have dG := dB aq dC dD
    refine sq_end ?_
    have bY := dF.kp [(0, Sl.v o), (11, .int .i64 (k.n : Int)), (12, .int .i64 z)] rfl
    refine then_normal (wp_seq (wp_region_lit ?_))
    refine sqv bY rfl (r_move (bY.get rfl)) fun _ bZ => sqv bZ rfl (r_move (bZ.get rfl)) fun _ b0 => sqv b0 rfl (r_move (b0.get rfl)) fun _ b1 => ?_
    obtain ⟨dH, dI⟩ := dG
    refine sqv b1 rfl (r_addI (b1.get rfl) rfl dH) fun _ a6 => ?_
    obtain ⟨dJ, aS, dK, dL⟩ := dI
    refine sqv a6 rfl (r_indexAddr (a6.get rfl) (a6.get rfl) tU31 ti_38 dJ dK) fun _ b2 => sqv b2 rfl (r_fieldAddr (b2.get rfl) Try.underlying38 rfl ti_3 (by decide)) fun _ a7 => ?_
    obtain ⟨ar, aI, aT, aJ, dM, b3, dN, d9, dO⟩ := dL
    refine sq (opk_store a7 b3 (r_store (vs := [.int .i64 (z + 1)]) (((a7.get rfl)).trans (congrArg (fun a => Value.pointer (some a)) dM)) (a7.get rfl) rfl ti_3 b3 (Nat.ble_eq_true_of_le dN) (ones_all _ rfl)) fun fa ay dP dQ dR => ?_)
    have dS := dO ay dP dQ
    refine sq_end ?_
    have b4 := dR.kp [(0, Sl.v o)] rfl
    refine then_normal (wp_seq (wp_region_lit ?_))
    refine sqv b4 rfl (r_move (b4.get rfl)) fun _ b5 => sqv b5 rfl (r_assign (b5.get rfl)) fun _ dT => sq_end ?_
    have b6 := dT.kp [(10, Sl.v o)] rfl
    refine then_normal ?_
    refine wp_ret ?_
    exact res_all (vs := [Sl.v o]) rfl b6 ⟨res_of_tmp b6 rfl, trivial⟩ dS
end Go.Proofs.Yteohbfaechfliaa
