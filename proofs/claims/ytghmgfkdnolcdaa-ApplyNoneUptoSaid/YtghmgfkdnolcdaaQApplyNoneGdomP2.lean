/-
  PRINTED BY PROGRAM: for each function its condition (vc), and that this suffices (ok).
-/
import Derived.Test.YtghmgfkdnolcdaaQApplyNoneGT
namespace Go.Proofs.Ytghmgfkdnolcdaa
open Go.RowKit
set_option linter.unusedVariables false
set_option maxHeartbeats 1000000
set_option maxRecDepth 10000
def dom_Dom_Unset.vc (p : Addr) (q : Int) (l : Str) (R : Value → World → Prop) (w : World) : Prop :=
CallK Try.prog 45 #[.pointer (some p), .int .i64 q] w [] (fun v u => ∃ (f : Option Addr), v = .pointer f ∧
(((Option.isNone f) = true) →
R (.int .i64 3) u) ∧
(((Option.isNone f) = false) →
∃ al : Addr, (f = some al) ∧
∃ (x : Int), (u.cell? ((al.add 2).add 0) = some (.int .i64 x)) ∧
((x ≠ 2) →
R (.int .i64 4) u) ∧
((¬ (x ≠ 2)) →
CallK Try.prog 51 #[.pointer f, .string (Bs l)] u [] (fun v ad => ∃ (d : Int) (s : Bool), v = .tuple #[.int .i64 d, .bool s] ∧
((s = false) →
R (.int .i64 8) ad) ∧
((s = true) →
∃ am : Addr, (f = some am) ∧
∃ (y : Sl), (ad.cell? ((am.add 2).add 3) = some (Sl.v y)) ∧
(I64 ((y.n : Int) - 1)) ∧
RunK Try.prog (Instr.makeSlice 26 (.int .i64 ((y.n : Int) - 1)) (.int .i64 ((y.n : Int) - 1))) ad [] (fun v an => ∃ (g : Sl), v = Sl.v g ∧
∃ ao : Addr, (f = some ao) ∧
∃ (z : Sl), (an.cell? ((ao.add 2).add 3) = some (Sl.v z)) ∧
((0 : Int) ≤ d ∧ d ≤ (z.c : Int)) ∧
RunK Try.prog (Builtin.copy_ #[26, 26] 3 #[Sl.v g, Sl.v (Sl.cut z 2 0 d.toNat z.c)]) an [] (fun v ap => ∃ (aD : Int), v = .int .i64 aD ∧
∀ (r : World), Chg [] ap r →
((0 : Int) ≤ d ∧ d ≤ (g.n : Int)) ∧
∃ m : Addr, (f = some m) ∧
∃ (j : Sl), (r.cell? ((m.add 2).add 3) = some (Sl.v j)) ∧
(I64 (d + 1)) ∧
((0 : Int) ≤ d + 1 ∧ d + 1 ≤ (j.n : Int)) ∧
∀ (aa : World), Chg [] r aa →
RunK Try.prog (Builtin.copy_ #[26, 26] 3 #[Sl.v (Sl.cut g 2 d.toNat g.n g.c), Sl.v (Sl.cut j 2 (d + 1).toNat j.n j.c)]) aa [] (fun v aq => ∃ (aF : Int), v = .int .i64 aF ∧
∃ ar : Addr, (f = some ar) ∧
∃ (t af : Nat) (au : TypeId) (ah : List Value), ((ar.add 2).add 3) = ⟨t, af, none⟩ ∧ Box aq t au ah ∧ af + 1 ≤ ah.length ∧ (∀ b ∈ [], b ≠ t) ∧
(∀ ab : World, Chg [t] aq ab → Box ab t au (putAt ah af [Sl.v g]) →
R (.int .i64 0) ab)))))))))
theorem dom_Dom_Unset.ok (p : Addr) (q : Int) (l : Str) {R : Value → World → Prop} {w : World} (aG : dom_Dom_Unset.vc p q l R w) : Calls Try.prog 29 #[.pointer (some p), .int .i64 q, .string (Bs l)] w (Ret R) := by
 refine enter [.pointer (some p), .int .i64 q, .string (Bs l)] Try.func29 rfl Try.ntmps29 rfl ?_
 intro a0 bz
 unfold dom_Dom_Unset.vc at aG
 refine wp_seq (wp_region_lit ?_)
 refine sqv bz rfl (r_assign rfl) fun _ bA => ?_
 refine sq_end ?_
 have aH := bA.keep [(0, .pointer (some p)), (1, .int .i64 q), (2, .string (Bs l))] ⟨rfl, rfl, rfl, trivial⟩
 refine then_normal (wp_seq (wp_region_lit ?_))
 refine sqv aH rfl (r_move (aH.get rfl)) fun _ aI => ?_
 refine sqv aI rfl (r_move (aI.get rfl)) fun _ av => ?_
 refine sq (opk_call av rfl (r_call (args := #[.pointer (some p), .int .i64 q]) Try.func45 (by decide) rfl (map_arr (ml_cons (av.get rfl) (ml_cons (av.get rfl) ml_nil))) rfl) aG fun a9 c3 u aJ _ c4 c5 bB => ?_)
 obtain ⟨f, rfl, aK⟩ := bB
 refine sqv aJ rfl (r_assign (aJ.get rfl)) fun _ bC => ?_
 refine sq_end ?_
 have aL := bC.keep [(2, .string (Bs l)), (7, .pointer f)] ⟨rfl, rfl, trivial⟩
 refine then_normal (wp_seq (wp_block (wp_seq (wp_region_lit ?_))))
 refine sqv aL rfl (r_move (aL.get rfl)) fun _ aM => ?_
 refine sqv aM rfl (r_pnil (o := f) (aM.get rfl) rfl Try.underlying73) fun _ aN => ?_
 refine sqv aN rfl (r_assign (aN.get rfl)) fun _ bD => ?_
 refine sq_end ?_
 have ai := bD.keep [(2, .string (Bs l)), (7, .pointer f), (14, .bool (Option.isNone f))] ⟨rfl, rfl, rfl, trivial⟩
 refine then_normal ?_
 refine wp_cond_split (ai.get rfl) (fun hc => ?_) (fun hc => ?_)
 ·have bF := aK.1 hc
  clear hc
  refine wp_seq (wp_region_lit ?_)
  refine sqv ai rfl (r_assign rfl) fun _ bG => ?_
  refine sq_end ?_
  have aO := bG.keep [(6, .int .i64 3)] ⟨rfl, trivial⟩
  refine then_normal ?_
  refine wp_ret ?_
  refine block_ret ?_
  refine then_ret ?_
  exact res_all (vs := [.int .i64 3]) rfl aO ⟨res_of_tmp aO rfl, trivial⟩ bF
 ·have bH := aK.2 hc
  clear hc
  refine wp_seq (wp_region_lit ?_)
  refine sqv ai rfl (r_move (ai.get rfl)) fun _ aP => ?_
  obtain ⟨al, bI, bJ⟩ := bH
  refine sqv aP rfl (r_nilCheckP (((aP.get rfl)).trans (congrArg Value.pointer bI))) fun _ aQ => ?_
  refine sqv aQ rfl (r_fieldAddr (aQ.get rfl) Try.underlying76 rfl ti_29 (by decide)) fun _ aR => ?_
  refine sqv aR rfl (r_fieldAddr (aR.get rfl) Try.underlying29 rfl ti_3 (by decide)) fun _ aS => ?_
  obtain ⟨x, bK, aT⟩ := bJ
  refine sqv aS rfl (r_load1 Try.underlying3 rfl (aS.get rfl) bK) fun _ aU => ?_
  refine sqv aU rfl (r_neq (aU.get rfl) rfl) fun _ aV => ?_
  refine sqv aV rfl (r_assign (aV.get rfl)) fun _ bL => ?_
  refine sq_end ?_
  have aj := bL.keep [(2, .string (Bs l)), (7, .pointer f), (17, .bool (decide (x ≠ 2)))] ⟨rfl, rfl, rfl, trivial⟩
  refine then_normal ?_
  refine wp_cond_split (aj.get rfl) (fun hc => ?_) (fun hc => ?_)
  ·have bM := aT.1 (of_decide_eq_true hc)
   clear hc
   refine wp_seq (wp_region_lit ?_)
   refine sqv aj rfl (r_assign rfl) fun _ bN => ?_
   refine sq_end ?_
   have aX := bN.keep [(6, .int .i64 4)] ⟨rfl, trivial⟩
   refine then_normal ?_
   refine wp_ret ?_
   refine block_ret ?_
   refine then_ret ?_
   exact res_all (vs := [.int .i64 4]) rfl aX ⟨res_of_tmp aX rfl, trivial⟩ bM
  ·have bO := aT.2 (of_decide_eq_false hc)
   clear hc
   refine wp_skip ?_
   refine block_normal ?_
   refine then_normal (wp_seq (wp_region_lit ?_))
   refine sqv aj rfl (r_move (aj.get rfl)) fun _ aY => ?_
   refine sqv aY rfl (r_move (aY.get rfl)) fun _ ax => ?_
   refine sq (opk_call ax rfl (r_call (args := #[.pointer f, .string (Bs l)]) Try.func51 (by decide) rfl (map_arr (ml_cons (ax.get rfl) (ml_cons (ax.get rfl) ml_nil))) rfl) bO fun c6 c7 ad aZ _ c8 c9 bP => ?_)
   obtain ⟨d, s, rfl, ht50⟩ := bP
   refine sqv aZ rfl (r_move (aZ.get rfl)) fun _ a1 => ?_
   refine sqv a1 rfl (r_extract (a1.get rfl) rfl) fun _ a2 => ?_
   refine sqv a2 rfl (r_extract (a2.get rfl) rfl) fun _ a3 => ?_
   refine sqv a3 rfl (r_assign (a3.get rfl)) fun _ a4 => ?_
   refine sqv a4 rfl (r_assign (a4.get rfl)) fun _ bQ => ?_
   refine sq_end ?_
   have a5 := bQ.keep [(7, .pointer f), (8, .int .i64 d), (9, .bool s)] ⟨rfl, rfl, rfl, trivial⟩
   refine then_normal (wp_seq (wp_seq (wp_region_lit ?_)))
   refine sqv a5 rfl (r_move (a5.get rfl)) fun _ a6 => ?_
   refine sqv a6 rfl (r_not (a6.get rfl)) fun _ bR => ?_
   refine sq_end ?_
   have ak := bR.keep [(7, .pointer f), (8, .int .i64 d), (31, .bool (!s))] ⟨rfl, rfl, rfl, trivial⟩
   refine then_normal ?_
   refine wp_cond_split (ak.get rfl) (fun hc => ?_) (fun hc => ?_)
   ·have bS := ht50.1 (b_not_t hc)
    clear hc
    refine wp_seq (wp_region_lit ?_)
    refine sqv ak rfl (r_assign rfl) fun _ bT => ?_
    refine sq_end ?_
    have a7 := bT.keep [(6, .int .i64 8)] ⟨rfl, trivial⟩
    refine then_normal ?_
    refine wp_ret ?_
    refine then_ret ?_
    exact res_all (vs := [.int .i64 8]) rfl a7 ⟨res_of_tmp a7 rfl, trivial⟩ bS
   ·have bU := ht50.2 (b_not_f hc)
    clear hc
    refine wp_skip ?_
    refine then_normal (wp_seq (wp_region_lit ?_))
    refine sqv ak rfl (r_move (ak.get rfl)) fun _ a8 => ?_
    obtain ⟨am, bV, bX⟩ := bU
    refine sqv a8 rfl (r_nilCheckP (((a8.get rfl)).trans (congrArg Value.pointer bV))) fun _ hA69 => ?_
    refine sqv hA69 rfl (r_fieldAddr (hA69.get rfl) Try.underlying76 rfl ti_29 (by decide)) fun _ ba => ?_
    refine sqv ba rfl (r_fieldAddr (ba.get rfl) Try.underlying29 rfl ti_26 (by decide)) fun _ bb => ?_
    obtain ⟨y, bY, bZ⟩ := bX
    refine sqv bb rfl (r_load1 Try.underlying26 rfl (bb.get rfl) bY) fun _ bd => ?_
    refine sqv bd rfl (r_len (bd.get rfl) Try.underlying26) fun _ bf => ?_
    obtain ⟨b0, b1⟩ := bZ
    refine sqv bf rfl (r_subI (bf.get rfl) rfl b0) fun _ ay => ?_
    refine sq (opk_run ay rfl (fun _ _ hr => r_makeSlice (ay.get rfl) (ay.get rfl) hr) b1 fun da db an bg _ dc dd b2 => ?_)
    obtain ⟨g, rfl, b3⟩ := b2
    refine sqv bg rfl (r_assign (bg.get rfl)) fun _ b4 => ?_
    refine sq_end ?_
    have bh := b4.keep [(7, .pointer f), (8, .int .i64 d), (10, Sl.v g)] ⟨rfl, rfl, rfl, trivial⟩
    refine then_normal (wp_seq (wp_region_lit ?_))
    refine sqv bh rfl (r_move (bh.get rfl)) fun _ bi => ?_
    refine sqv bi rfl (r_move (bi.get rfl)) fun _ bj => ?_
    obtain ⟨ao, b5, b6⟩ := b3
    refine sqv bj rfl (r_nilCheckP (((bj.get rfl)).trans (congrArg Value.pointer b5))) fun _ bk => ?_
    refine sqv bk rfl (r_fieldAddr (bk.get rfl) Try.underlying76 rfl ti_29 (by decide)) fun _ bl => ?_
    refine sqv bl rfl (r_fieldAddr (bl.get rfl) Try.underlying29 rfl ti_26 (by decide)) fun _ bm => ?_
    obtain ⟨z, b7, b8⟩ := b6
    refine sqv bm rfl (r_load1 Try.underlying26 rfl (bm.get rfl) b7) fun _ bn => ?_
    refine sqv bn rfl (r_move (bn.get rfl)) fun _ az => ?_
    obtain ⟨b9, ca⟩ := b8
    refine sqv az rfl (r_sliceH (az.get rfl) (az.get rfl) Try.underlying26 ti_65 b9) fun _ aA => ?_
    refine sq (opk_run aA rfl (fun _ _ hr => r_copy (aA.get rfl) (aA.get rfl) hr) ca fun df dg ap cb _ dh di cc => ?_)
    obtain ⟨aD, rfl, cd⟩ := cc
    refine sq_end ?_
    have k := cb.keep [(7, .pointer f), (8, .int .i64 d), (10, Sl.v g)] ⟨rfl, rfl, rfl, trivial⟩
    refine then_normal (wp_seq ?_)
    refine draw' (by kernel_rfl) fun r cf => ?_
    have cg : Chg [] ap r := cf
    have ch := cd r    cg
    obtain ⟨ci, cj⟩ := ch
    obtain ⟨m, ck, cl⟩ := cj
    obtain ⟨j, cm, cn⟩ := cl
    obtain ⟨co, cp⟩ := cn
    obtain ⟨cq, cr⟩ := cp
    refine par (D := [[], [], [0, 1], [], [3], [3, 4], [3, 4, 5], [3, 4, 5, 6], [], [8], [3, 4, 5, 6, 7, 8, 9], [0, 1, 2, 3, 4, 5, 6, 7, 8, 9, 10]]) (S := [0, 1, 2, 3, 4, 5, 6, 7, 8, 9, 10]) (F := []) (V := VL [(0, fun v _ => v = Sl.v g), (1, fun v _ => v = .int .i64 d), (2, fun v _ => v = Sl.v (Sl.cut g 2 d.toNat g.n g.c)), (3, fun v _ => v = .pointer f), (4, fun v _ => v = .pointer (some m)), (5, fun v _ => v = .pointer (some (m.add 2))), (6, fun v _ => v = .pointer (some ((m.add 2).add 3))), (7, fun v _ => v = Sl.v j), (8, fun v _ => v = .int .i64 d), (9, fun v _ => v = .int .i64 (d + 1)), (10, fun v _ => v = Sl.v (Sl.cut j 2 (d + 1).toNat j.n j.c))]) k (by kernel_rfl) ⟨fun _ _ _ _ h => h, fun _ _ _ _ h => h, fun _ _ _ _ h => h, fun _ _ _ _ h => h, fun _ _ _ _ h => h, fun _ _ _ _ h => h, fun _ _ _ _ h => h, fun _ _ _ _ h => h, fun _ _ _ _ h => h, fun _ _ _ _ h => h, fun _ _ _ _ h => h, trivial⟩ ⟨?_, ?_, ?_, ?_, ?_, ?_, ?_, ?_, ?_, ?_, ?_, trivial⟩ ?_
    ·intro a w hT
     have hAp := hT.ag k [(10, Sl.v g)] ⟨rfl, trivial⟩ (by kernel_rfl)
     exact ovr hAp rfl (r_move (hAp.get rfl)) fun _ => Eq.refl _
    ·intro a w hT
     have hAp := hT.ag k [(8, .int .i64 d)] ⟨rfl, trivial⟩ (by kernel_rfl)
     exact ovr hAp rfl (r_move (hAp.get rfl)) fun _ => Eq.refl _
    ·intro a w hT
     have hAp := hT.ag k [] trivial (by kernel_rfl)
     have cs : a.tmps.getD 49 undef = Sl.v g := hT.vals 0 rfl 49 rfl
     have hAp := hAp.add cs
     have ct : a.tmps.getD 50 undef = .int .i64 d := hT.vals 1 rfl 50 rfl
     have hAp := hAp.add ct
     exact ovr hAp rfl (r_sliceL (hAp.get rfl) (hAp.get rfl) Try.underlying26 ti_65 ci) fun _ => Eq.refl _
    ·intro a w hT
     have hAp := hT.ag k [(7, .pointer f)] ⟨rfl, trivial⟩ (by kernel_rfl)
     exact ovr hAp rfl (r_move (hAp.get rfl)) fun _ => Eq.refl _
    ·intro a w hT
     have hAp := hT.ag k [] trivial (by kernel_rfl)
     have cu : a.tmps.getD 52 undef = .pointer f := hT.vals 3 rfl 52 rfl
     have hAp := hAp.add cu
     exact ovr hAp rfl (r_nilCheckP (((hAp.get rfl)).trans (congrArg Value.pointer ck))) fun _ => Eq.refl _
    ·intro a w hT
     have hAp := hT.ag k [] trivial (by kernel_rfl)
     have cv : a.tmps.getD 53 undef = .pointer (some m) := hT.vals 4 rfl 53 rfl
     have hAp := hAp.add cv
     exact ovr hAp rfl (r_fieldAddr (hAp.get rfl) Try.underlying76 rfl ti_29 (by decide)) fun _ => Eq.refl _
    ·intro a w hT
     have hAp := hT.ag k [] trivial (by kernel_rfl)
     have cx : a.tmps.getD 54 undef = .pointer (some (m.add 2)) := hT.vals 5 rfl 54 rfl
     have hAp := hAp.add cx
     exact ovr hAp rfl (r_fieldAddr (hAp.get rfl) Try.underlying29 rfl ti_26 (by decide)) fun _ => Eq.refl _
    ·intro a w hT
     have hAp := hT.ag k [] trivial (by kernel_rfl)
     have cy : a.tmps.getD 55 undef = .pointer (some ((m.add 2).add 3)) := hT.vals 6 rfl 55 rfl
     have hAp := hAp.add cy
     exact ovr hAp rfl (r_load1 Try.underlying26 rfl (hAp.get rfl) (Ext.cell hT.chg cm)) fun _ => Eq.refl _
    ·intro a w hT
     have hAp := hT.ag k [(8, .int .i64 d)] ⟨rfl, trivial⟩ (by kernel_rfl)
     exact ovr hAp rfl (r_move (hAp.get rfl)) fun _ => Eq.refl _
    ·intro a w hT
     have hAp := hT.ag k [] trivial (by kernel_rfl)
     have cz : a.tmps.getD 57 undef = .int .i64 d := hT.vals 8 rfl 57 rfl
     have hAp := hAp.add cz
     exact ovr hAp rfl (r_addI (hAp.get rfl) rfl co) fun _ => Eq.refl _
    ·intro a w hT
     have hAp := hT.ag k [] trivial (by kernel_rfl)
     have cA : a.tmps.getD 56 undef = Sl.v j := hT.vals 7 rfl 56 rfl
     have hAp := hAp.add cA
     have cB : a.tmps.getD 58 undef = .int .i64 (d + 1) := hT.vals 9 rfl 58 rfl
     have hAp := hAp.add cB
     exact ovr hAp rfl (r_sliceL (hAp.get rfl) (hAp.get rfl) Try.underlying26 ti_65 cq) fun _ => Eq.refl _
    ·intro bo aa cC cD bp
     have cF := cD [(7, .pointer f), (10, Sl.v g)] ⟨rfl, rfl, trivial⟩ (by kernel_rfl)
     have cG : bo.tmps.getD 51 undef = Sl.v (Sl.cut g 2 d.toNat g.n g.c) := bp 2 rfl 51 rfl
     have cH := cF.add cG
     have cI : bo.tmps.getD 59 undef = Sl.v (Sl.cut j 2 (d + 1).toNat j.n j.c) := bp 10 rfl 59 rfl
     have aB := cH.add cI
     have cJ : Chg [] r aa := cC
     have cK := cr aa    cJ
     refine one (D := [[], [], [0, 1], [], [3], [3, 4], [3, 4, 5], [3, 4, 5, 6], [], [8], [3, 4, 5, 6, 7, 8, 9], [0, 1, 2, 3, 4, 5, 6, 7, 8, 9, 10]]) (i := 11) rfl (by kernel_rfl) (opk_run aB rfl (fun _ _ hr => r_copy (aB.get rfl) (aB.get rfl) hr) cK fun dj dk aq cL _ dl dm cM => ?_)
     obtain ⟨aF, rfl, cN⟩ := cM
     refine PR_end (by kernel_rfl) ?_
     have bq := cL.keep [(7, .pointer f), (10, Sl.v g)] ⟨rfl, rfl, trivial⟩
     refine then_normal (wp_seq (wp_region_lit ?_))
     refine sqv bq rfl (r_move (bq.get rfl)) fun _ br => ?_
     refine sqv br rfl (r_move (br.get rfl)) fun _ bs => ?_
     obtain ⟨ar, cO, cP⟩ := cN
     refine sqv bs rfl (r_nilCheckP (((bs.get rfl)).trans (congrArg Value.pointer cO))) fun _ bt => ?_
     refine sqv bt rfl (r_fieldAddr (bt.get rfl) Try.underlying76 rfl ti_29 (by decide)) fun _ bu => ?_
     refine sqv bu rfl (r_fieldAddr (bu.get rfl) Try.underlying29 rfl ti_26 (by decide)) fun _ aC => ?_
     obtain ⟨t, af, au, ah, cQ, bv, cR, dn, cS⟩ := cP
     refine sq (opk_store aC bv (r_store (vs := [Sl.v g]) (((aC.get rfl)).trans (congrArg (fun a => Value.pointer (some a)) cQ)) (aC.get rfl) rfl ti_26 bv (Nat.ble_eq_true_of_le cR) (ones_all [Sl.v g] rfl)) fun dp ab cT cU cX => ?_)
     have cY := cS ab cT cU
     refine sq_end ?_
     have cZ := cX.keep [] trivial
     refine then_normal (wp_seq (wp_region_lit ?_))
     refine sqv cZ rfl (r_assign rfl) fun _ c0 => ?_
     refine sq_end ?_
     have bx := c0.keep [(6, .int .i64 0)] ⟨rfl, trivial⟩
     refine then_normal ?_
     refine wp_ret ?_
     exact res_all (vs := [.int .i64 0]) rfl bx ⟨res_of_tmp bx rfl, trivial⟩ cY
def dom_Dom_Text.vc (k : Addr) (l : Int) (c : Str) (R : Value → World → Prop) (w : World) : Prop :=
CallK Try.prog 45 #[.pointer (some k), .int .i64 l] w [] (fun v i => ∃ (d : Option Addr), v = .pointer d ∧
(((Option.isNone d) = true) →
R (.int .i64 3) i) ∧
(((Option.isNone d) = false) →
∃ y : Addr, (d = some y) ∧
∃ (f : Int), (i.cell? ((y.add 2).add 0) = some (.int .i64 f)) ∧
∃ z : Addr, (((f ≠ 3)) → d = some z) ∧
∃ (n : Int), (((f ≠ 3)) → i.cell? ((z.add 2).add 0) = some (.int .i64 n)) ∧
(((f ≠ 3) ∧ (n ≠ 4)) →
R (.int .i64 4) i) ∧
(((¬ (f ≠ 3)) ∨ (¬ (n ≠ 4))) →
∃ aa : Addr, (d = some aa) ∧
∃ (j : Int), (i.cell? ((aa.add 2).add 0) = some (.int .i64 j)) ∧
(((j = 3) ∧ (c = ([] : Str))) →
R (.int .i64 1) i) ∧
(((¬ (j = 3)) ∨ (¬ (c = ([] : Str)))) →
((4096 < (c.length : Int)) →
R (.int .i64 2) i) ∧
((¬ (4096 < (c.length : Int))) →
∃ ab : Addr, (d = some ab) ∧
∃ (m q : Nat) (ad : TypeId) (r : List Value), ((ab.add 2).add 2) = ⟨m, q, none⟩ ∧ Box i m ad r ∧ q + 1 ≤ r.length ∧ (∀ b ∈ [], b ≠ m) ∧
(∀ p : World, Chg [m] i p → Box p m ad (putAt r q [.string (Bs c)]) →
R (.int .i64 0) p))))))
theorem dom_Dom_Text.ok (k : Addr) (l : Int) (c : Str) {R : Value → World → Prop} {w : World} (aj : dom_Dom_Text.vc k l c R w) : Calls Try.prog 30 #[.pointer (some k), .int .i64 l, .string (Bs c)] w (Ret R) := by
 refine enter [.pointer (some k), .int .i64 l, .string (Bs c)] Try.func30 rfl Try.ntmps30 rfl ?_
 intro a0 a8
 unfold dom_Dom_Text.vc at aj
 refine wp_seq (wp_region_lit ?_)
 refine sqv a8 rfl (r_assign rfl) fun _ hA4 => ?_
 refine sq_end ?_
 have ak := hA4.keep [(0, .pointer (some k)), (1, .int .i64 l), (2, .string (Bs c))] ⟨rfl, rfl, rfl, trivial⟩
 refine then_normal (wp_seq (wp_region_lit ?_))
 refine sqv ak rfl (r_move (ak.get rfl)) fun _ al => ?_
 refine sqv al rfl (r_move (al.get rfl)) fun _ af => ?_
 refine sq (opk_call af rfl (r_call (args := #[.pointer (some k), .int .i64 l]) Try.func45 (by decide) rfl (map_arr (ml_cons (af.get rfl) (ml_cons (af.get rfl) ml_nil))) rfl) aj fun a9 bT i am _ bU bV ba => ?_)
 obtain ⟨d, rfl, an⟩ := ba
 refine sqv am rfl (r_assign (am.get rfl)) fun _ bb => ?_
 refine sq_end ?_
 have ao := bb.keep [(2, .string (Bs c)), (7, .pointer d)] ⟨rfl, rfl, trivial⟩
 refine then_normal (wp_seq (wp_block (wp_seq (wp_region_lit ?_))))
 refine sqv ao rfl (r_move (ao.get rfl)) fun _ ap => ?_
 refine sqv ap rfl (r_pnil (o := d) (ap.get rfl) rfl Try.underlying73) fun _ aq => ?_
 refine sqv aq rfl (r_assign (aq.get rfl)) fun _ bd => ?_
 refine sq_end ?_
 have s := bd.keep [(2, .string (Bs c)), (7, .pointer d), (11, .bool (Option.isNone d))] ⟨rfl, rfl, rfl, trivial⟩
 refine then_normal ?_
 refine wp_cond_split (s.get rfl) (fun hc => ?_) (fun hc => ?_)
 ·have bf := an.1 hc
  clear hc
  refine wp_seq (wp_region_lit ?_)
  refine sqv s rfl (r_assign rfl) fun _ bg => ?_
  refine sq_end ?_
  have ar := bg.keep [(6, .int .i64 3)] ⟨rfl, trivial⟩
  refine then_normal ?_
  refine wp_ret ?_
  refine block_ret ?_
  refine then_ret ?_
  exact res_all (vs := [.int .i64 3]) rfl ar ⟨res_of_tmp ar rfl, trivial⟩ bf
 ·have bh := an.2 hc
  clear hc
  refine wp_seq (wp_region_lit ?_)
  refine sqv s rfl (r_move (s.get rfl)) fun _ au => ?_
  obtain ⟨y, bi, bj⟩ := bh
  refine sqv au rfl (r_nilCheckP (((au.get rfl)).trans (congrArg Value.pointer bi))) fun _ av => ?_
  refine sqv av rfl (r_fieldAddr (av.get rfl) Try.underlying76 rfl ti_29 (by decide)) fun _ ax => ?_
  refine sqv ax rfl (r_fieldAddr (ax.get rfl) Try.underlying29 rfl ti_3 (by decide)) fun _ ay => ?_
  obtain ⟨f, bk, bl⟩ := bj
  refine sqv ay rfl (r_load1 Try.underlying3 rfl (ay.get rfl) bk) fun _ az => ?_
  refine sqv az rfl (r_neq (az.get rfl) rfl) fun _ aA => ?_
  refine sqv aA rfl (r_move (aA.get rfl)) fun _ aB => ?_
  refine sq (opk_gval aB rfl rfl (g := true) (e := (decide (f ≠ 3))) rfl (fun hg => r_move (aB.get rfl)) fun bX aC _ => ?_)
  obtain ⟨z, bm, bn⟩ := bl
  refine sq (opk_gval aC rfl rfl (g := true) (e := (decide (f ≠ 3))) rfl (fun hg => r_nilCheckP (((cv_get (aC.get rfl) hg)).trans (congrArg Value.pointer (bm (of_decide_eq_true (g_t hg)))))) fun bY aD _ => ?_)
  refine sq (opk_gval aD rfl rfl (g := true) (e := (decide (f ≠ 3))) rfl (fun hg => r_fieldAddr (cv_get (aD.get rfl) hg) Try.underlying76 rfl ti_29 (by decide)) fun bZ aF _ => ?_)
  refine sq (opk_gval aF rfl rfl (g := true) (e := (decide (f ≠ 3))) rfl (fun hg => r_fieldAddr (cv_get (aF.get rfl) hg) Try.underlying29 rfl ti_3 (by decide)) fun b0 aG _ => ?_)
  obtain ⟨n, bo, aH⟩ := bn
  refine sq (opk_gval aG rfl rfl (g := true) (e := (decide (f ≠ 3))) rfl (fun hg => r_load1 Try.underlying3 rfl (cv_get (aG.get rfl) hg) (bo (of_decide_eq_true (g_t hg)))) fun b1 aI _ => ?_)
  refine sq (opk_gval aI rfl rfl (g := true) (e := (decide (f ≠ 3))) rfl (fun hg => r_neq (cv_get (aI.get rfl) hg) rfl) fun b2 ag _ => ?_)
  refine sqv ag rfl (r_pick_and (g := (true && ((decide (f ≠ 3)) == true))) (ag.get rfl) (ag.get rfl) (fun he => g_mkt rfl he)) fun _ aJ => ?_
  refine sqv aJ rfl (r_assign (aJ.get rfl)) fun _ bp => ?_
  refine sq_end ?_
  have t := bp.keep [(2, .string (Bs c)), (7, .pointer d), (14, .bool ((decide (f ≠ 3)) && (decide (n ≠ 4))))] ⟨rfl, rfl, rfl, trivial⟩
  refine then_normal ?_
  refine wp_cond_split (t.get rfl) (fun hc => ?_) (fun hc => ?_)
  ·have bq := aH.1 ⟨(of_decide_eq_true (b_and_t hc).1), (of_decide_eq_true (b_and_t hc).2)⟩
   clear hc
   refine wp_seq (wp_region_lit ?_)
   refine sqv t rfl (r_assign rfl) fun _ br => ?_
   refine sq_end ?_
   have aK := br.keep [(6, .int .i64 4)] ⟨rfl, trivial⟩
   refine then_normal ?_
   refine wp_ret ?_
   refine block_ret ?_
   refine then_ret ?_
   exact res_all (vs := [.int .i64 4]) rfl aK ⟨res_of_tmp aK rfl, trivial⟩ bq
  ·have bs := aH.2 ((b_and_f hc).imp (fun h => (of_decide_eq_false h)) (fun h => (of_decide_eq_false h)))
   clear hc
   refine wp_seq (wp_region_lit ?_)
   refine sqv t rfl (r_move (t.get rfl)) fun _ aL => ?_
   obtain ⟨aa, bt, bu⟩ := bs
   refine sqv aL rfl (r_nilCheckP (((aL.get rfl)).trans (congrArg Value.pointer bt))) fun _ aM => ?_
   refine sqv aM rfl (r_fieldAddr (aM.get rfl) Try.underlying76 rfl ti_29 (by decide)) fun _ aN => ?_
   refine sqv aN rfl (r_fieldAddr (aN.get rfl) Try.underlying29 rfl ti_3 (by decide)) fun _ aO => ?_
   obtain ⟨j, bv, aP⟩ := bu
   refine sqv aO rfl (r_load1 Try.underlying3 rfl (aO.get rfl) bv) fun _ aQ => ?_
   refine sqv aQ rfl (r_eql (aQ.get rfl) rfl) fun _ aR => ?_
   refine sqv aR rfl (r_move (aR.get rfl)) fun _ aS => ?_
   refine sq (opk_gval aS rfl rfl (g := true) (e := (decide (j = 3))) rfl (fun hg => r_move (aS.get rfl)) fun b3 aT _ => ?_)
   refine sq (opk_gval aT rfl rfl (g := true) (e := (decide (j = 3))) rfl (fun hg => r_seql (cv_get (aT.get rfl) hg) rfl) fun b4 ah _ => ?_)
   refine sqv ah rfl (r_pick_and (g := (true && ((decide (j = 3)) == true))) (ah.get rfl) (ah.get rfl) (fun he => g_mkt rfl he)) fun _ aU => ?_
   refine sqv aU rfl (r_assign (aU.get rfl)) fun _ bx => ?_
   refine sq_end ?_
   have u := bx.keep [(2, .string (Bs c)), (7, .pointer d), (29, .bool ((decide (j = 3)) && (decide (c = ([] : Str)))))] ⟨rfl, rfl, rfl, trivial⟩
   refine then_normal ?_
   refine wp_cond_split (u.get rfl) (fun hc => ?_) (fun hc => ?_)
   ·have bz := aP.1 ⟨(of_decide_eq_true (b_and_t hc).1), (of_decide_eq_true (b_and_t hc).2)⟩
    clear hc
    refine wp_seq (wp_region_lit ?_)
    refine sqv u rfl (r_assign rfl) fun _ bA => ?_
    refine sq_end ?_
    have aV := bA.keep [(6, .int .i64 1)] ⟨rfl, trivial⟩
    refine then_normal ?_
    refine wp_ret ?_
    refine block_ret ?_
    refine then_ret ?_
    exact res_all (vs := [.int .i64 1]) rfl aV ⟨res_of_tmp aV rfl, trivial⟩ bz
   ·have aX := aP.2 ((b_and_f hc).imp (fun h => (of_decide_eq_false h)) (fun h => (of_decide_eq_false h)))
    clear hc
    refine wp_seq (wp_region_lit ?_)
    refine sqv u rfl (r_move (u.get rfl)) fun _ aY => ?_
    refine sqv aY rfl (r_slen (aY.get rfl) Try.underlying9) fun _ aZ => ?_
    refine sqv aZ rfl (r_gtr (aZ.get rfl) rfl) fun _ hA82 => ?_
    refine sqv hA82 rfl (r_assign (hA82.get rfl)) fun _ bB => ?_
    refine sq_end ?_
    have x := bB.keep [(2, .string (Bs c)), (7, .pointer d), (40, .bool (decide (4096 < (c.length : Int))))] ⟨rfl, rfl, rfl, trivial⟩
    refine then_normal ?_
    refine wp_cond_split (x.get rfl) (fun hc => ?_) (fun hc => ?_)
    ·have bC := aX.1 (of_decide_eq_true hc)
     clear hc
     refine wp_seq (wp_region_lit ?_)
     refine sqv x rfl (r_assign rfl) fun _ bD => ?_
     refine sq_end ?_
     have a1 := bD.keep [(6, .int .i64 2)] ⟨rfl, trivial⟩
     refine then_normal ?_
     refine wp_ret ?_
     refine block_ret ?_
     refine then_ret ?_
     exact res_all (vs := [.int .i64 2]) rfl a1 ⟨res_of_tmp a1 rfl, trivial⟩ bC
    ·have bF := aX.2 (of_decide_eq_false hc)
     clear hc
     refine wp_skip ?_
     refine block_normal ?_
     refine then_normal (wp_seq (wp_region_lit ?_))
     refine sqv x rfl (r_move (x.get rfl)) fun _ a2 => ?_
     refine sqv a2 rfl (r_move (a2.get rfl)) fun _ a3 => ?_
     obtain ⟨ab, bG, bH⟩ := bF
     refine sqv a3 rfl (r_nilCheckP (((a3.get rfl)).trans (congrArg Value.pointer bG))) fun _ a4 => ?_
     refine sqv a4 rfl (r_fieldAddr (a4.get rfl) Try.underlying76 rfl ti_29 (by decide)) fun _ a5 => ?_
     refine sqv a5 rfl (r_fieldAddr (a5.get rfl) Try.underlying29 rfl ti_9 (by decide)) fun _ ai => ?_
     obtain ⟨m, q, ad, r, bI, a6, bJ, b5, bK⟩ := bH
     refine sq (opk_store ai a6 (r_store (vs := [.string (Bs c)]) (((ai.get rfl)).trans (congrArg (fun a => Value.pointer (some a)) bI)) (ai.get rfl) rfl ti_9 a6 (Nat.ble_eq_true_of_le bJ) (ones_all [.string (Bs c)] rfl)) fun b6 p bL bM bN => ?_)
     have bO := bK p bL bM
     refine sq_end ?_
     have bP := bN.keep [] trivial
     refine then_normal (wp_seq (wp_region_lit ?_))
     refine sqv bP rfl (r_assign rfl) fun _ bQ => ?_
     refine sq_end ?_
     have a7 := bQ.keep [(6, .int .i64 0)] ⟨rfl, trivial⟩
     refine then_normal ?_
     refine wp_ret ?_
     exact res_all (vs := [.int .i64 0]) rfl a7 ⟨res_of_tmp a7 rfl, trivial⟩ bO
def dom_Dom_Parent.vc (b : Addr) (c : Int) (R : Value → World → Prop) (w : World) : Prop :=
CallK Try.prog 45 #[.pointer (some b), .int .i64 c] w [] (fun v f => ∃ (a : Option Addr), v = .pointer a ∧
(((Option.isNone a) = true) →
R (.int .i64 (-1)) f) ∧
(((Option.isNone a) = false) →
∃ h : Addr, (a = some h) ∧
∃ (d : Int), (f.cell? (h.add 1) = some (.int .i64 d)) ∧
R (.int .i64 d) f))
theorem dom_Dom_Parent.ok (b : Addr) (c : Int) {R : Value → World → Prop} {w : World} (j : dom_Dom_Parent.vc b c R w) : Calls Try.prog 33 #[.pointer (some b), .int .i64 c] w (Ret R) := by
 refine enter [.pointer (some b), .int .i64 c] Try.func33 rfl Try.ntmps33 rfl ?_
 intro a0 z
 unfold dom_Dom_Parent.vc at j
 refine wp_seq (wp_region_lit ?_)
 refine sqv z rfl (r_assign rfl) fun _ aa => ?_
 refine sq_end ?_
 have k := aa.keep [(0, .pointer (some b)), (1, .int .i64 c)] ⟨rfl, rfl, trivial⟩
 refine then_normal (wp_seq (wp_region_lit ?_))
 refine sqv k rfl (r_move (k.get rfl)) fun _ l => ?_
 refine sqv l rfl (r_move (l.get rfl)) fun _ i => ?_
 refine sq (opk_call i rfl (r_call (args := #[.pointer (some b), .int .i64 c]) Try.func45 (by decide) rfl (map_arr (ml_cons (i.get rfl) (ml_cons (i.get rfl) ml_nil))) rfl) j fun a8 aq f m _ ar au ab => ?_)
 obtain ⟨a, rfl, n⟩ := ab
 refine sqv m rfl (r_assign (m.get rfl)) fun _ ad => ?_
 refine sq_end ?_
 have p := ad.keep [(5, .pointer a)] ⟨rfl, trivial⟩
 refine then_normal (wp_seq (wp_seq (wp_region_lit ?_)))
 refine sqv p rfl (r_move (p.get rfl)) fun _ q => ?_
 refine sqv q rfl (r_pnil (o := a) (q.get rfl) rfl Try.underlying73) fun _ af => ?_
 refine sq_end ?_
 have g := af.keep [(5, .pointer a), (10, .bool (Option.isNone a))] ⟨rfl, rfl, trivial⟩
 refine then_normal ?_
 refine wp_cond_split (g.get rfl) (fun hc => ?_) (fun hc => ?_)
 ·have ag := n.1 hc
  clear hc
  refine wp_seq (wp_region_lit ?_)
  refine sqv g rfl (r_assign rfl) fun _ ah => ?_
  refine sq_end ?_
  have r := ah.keep [(4, .int .i64 (-1))] ⟨rfl, trivial⟩
  refine then_normal ?_
  refine wp_ret ?_
  refine then_ret ?_
  exact res_all (vs := [.int .i64 (-1)]) rfl r ⟨res_of_tmp r rfl, trivial⟩ ag
 ·have ai := n.2 hc
  clear hc
  refine wp_skip ?_
  refine then_normal (wp_seq (wp_region_lit ?_))
  refine sqv g rfl (r_move (g.get rfl)) fun _ s => ?_
  obtain ⟨h, aj, ak⟩ := ai
  refine sqv s rfl (r_nilCheckP (((s.get rfl)).trans (congrArg Value.pointer aj))) fun _ t => ?_
  refine sqv t rfl (r_fieldAddr (t.get rfl) Try.underlying76 rfl ti_3 (by decide)) fun _ u => ?_
  obtain ⟨d, al, am⟩ := ak
  refine sqv u rfl (r_load1 Try.underlying3 rfl (u.get rfl) al) fun _ x => ?_
  refine sqv x rfl (r_assign (x.get rfl)) fun _ an => ?_
  refine sq_end ?_
  have y := an.keep [(4, .int .i64 d)] ⟨rfl, trivial⟩
  refine then_normal ?_
  refine wp_ret ?_
  exact res_all (vs := [.int .i64 d]) rfl y ⟨res_of_tmp y rfl, trivial⟩ am
def dom_Dom_lay.vc (d : Addr) (t : Int) (u : Str) (x : Str) (y : Sl) (g : Sl) (z : Int) (R : Value → World → Prop) (w : World) : Prop :=
∀ (w5 : World) (ab : Nat), New w ab w5 → Chg [] w w5 →
∃ (f : Sl), (w5.cell? (d.add 0) = some (Sl.v f)) ∧
CallK Try.prog 48 #[.pointer (some d), .int .i64 (f.n : Int), .int .i64 z, .agg #[.int .i64 t, .string (Bs u), .string (Bs x), Sl.v y, Sl.v g]] w5 [ab] (fun v aL => v = .tuple #[] ∧
∃ (aB : Int → World → Prop) (aG : Int → World → Nat),
aB 0 aL ∧
(∀ (j : Int) (q : World), aB j q →
((j < (g.n : Int)) →
((0 : Int) ≤ j ∧ j < (g.n : Int)) ∧ ∃ aM : Addr, g.a = some aM ∧
∃ (ad : Int) (af : Str) (ah : Str) (ai : Sl) (aj : Sl), (Cells q (aM.add (j.toNat * 5)) [.int .i64 ad, .string (Bs af), .string (Bs ah), Sl.v ai, Sl.v aj]) ∧
∀ (ar : World) (an : Nat), New q an ar → Chg [] q ar →
CallK Try.prog 44 #[.pointer (some d), .agg #[.int .i64 ad, .string (Bs af), .string (Bs ah), Sl.v ai, Sl.v aj], .int .i64 (f.n : Int)] ar [an] (fun v aN => ∃ (o : Int), v = .int .i64 o ∧
∀ (p : World), Chg [] aN p →
∃ (ak : Sl), (p.cell? (d.add 0) = some (Sl.v ak)) ∧
∃ (al : Sl), (p.cell? (d.add 0) = some (Sl.v al)) ∧
∃ r : Addr, (((0 : Int) ≤ (f.n : Int) ∧ (f.n : Int) < (al.n : Int)) ∧ al.a = some r) ∧
∃ (au : Sl), (p.cell? ((r.add ((f.n : Int).toNat * 8)).add 7) = some (Sl.v au)) ∧
∀ (ao : World) (m : Nat), Ext p ao → p.heap.size ≤ m → Box ao m 3 [.int .i64 o] → 
∀ (_ : Box ao m 3 [.int .i64 o]),
RunK Try.prog (Builtin.append_ #[36, 36] 36 #[Sl.v au, Sl.v (Sl.mk (some ⟨m, 0, none⟩) 1 1)]) ao [] (fun v av => ∃ (am : Sl), v = Sl.v am ∧
(av.cell? (d.add 0) = some (Sl.v ak)) ∧
(av.cell? (d.add 0) = some (Sl.v al)) ∧
(av.cell? ((r.add ((f.n : Int).toNat * 8)).add 7) = some (Sl.v au)) ∧
∀ (ax : World), Chg [] av ax →
∃ ap : Addr, (((0 : Int) ≤ (f.n : Int) ∧ (f.n : Int) < (ak.n : Int)) ∧ ak.a = some ap) ∧
∀ (ay : World), Chg [] ax ay →
∃ (az aH : Nat) (aO : TypeId) (aI : List Value), ((ap.add ((f.n : Int).toNat * 8)).add 7) = ⟨az, aH, none⟩ ∧ Box ay az aO aI ∧ aH + 1 ≤ aI.length ∧ (∀ b ∈ [], b ≠ az) ∧
(∀ aq : World, Chg [az] ay aq → Box aq az aO (putAt aI aH [Sl.v am]) →
(I64 (j + 1)) ∧
aB (j + 1) aq ∧ aG (j + 1) aq < aG j q)))) ∧
((¬ (j < (g.n : Int))) →
R (.int .i64 (f.n : Int)) q)))
theorem dom_Dom_lay.ok (d : Addr) (t : Int) (u : Str) (x : Str) (y : Sl) (g : Sl) (z : Int) {R : Value → World → Prop} {w : World} (aU : dom_Dom_lay.vc d t u x y g z R w) : Calls Try.prog 44 #[.pointer (some d), .agg #[.int .i64 t, .string (Bs u), .string (Bs x), Sl.v y, Sl.v g], .int .i64 z] w (Ret R) := by
 refine enter [.pointer (some d), .agg #[.int .i64 t, .string (Bs u), .string (Bs x), Sl.v y, Sl.v g], .int .i64 z] Try.func44 rfl Try.ntmps44 rfl ?_
 intro a0 aV
 unfold dom_Dom_lay.vc at aU
 refine wp_seq (wp_region_lit ?_)
 refine sq (opk_new (fun B => .pointer (some ⟨B, 0, none⟩)) aV rfl (r_box (cs := [.int .i64 t, .string (Bs u), .string (Bs x), Sl.v y, Sl.v g]) (aV.get rfl) rfl) fun a6 w5 ab bH bI aX bJ _ => ?_)
 have bK : New w ab w5 := bI
 have bL : Chg [] w w5 := bH
 refine sqv bJ rfl (r_assign rfl) fun _ bM => ?_
 refine sq_end ?_
 have aY := bM.keep [(0, .pointer (some d)), (2, .int .i64 z), (4, .pointer (some (⟨ab, 0, none⟩ : Addr)))] ⟨rfl, rfl, rfl, trivial⟩
 refine then_normal (wp_seq (wp_region_lit ?_))
 refine sqv aY rfl (r_move (aY.get rfl)) fun _ aZ => ?_
 refine sqv aZ rfl (r_nilCheck (aZ.get rfl)) fun _ hA15 => ?_
 refine sqv hA15 rfl (r_fieldAddr (hA15.get rfl) Try.underlying71 rfl ti_69 (by decide)) fun _ a1 => ?_
 have bN := aU w5 ab bK  bL
 obtain ⟨f, bO, bP⟩ := bN
 refine sqv a1 rfl (r_load1 Try.underlying69 rfl (a1.get rfl) bO) fun _ a2 => ?_
 refine sqv a2 rfl (r_len (a2.get rfl) Try.underlying69) fun _ a3 => ?_
 refine sqv a3 rfl (r_assign (a3.get rfl)) fun _ bQ => ?_
 refine sq_end ?_
 have a4 := bQ.keep [(0, .pointer (some d)), (2, .int .i64 z), (4, .pointer (some (⟨ab, 0, none⟩ : Addr))), (7, .int .i64 (f.n : Int))] ⟨rfl, rfl, rfl, rfl, trivial⟩
 refine then_normal (wp_seq (wp_region_lit ?_))
 refine sqv a4 rfl (r_move (a4.get rfl)) fun _ a5 => ?_
 refine sqv a5 rfl (r_move (a5.get rfl)) fun _ hA26 => ?_
 refine sqv hA26 rfl (r_move (hA26.get rfl)) fun _ a7 => ?_
 refine sqv a7 rfl (r_loadN (cs := [.int .i64 t, .string (Bs u), .string (Bs x), Sl.v y, Sl.v g]) Try.underlying29 rfl ti_29 (a7.get rfl) (aX.part 0 _ rfl)) fun _ aC => ?_
 refine sq (opk_call aC rfl (r_call (args := #[.pointer (some d), .int .i64 (f.n : Int), .int .i64 z, .agg #[.int .i64 t, .string (Bs u), .string (Bs x), Sl.v y, Sl.v g]]) Try.func48 (by decide) rfl (map_arr (ml_cons (aC.get rfl) (ml_cons (aC.get rfl) (ml_cons (aC.get rfl) (ml_cons (aC.get rfl) ml_nil))))) rfl) bP fun dX dY aL bR _ bS dZ bT => ?_)
 obtain ⟨rfl, bU⟩ := bT
 have bV := aX.kept bS (.head _)
 refine sq_end ?_
 have a8 := bR.keep [(0, .pointer (some d)), (4, .pointer (some (⟨ab, 0, none⟩ : Addr))), (7, .int .i64 (f.n : Int))] ⟨rfl, rfl, rfl, trivial⟩
 refine then_normal (wp_seq (wp_seq (wp_region_lit ?_)))
 refine sqv a8 rfl (r_fieldAddr (a8.get rfl) Try.underlying29 rfl ti_27 (by decide)) fun _ a9 => ?_
 refine sqv a9 rfl (r_load1 Try.underlying27 rfl (a9.get rfl) (bV.cell 4 _ rfl)) fun _ ba => ?_
 refine sqv ba rfl (r_len (ba.get rfl) Try.underlying27) fun _ bX => ?_
 refine sqv bX rfl (r_move rfl) fun _ bY => ?_
 refine sq_end ?_
 have bZ := bY.keep [(0, .pointer (some d)), (7, .int .i64 (f.n : Int)), (22, Sl.v g), (23, .int .i64 (g.n : Int)), (24, .int .i64 0)] ⟨rfl, rfl, rfl, rfl, rfl, trivial⟩
 refine then_normal (wp_block ?_)
 obtain ⟨aB, aG, b0, b1⟩ := bU
 refine wp_loop_st (σ := Int × World) (fun s a w => Ag 52 a [(0, .pointer (some d)), (7, .int .i64 (f.n : Int)), (22, Sl.v g), (23, .int .i64 (g.n : Int)), (24, .int .i64 s.1)] ∧ w = s.2 ∧ aB s.1 s.2) (fun s => aG s.1 s.2) (0, aL) ⟨bZ.keep [(0, .pointer (some d)), (7, .int .i64 (f.n : Int)), (22, Sl.v g), (23, .int .i64 (g.n : Int)), (24, .int .i64 0)] ⟨rfl, rfl, rfl, rfl, rfl, trivial⟩, rfl, b0⟩ ?_
 rintro ⟨j, q⟩ d0 w_ ⟨aP, hw_, b2⟩
 have hw_ : q = w_ := hw_.symm
 subst hw_
 have bb := b1 j _ b2
 refine wp_seq (wp_region_lit ?_)
 refine sqv aP rfl (r_lss (aP.get rfl) (aP.get rfl)) fun _ b3 => ?_
 refine sq_end ?_
 have aD := b3.keep [(0, .pointer (some d)), (7, .int .i64 (f.n : Int)), (22, Sl.v g), (23, .int .i64 (g.n : Int)), (24, .int .i64 j), (25, .bool (decide (j < (g.n : Int))))] ⟨rfl, rfl, rfl, rfl, rfl, rfl, trivial⟩
 refine then_normal (wp_seq ?_)
 refine wp_cond_split (aD.get rfl) (fun hc => ?_) (fun hc => ?_)
 ·have b4 := bb.1 (of_decide_eq_true hc)
  clear hc
  refine wp_skip ?_
  refine then_normal (wp_seq (wp_block (wp_seq (wp_region_lit ?_))))
  obtain ⟨b5, aM, b6, b7⟩ := b4
  refine sqv aD rfl (r_indexAddr (aD.get rfl) (aD.get rfl) Try.underlying27 ti_29 b5 b6) fun _ bd => ?_
  obtain ⟨ad, af, ah, ai, aj, b8, b9⟩ := b7
  refine sqv bd rfl (r_loadN Try.underlying29 rfl ti_29 (bd.get rfl) b8) fun _ ca => ?_
  refine sq (opk_new (fun B => .pointer (some ⟨B, 0, none⟩)) ca rfl (r_alloc (cs := [.int .i64 0, .string (Bs ([] : Str)), .string (Bs ([] : Str)), Sl.v Sl.nil, Sl.v Sl.nil]) ti_29 rfl) fun d1 bf an cb cc bg aQ _ => ?_)
  have bh : New q an bf := cc
  have cd : Chg [] q bf := cb
  refine sq (opk_store aQ bg (r_store (vs := [.int .i64 ad, .string (Bs af), .string (Bs ah), Sl.v ai, Sl.v aj]) (aQ.get rfl) (aQ.get rfl) rfl ti_29 bg rfl (ones_all [.int .i64 ad, .string (Bs af), .string (Bs ah), Sl.v ai, Sl.v aj] rfl)) fun d2 ar bi cf cg => ?_)
  have bj : Box ar an 29 [.int .i64 ad, .string (Bs af), .string (Bs ah), Sl.v ai, Sl.v aj] := cf
  have ch := cd.storeNew bh bi
  have ci := bh.up bi.size
  refine sq_end ?_
  have bk := cg.keep [(0, .pointer (some d)), (7, .int .i64 (f.n : Int)), (9, .pointer (some (⟨an, 0, none⟩ : Addr))), (22, Sl.v g), (23, .int .i64 (g.n : Int)), (24, .int .i64 j)] ⟨rfl, rfl, rfl, rfl, rfl, rfl, trivial⟩
  refine then_normal (wp_seq (wp_region_lit ?_))
  refine sqv bk rfl (r_move (bk.get rfl)) fun _ bl => ?_
  refine sqv bl rfl (r_loadN (cs := [.int .i64 ad, .string (Bs af), .string (Bs ah), Sl.v ai, Sl.v aj]) Try.underlying29 rfl ti_29 (bl.get rfl) (bj.part 0 _ rfl)) fun _ bm => ?_
  refine sqv bm rfl (r_move (bm.get rfl)) fun _ aJ => ?_
  have cj := b9 ar an ci  ch
  refine sq (opk_call aJ rfl (r_call (args := #[.pointer (some d), .agg #[.int .i64 ad, .string (Bs af), .string (Bs ah), Sl.v ai, Sl.v aj], .int .i64 (f.n : Int)]) Try.func44 (by decide) rfl (map_arr (ml_cons (aJ.get rfl) (ml_cons (aJ.get rfl) (ml_cons (aJ.get rfl) ml_nil)))) rfl) cj fun d3 d4 aN bn _ ck d5 cl => ?_)
  obtain ⟨o, rfl, cm⟩ := cl
  have d6 := bj.kept ck (.head _)
  refine sqv bn rfl (r_assign (bn.get rfl)) fun _ cn => ?_
  refine sq_end ?_
  have k := cn.keep [(0, .pointer (some d)), (7, .int .i64 (f.n : Int)), (10, .int .i64 o), (22, Sl.v g), (23, .int .i64 (g.n : Int)), (24, .int .i64 j)] ⟨rfl, rfl, rfl, rfl, rfl, rfl, trivial⟩
  refine then_normal ?_
  refine draw' (by kernel_rfl) fun p co => ?_
  have cp : Chg [] aN p := co
  have cq := cm p    cp
  obtain ⟨ak, bo, cr⟩ := cq
  obtain ⟨al, bp, ct⟩ := cr
  obtain ⟨r, aK, cu⟩ := ct
  obtain ⟨au, bq, cv⟩ := cu
  refine startF (D := [[], [0], [0, 1], [0, 1, 2], [], [], [5], [5, 6], [5, 6, 7], [], [5, 6, 7, 8, 9], [5, 6, 7, 8, 9, 10], [5, 6, 7, 8, 9, 10, 11], [], [13], [5, 6, 7, 8, 9, 10, 11, 12, 13, 14], [0, 1, 2, 3, 4, 5, 6, 7, 8, 9, 10, 11, 12, 13, 14, 15], [0, 1, 2, 3, 4, 5, 6, 7, 8, 9, 10, 11, 12, 13, 14, 15, 16], [0, 1, 2, 3, 4, 5, 6, 7, 8, 9, 10, 11, 12, 13, 14, 15, 16, 17]]) (Fs := [0, 1, 2, 3, 4, 5, 6, 7, 8, 9, 10, 11, 12, 13]) (Ef := [(0, fun v _ => v = .pointer (some d)), (1, fun v _ => v = .pointer (some d)), (2, fun v _ => v = .pointer (some (d.add 0))), (3, fun v _ => v = Sl.v ak), (4, fun v _ => v = .int .i64 (f.n : Int)), (5, fun v _ => v = .pointer (some d)), (6, fun v _ => v = .pointer (some d)), (7, fun v _ => v = .pointer (some (d.add 0))), (8, fun v _ => v = Sl.v al), (9, fun v _ => v = .int .i64 (f.n : Int)), (10, fun v _ => v = .pointer (some (r.add ((f.n : Int).toNat * 8)))), (11, fun v _ => v = .pointer (some ((r.add ((f.n : Int).toNat * 8)).add 7))), (12, fun v _ => v = Sl.v au), (13, fun v _ => v = .int .i64 o)]) (by kernel_rfl) ?_
  refine parF (D := [[], [0], [0, 1], [0, 1, 2], [], [], [5], [5, 6], [5, 6, 7], [], [5, 6, 7, 8, 9], [5, 6, 7, 8, 9, 10], [5, 6, 7, 8, 9, 10, 11], [], [13], [5, 6, 7, 8, 9, 10, 11, 12, 13, 14], [0, 1, 2, 3, 4, 5, 6, 7, 8, 9, 10, 11, 12, 13, 14, 15], [0, 1, 2, 3, 4, 5, 6, 7, 8, 9, 10, 11, 12, 13, 14, 15, 16], [0, 1, 2, 3, 4, 5, 6, 7, 8, 9, 10, 11, 12, 13, 14, 15, 16, 17]]) (S := [14]) (F := []) (KE := [14]) (E := [(14, fun v w' => ∃ m : Nat, p.heap.size ≤ m ∧ Box w' m 3 [.int .i64 o] ∧ v = Sl.v (Sl.mk (some ⟨m, 0, none⟩) 1 1))]) k rfl (by kernel_rfl) ⟨fun _ _ _ hE ⟨m, h0_, h1_, e⟩ => ⟨m, h0_, (h1_.ext hE), e⟩, fun _ _ _ _ h => h, fun _ _ _ _ h => h, fun _ _ _ _ h => h, fun _ _ _ _ h => h, fun _ _ _ _ h => h, fun _ _ _ _ h => h, fun _ _ _ _ h => h, fun _ _ _ _ h => h, fun _ _ _ _ h => h, fun _ _ _ _ h => h, fun _ _ _ _ h => h, fun _ _ _ _ h => h, fun _ _ _ _ h => h, fun _ _ _ _ h => h, trivial⟩ ⟨?_, ?_, ?_, ?_, ?_, ?_, ?_, ?_, ?_, ?_, ?_, ?_, ?_, ?_, ?_, trivial⟩ ?_
  ·intro a w hT
   have hAp := hT.ag k [] trivial (by kernel_rfl)
   have cx : a.tmps.getD 45 undef = .int .i64 o := hT.vals 13 rfl 45 rfl
   have hAp := hAp.add cx
   exact opk_new (fun B => .slice (some ⟨B, 0, none⟩) 1 1) hAp rfl (r_buildSlice (vs := #[(0, .int .i64 o)]) (cs := [.int .i64 o]) (map_arr2 (ml2_cons (hAp.get rfl) (ml2_nil))) Try.underlying36 ti_3 rfl rfl (by kernel_rfl)) fun _ d7 m cy cz cA _ e => ⟨_, e, cy, fun _ => ⟨m, Nat.le_trans hT.chg.size cz.ge, cA, rfl⟩⟩
  ·intro a w hT
   have hAp := hT.ag k [(0, .pointer (some d))] ⟨rfl, trivial⟩ (by kernel_rfl)
   exact ovr hAp rfl (r_move (hAp.get rfl)) fun _ => Eq.refl _
  ·intro a w hT
   have hAp := hT.ag k [] trivial (by kernel_rfl)
   have cB : a.tmps.getD 32 undef = .pointer (some d) := hT.vals 0 rfl 32 rfl
   have hAp := hAp.add cB
   exact ovr hAp rfl (r_nilCheck (hAp.get rfl)) fun _ => Eq.refl _
  ·intro a w hT
   have hAp := hT.ag k [] trivial (by kernel_rfl)
   have cC : a.tmps.getD 33 undef = .pointer (some d) := hT.vals 1 rfl 33 rfl
   have hAp := hAp.add cC
   exact ovr hAp rfl (r_fieldAddr (hAp.get rfl) Try.underlying71 rfl ti_69 (by decide)) fun _ => Eq.refl _
  ·intro a w hT
   have hAp := hT.ag k [] trivial (by kernel_rfl)
   have cD : a.tmps.getD 34 undef = .pointer (some (d.add 0)) := hT.vals 2 rfl 34 rfl
   have hAp := hAp.add cD
   exact ovr hAp rfl (r_load1 Try.underlying69 rfl (hAp.get rfl) (Ext.cell hT.chg bo)) fun _ => Eq.refl _
  ·intro a w hT
   have hAp := hT.ag k [(7, .int .i64 (f.n : Int))] ⟨rfl, trivial⟩ (by kernel_rfl)
   exact ovr hAp rfl (r_move (hAp.get rfl)) fun _ => Eq.refl _
  ·intro a w hT
   have hAp := hT.ag k [(0, .pointer (some d))] ⟨rfl, trivial⟩ (by kernel_rfl)
   exact ovr hAp rfl (r_move (hAp.get rfl)) fun _ => Eq.refl _
  ·intro a w hT
   have hAp := hT.ag k [] trivial (by kernel_rfl)
   have cF : a.tmps.getD 37 undef = .pointer (some d) := hT.vals 5 rfl 37 rfl
   have hAp := hAp.add cF
   exact ovr hAp rfl (r_nilCheck (hAp.get rfl)) fun _ => Eq.refl _
  ·intro a w hT
   have hAp := hT.ag k [] trivial (by kernel_rfl)
   have cG : a.tmps.getD 38 undef = .pointer (some d) := hT.vals 6 rfl 38 rfl
   have hAp := hAp.add cG
   exact ovr hAp rfl (r_fieldAddr (hAp.get rfl) Try.underlying71 rfl ti_69 (by decide)) fun _ => Eq.refl _
  ·intro a w hT
   have hAp := hT.ag k [] trivial (by kernel_rfl)
   have cH : a.tmps.getD 39 undef = .pointer (some (d.add 0)) := hT.vals 7 rfl 39 rfl
   have hAp := hAp.add cH
   exact ovr hAp rfl (r_load1 Try.underlying69 rfl (hAp.get rfl) (Ext.cell hT.chg bp)) fun _ => Eq.refl _
  ·intro a w hT
   have hAp := hT.ag k [(7, .int .i64 (f.n : Int))] ⟨rfl, trivial⟩ (by kernel_rfl)
   exact ovr hAp rfl (r_move (hAp.get rfl)) fun _ => Eq.refl _
  ·intro a w hT
   have hAp := hT.ag k [] trivial (by kernel_rfl)
   have cI : a.tmps.getD 40 undef = Sl.v al := hT.vals 8 rfl 40 rfl
   have hAp := hAp.add cI
   have cJ : a.tmps.getD 41 undef = .int .i64 (f.n : Int) := hT.vals 9 rfl 41 rfl
   have hAp := hAp.add cJ
   exact ovr hAp rfl (r_indexAddr (hAp.get rfl) (hAp.get rfl) Try.underlying69 ti_76 aK.1 aK.2) fun _ => Eq.refl _
  ·intro a w hT
   have hAp := hT.ag k [] trivial (by kernel_rfl)
   have cK : a.tmps.getD 42 undef = .pointer (some (r.add ((f.n : Int).toNat * 8))) := hT.vals 10 rfl 42 rfl
   have hAp := hAp.add cK
   exact ovr hAp rfl (r_fieldAddr (hAp.get rfl) Try.underlying76 rfl ti_36 (by decide)) fun _ => Eq.refl _
  ·intro a w hT
   have hAp := hT.ag k [] trivial (by kernel_rfl)
   have cL : a.tmps.getD 43 undef = .pointer (some ((r.add ((f.n : Int).toNat * 8)).add 7)) := hT.vals 11 rfl 43 rfl
   have hAp := hAp.add cL
   exact ovr hAp rfl (r_load1 Try.underlying36 rfl (hAp.get rfl) (Ext.cell hT.chg bq)) fun _ => Eq.refl _
  ·intro a w hT
   have hAp := hT.ag k [(10, .int .i64 o)] ⟨rfl, trivial⟩ (by kernel_rfl)
   exact ovr hAp rfl (r_move (hAp.get rfl)) fun _ => Eq.refl _
  ·intro d8 ao aF cM cN
   have cO := cM [(0, .pointer (some d)), (7, .int .i64 (f.n : Int)), (10, .int .i64 o), (22, Sl.v g), (23, .int .i64 (g.n : Int)), (24, .int .i64 j)] ⟨rfl, rfl, rfl, rfl, rfl, rfl, trivial⟩ (by kernel_rfl)
   obtain ⟨m, cP, br, cQ⟩ := cN 14 rfl 46 rfl
   have l := cO.add cQ
   have d9 : Chg [] p ao := aF
   have cR := Ext.cell aF bo
   have cS := Ext.cell aF bp
   have cT := Ext.cell aF bq
   have cU := cv ao m aF cP br
   refine oneF (c := 15) l rfl (by kernel_rfl) (constF ⟨fun _ _ _ h => h, fun _ _ _ h => h, fun _ _ _ h => h, fun _ _ _ h => h, fun _ _ _ h => h, fun _ _ _ h => h, fun _ _ _ h => h, fun _ _ _ h => h, fun _ _ _ h => h, fun _ _ _ h => h, fun _ _ _ h => h, fun _ _ _ h => h, fun _ _ _ h => h, fun _ _ _ h => h, trivial⟩) ⟨?_, ?_, ?_, ?_, ?_, ?_, ?_, ?_, ?_, ?_, ?_, ?_, ?_, ?_, trivial⟩ ?_
   ·intro a hT
    have hAp := hT.ag l [(0, .pointer (some d))] ⟨rfl, trivial⟩ (by kernel_rfl)
    exact opk_val hAp rfl (r_move (hAp.get rfl)) fun _ _ e => ⟨_, e, rfl, fun _ => Eq.refl _⟩
   ·intro a hT
    have hAp := hT.ag l [] trivial (by kernel_rfl)
    have cX : a.tmps.getD 32 undef = .pointer (some d) := hT.vals 0 rfl 32 rfl
    have hAp := hAp.add cX
    exact opk_val hAp rfl (r_nilCheck (hAp.get rfl)) fun _ _ e => ⟨_, e, rfl, fun _ => Eq.refl _⟩
   ·intro a hT
    have hAp := hT.ag l [] trivial (by kernel_rfl)
    have cY : a.tmps.getD 33 undef = .pointer (some d) := hT.vals 1 rfl 33 rfl
    have hAp := hAp.add cY
    exact opk_val hAp rfl (r_fieldAddr (hAp.get rfl) Try.underlying71 rfl ti_69 (by decide)) fun _ _ e => ⟨_, e, rfl, fun _ => Eq.refl _⟩
   ·intro a hT
    have hAp := hT.ag l [] trivial (by kernel_rfl)
    have cZ : a.tmps.getD 34 undef = .pointer (some (d.add 0)) := hT.vals 2 rfl 34 rfl
    have hAp := hAp.add cZ
    exact opk_val hAp rfl (r_load1 Try.underlying69 rfl (hAp.get rfl) (Ext.cell hT.chg cR)) fun _ _ e => ⟨_, e, rfl, fun _ => Eq.refl _⟩
   ·intro a hT
    have hAp := hT.ag l [(7, .int .i64 (f.n : Int))] ⟨rfl, trivial⟩ (by kernel_rfl)
    exact opk_val hAp rfl (r_move (hAp.get rfl)) fun _ _ e => ⟨_, e, rfl, fun _ => Eq.refl _⟩
   ·intro a hT
    have hAp := hT.ag l [(0, .pointer (some d))] ⟨rfl, trivial⟩ (by kernel_rfl)
    exact opk_val hAp rfl (r_move (hAp.get rfl)) fun _ _ e => ⟨_, e, rfl, fun _ => Eq.refl _⟩
   ·intro a hT
    have hAp := hT.ag l [] trivial (by kernel_rfl)
    have c0 : a.tmps.getD 37 undef = .pointer (some d) := hT.vals 5 rfl 37 rfl
    have hAp := hAp.add c0
    exact opk_val hAp rfl (r_nilCheck (hAp.get rfl)) fun _ _ e => ⟨_, e, rfl, fun _ => Eq.refl _⟩
   ·intro a hT
    have hAp := hT.ag l [] trivial (by kernel_rfl)
    have c1 : a.tmps.getD 38 undef = .pointer (some d) := hT.vals 6 rfl 38 rfl
    have hAp := hAp.add c1
    exact opk_val hAp rfl (r_fieldAddr (hAp.get rfl) Try.underlying71 rfl ti_69 (by decide)) fun _ _ e => ⟨_, e, rfl, fun _ => Eq.refl _⟩
   ·intro a hT
    have hAp := hT.ag l [] trivial (by kernel_rfl)
    have c2 : a.tmps.getD 39 undef = .pointer (some (d.add 0)) := hT.vals 7 rfl 39 rfl
    have hAp := hAp.add c2
    exact opk_val hAp rfl (r_load1 Try.underlying69 rfl (hAp.get rfl) (Ext.cell hT.chg cS)) fun _ _ e => ⟨_, e, rfl, fun _ => Eq.refl _⟩
   ·intro a hT
    have hAp := hT.ag l [(7, .int .i64 (f.n : Int))] ⟨rfl, trivial⟩ (by kernel_rfl)
    exact opk_val hAp rfl (r_move (hAp.get rfl)) fun _ _ e => ⟨_, e, rfl, fun _ => Eq.refl _⟩
   ·intro a hT
    have hAp := hT.ag l [] trivial (by kernel_rfl)
    have c3 : a.tmps.getD 40 undef = Sl.v al := hT.vals 8 rfl 40 rfl
    have hAp := hAp.add c3
    have c4 : a.tmps.getD 41 undef = .int .i64 (f.n : Int) := hT.vals 9 rfl 41 rfl
    have hAp := hAp.add c4
    exact opk_val hAp rfl (r_indexAddr (hAp.get rfl) (hAp.get rfl) Try.underlying69 ti_76 aK.1 aK.2) fun _ _ e => ⟨_, e, rfl, fun _ => Eq.refl _⟩
   ·intro a hT
    have hAp := hT.ag l [] trivial (by kernel_rfl)
    have c5 : a.tmps.getD 42 undef = .pointer (some (r.add ((f.n : Int).toNat * 8))) := hT.vals 10 rfl 42 rfl
    have hAp := hAp.add c5
    exact opk_val hAp rfl (r_fieldAddr (hAp.get rfl) Try.underlying76 rfl ti_36 (by decide)) fun _ _ e => ⟨_, e, rfl, fun _ => Eq.refl _⟩
   ·intro a hT
    have hAp := hT.ag l [] trivial (by kernel_rfl)
    have c6 : a.tmps.getD 43 undef = .pointer (some ((r.add ((f.n : Int).toNat * 8)).add 7)) := hT.vals 11 rfl 43 rfl
    have hAp := hAp.add c6
    exact opk_val hAp rfl (r_load1 Try.underlying36 rfl (hAp.get rfl) (Ext.cell hT.chg cT)) fun _ _ e => ⟨_, e, rfl, fun _ => Eq.refl _⟩
   ·intro a hT
    have hAp := hT.ag l [(10, .int .i64 o)] ⟨rfl, trivial⟩ (by kernel_rfl)
    exact opk_val hAp rfl (r_move (hAp.get rfl)) fun _ _ e => ⟨_, e, rfl, fun _ => Eq.refl _⟩
   ·intro c7 hT
    have c8 := hT.ag l [(0, .pointer (some d)), (7, .int .i64 (f.n : Int)), (10, .int .i64 o), (22, Sl.v g), (23, .int .i64 (g.n : Int)), (24, .int .i64 j), (46, Sl.v (Sl.mk (some ⟨m, 0, none⟩) 1 1))] ⟨rfl, rfl, rfl, rfl, rfl, rfl, rfl, trivial⟩ (by kernel_rfl)
    have c9 : c7.tmps.getD 44 undef = Sl.v au := hT.vals 12 rfl 44 rfl
    have aR := c8.add c9
    have da := cU br
    refine (opk_run aR rfl (fun _ _ hr => r_append (aR.get rfl) (aR.get rfl) hr) da fun fa fb av db dc fc fd dd => ?_)
    refine ⟨_, dc, ?_⟩
    obtain ⟨am, rfl, df⟩ := dd
    obtain ⟨bs, dg⟩ := df
    obtain ⟨ff, dh⟩ := dg
    obtain ⟨fg, di⟩ := dh
    refine PRF_drop (X := [5, 6, 7, 8, 9, 10, 11, 12, 13]) (Fs' := [0, 1, 2, 3, 4]) db (by kernel_rfl) fun fh dj fi => ?_
    have aA := dj [(0, .pointer (some d)), (7, .int .i64 (f.n : Int)), (22, Sl.v g), (23, .int .i64 (g.n : Int)), (24, .int .i64 j), (47, Sl.v am)] ⟨rfl, rfl, rfl, rfl, rfl, rfl, trivial⟩ (by kernel_rfl)
    refine joinF aA (by kernel_rfl) ⟨fun _ _ _ _ h => h, fun _ _ _ _ h => h, fun _ _ _ _ h => h, fun _ _ _ _ h => h, fun _ _ _ _ h => h, trivial⟩ ⟨?_, ?_, ?_, ?_, ?_, trivial⟩ ?_
    ·intro a w hT
     have hAp := hT.ag aA [(0, .pointer (some d))] ⟨rfl, trivial⟩ (by kernel_rfl)
     exact ovr hAp rfl (r_move (hAp.get rfl)) fun _ => Eq.refl _
    ·intro a w hT
     have hAp := hT.ag aA [] trivial (by kernel_rfl)
     have dk : a.tmps.getD 32 undef = .pointer (some d) := hT.vals 0 rfl 32 rfl
     have hAp := hAp.add dk
     exact ovr hAp rfl (r_nilCheck (hAp.get rfl)) fun _ => Eq.refl _
    ·intro a w hT
     have hAp := hT.ag aA [] trivial (by kernel_rfl)
     have dl : a.tmps.getD 33 undef = .pointer (some d) := hT.vals 1 rfl 33 rfl
     have hAp := hAp.add dl
     exact ovr hAp rfl (r_fieldAddr (hAp.get rfl) Try.underlying71 rfl ti_69 (by decide)) fun _ => Eq.refl _
    ·intro a w hT
     have hAp := hT.ag aA [] trivial (by kernel_rfl)
     have dm : a.tmps.getD 34 undef = .pointer (some (d.add 0)) := hT.vals 2 rfl 34 rfl
     have hAp := hAp.add dm
     exact ovr hAp rfl (r_load1 Try.underlying69 rfl (hAp.get rfl) (Ext.cell hT.chg bs)) fun _ => Eq.refl _
    ·intro a w hT
     have hAp := hT.ag aA [(7, .int .i64 (f.n : Int))] ⟨rfl, trivial⟩ (by kernel_rfl)
     exact ovr hAp rfl (r_move (hAp.get rfl)) fun _ => Eq.refl _
    ·intro bt ax bu dn bv
     have dp := dn [(0, .pointer (some d)), (7, .int .i64 (f.n : Int)), (22, Sl.v g), (23, .int .i64 (g.n : Int)), (24, .int .i64 j), (47, Sl.v am)] ⟨rfl, rfl, rfl, rfl, rfl, rfl, trivial⟩ (by kernel_rfl)
     have dq : bt.tmps.getD 35 undef = Sl.v ak := bv 3 rfl 35 rfl
     have dr := dp.add dq
     have ds : bt.tmps.getD 36 undef = .int .i64 (f.n : Int) := bv 4 rfl 36 rfl
     have aS := dr.add ds
     have dt : Chg [] av ax := bu
     have fj := Ext.cell bu bs
     have du := di ax    dt
     obtain ⟨ap, bx, dv⟩ := du
     refine par (D := [[], [0], [0, 1], [0, 1, 2], [], [], [5], [5, 6], [5, 6, 7], [], [5, 6, 7, 8, 9], [5, 6, 7, 8, 9, 10], [5, 6, 7, 8, 9, 10, 11], [], [13], [5, 6, 7, 8, 9, 10, 11, 12, 13, 14], [0, 1, 2, 3, 4, 5, 6, 7, 8, 9, 10, 11, 12, 13, 14, 15], [0, 1, 2, 3, 4, 5, 6, 7, 8, 9, 10, 11, 12, 13, 14, 15, 16], [0, 1, 2, 3, 4, 5, 6, 7, 8, 9, 10, 11, 12, 13, 14, 15, 16, 17]]) (S := [16, 17]) (F := []) (V := VL [(16, fun v _ => v = .pointer (some (ap.add ((f.n : Int).toNat * 8)))), (17, fun v _ => v = .pointer (some ((ap.add ((f.n : Int).toNat * 8)).add 7)))]) aS (by kernel_rfl) ⟨fun _ _ _ _ h => h, fun _ _ _ _ h => h, trivial⟩ ⟨?_, ?_, trivial⟩ ?_
     ·intro a w hT
      have hAp := hT.ag aS [(35, Sl.v ak), (36, .int .i64 (f.n : Int))] ⟨rfl, rfl, trivial⟩ (by kernel_rfl)
      exact ovr hAp rfl (r_indexAddr (hAp.get rfl) (hAp.get rfl) Try.underlying69 ti_76 bx.1 bx.2) fun _ => Eq.refl _
     ·intro a w hT
      have hAp := hT.ag aS [] trivial (by kernel_rfl)
      have dx : a.tmps.getD 48 undef = .pointer (some (ap.add ((f.n : Int).toNat * 8))) := hT.vals 16 rfl 48 rfl
      have hAp := hAp.add dx
      exact ovr hAp rfl (r_fieldAddr (hAp.get rfl) Try.underlying76 rfl ti_36 (by decide)) fun _ => Eq.refl _
     ·intro dy ay dz dA dB
      have dC := dA [(0, .pointer (some d)), (7, .int .i64 (f.n : Int)), (22, Sl.v g), (23, .int .i64 (g.n : Int)), (24, .int .i64 j), (47, Sl.v am)] ⟨rfl, rfl, rfl, rfl, rfl, rfl, trivial⟩ (by kernel_rfl)
      have dD : dy.tmps.getD 49 undef = .pointer (some ((ap.add ((f.n : Int).toNat * 8)).add 7)) := dB 17 rfl 49 rfl
      have aT := dC.add dD
      have dF : Chg [] ax ay := dz
      have dG := dv ay    dF
      obtain ⟨az, aH, aO, aI, dH, bz, dI, fk, dJ⟩ := dG
      refine one (D := [[], [0], [0, 1], [0, 1, 2], [], [], [5], [5, 6], [5, 6, 7], [], [5, 6, 7, 8, 9], [5, 6, 7, 8, 9, 10], [5, 6, 7, 8, 9, 10, 11], [], [13], [5, 6, 7, 8, 9, 10, 11, 12, 13, 14], [0, 1, 2, 3, 4, 5, 6, 7, 8, 9, 10, 11, 12, 13, 14, 15], [0, 1, 2, 3, 4, 5, 6, 7, 8, 9, 10, 11, 12, 13, 14, 15, 16], [0, 1, 2, 3, 4, 5, 6, 7, 8, 9, 10, 11, 12, 13, 14, 15, 16, 17]]) (i := 18) rfl (by kernel_rfl) (opk_store aT bz (r_store (vs := [Sl.v am]) (((aT.get rfl)).trans (congrArg (fun a => Value.pointer (some a)) dH)) (aT.get rfl) rfl ti_36 bz (Nat.ble_eq_true_of_le dI) (ones_all [Sl.v am] rfl)) fun fl aq dK dL dM => ?_)
      have dN := dJ aq dK dL
      refine PR_end (by kernel_rfl) ?_
      have bA := dM.keep [(0, .pointer (some d)), (7, .int .i64 (f.n : Int)), (22, Sl.v g), (23, .int .i64 (g.n : Int)), (24, .int .i64 j)] ⟨rfl, rfl, rfl, rfl, rfl, trivial⟩
      refine block_normal ?_
      refine then_normal (wp_region_lit ?_)
      obtain ⟨dO, bB⟩ := dN
      refine sqv bA rfl (r_addI (bA.get rfl) rfl dO) fun _ bC => ?_
      refine sqv bC rfl (r_move (bC.get rfl)) fun _ dP => ?_
      refine sq_end ?_
      have dQ := dP.keep [(0, .pointer (some d)), (7, .int .i64 (f.n : Int)), (22, Sl.v g), (23, .int .i64 (g.n : Int)), (24, .int .i64 (j + 1))] ⟨rfl, rfl, rfl, rfl, rfl, trivial⟩
      have dR := dQ.keep [(0, .pointer (some d)), (7, .int .i64 (f.n : Int)), (22, Sl.v g), (23, .int .i64 (g.n : Int)), (24, .int .i64 (j + 1))] ⟨rfl, rfl, rfl, rfl, rfl, trivial⟩
      exact then_normal ⟨(j + 1, aq), ⟨dR, rfl, bB.1⟩, bB.2⟩
 ·have dS := bb.2 (of_decide_eq_false hc)
  clear hc
  refine wp_exit ?_
  refine then_exit ?_
  refine then_exit ?_
  refine block_hit ?_
  have bD := aD.keep [(7, .int .i64 (f.n : Int))] ⟨rfl, trivial⟩
  refine then_normal (wp_seq (wp_region_lit ?_))
  refine sqv bD rfl (r_move (bD.get rfl)) fun _ bF => ?_
  refine sqv bF rfl (r_assign (bF.get rfl)) fun _ dT => ?_
  refine sq_end ?_
  have bG := dT.keep [(6, .int .i64 (f.n : Int))] ⟨rfl, trivial⟩
  refine then_normal ?_
  refine wp_ret ?_
  exact res_all (vs := [.int .i64 (f.n : Int)]) rfl bG ⟨res_of_tmp bG rfl, trivial⟩ dS
def dom_Dom_node.vc (b : Addr) (d : Int) (R : Value → World → Prop) (w : World) : Prop :=
∃ (j : Option Nat), (w.cell? (b.add 1) = some (.map j)) ∧
∃ (c : Int) (f : Bool), ((Instr.lookup 68 (.map j) (.int .i64 d) true).run Try.prog w = .ok (.tuple #[.int .i64 c, .bool f]) w) ∧
((f = false) →
R (.pointer none) w) ∧
((f = true) →
∃ (h : Sl), (w.cell? (b.add 0) = some (Sl.v h)) ∧
((0 : Int) ≤ c ∧ c < (h.n : Int)) ∧ ∃ g : Addr, h.a = some g ∧
R (.pointer (some (g.add (c.toNat * 8)))) w)
theorem dom_Dom_node.ok (b : Addr) (d : Int) {R : Value → World → Prop} {w : World} (m : dom_Dom_node.vc b d R w) : Calls Try.prog 45 #[.pointer (some b), .int .i64 d] w (Ret R) := by
 refine enter [.pointer (some b), .int .i64 d] Try.func45 rfl Try.ntmps45 rfl ?_
 intro a0 am
 unfold dom_Dom_node.vc at m
 refine wp_seq (wp_region_lit ?_)
 refine sqv am rfl (r_assign rfl) fun _ an => ?_
 refine sq_end ?_
 have o := an.keep [(0, .pointer (some b)), (1, .int .i64 d)] ⟨rfl, rfl, trivial⟩
 refine then_normal (wp_seq (wp_region_lit ?_))
 refine sqv o rfl (r_move (o.get rfl)) fun _ p => ?_
 refine sqv p rfl (r_nilCheck (p.get rfl)) fun _ q => ?_
 refine sqv q rfl (r_fieldAddr (q.get rfl) Try.underlying71 rfl ti_68 (by decide)) fun _ r => ?_
 obtain ⟨j, ao, ap⟩ := m
 refine sqv r rfl (r_load1 Try.underlying68 rfl (r.get rfl) ao) fun _ s => ?_
 refine sqv s rfl (r_move (s.get rfl)) fun _ k => ?_
 obtain ⟨c, f, aq, t⟩ := ap
 refine sqv k rfl (r_lookup (k.get rfl) (k.get rfl) aq) fun _ u => ?_
 refine sqv u rfl (r_move (u.get rfl)) fun _ x => ?_
 refine sqv x rfl (r_extract (x.get rfl) rfl) fun _ y => ?_
 refine sqv y rfl (r_extract (y.get rfl) rfl) fun _ z => ?_
 refine sqv z rfl (r_assign (z.get rfl)) fun _ aa => ?_
 refine sqv aa rfl (r_assign (aa.get rfl)) fun _ ar => ?_
 refine sq_end ?_
 have ab := ar.keep [(0, .pointer (some b)), (5, .int .i64 c), (6, .bool f)] ⟨rfl, rfl, rfl, trivial⟩
 refine then_normal (wp_seq (wp_seq (wp_region_lit ?_)))
 refine sqv ab rfl (r_move (ab.get rfl)) fun _ ad => ?_
 refine sqv ad rfl (r_not (ad.get rfl)) fun _ au => ?_
 refine sq_end ?_
 have i := au.keep [(0, .pointer (some b)), (5, .int .i64 c), (17, .bool (!f))] ⟨rfl, rfl, rfl, trivial⟩
 refine then_normal ?_
 refine wp_cond_split (i.get rfl) (fun hc => ?_) (fun hc => ?_)
 ·have av := t.1 (b_not_t hc)
  clear hc
  refine wp_seq (wp_region_lit ?_)
  refine sqv i rfl (r_assign rfl) fun _ ax => ?_
  refine sq_end ?_
  have af := ax.keep [(4, .pointer none)] ⟨rfl, trivial⟩
  refine then_normal ?_
  refine wp_ret ?_
  refine then_ret ?_
  exact res_all (vs := [.pointer none]) rfl af ⟨res_of_tmp af rfl, trivial⟩ av
 ·have ay := t.2 (b_not_f hc)
  clear hc
  refine wp_skip ?_
  refine then_normal (wp_seq (wp_region_lit ?_))
  refine sqv i rfl (r_move (i.get rfl)) fun _ ag => ?_
  refine sqv ag rfl (r_nilCheck (ag.get rfl)) fun _ ah => ?_
  refine sqv ah rfl (r_fieldAddr (ah.get rfl) Try.underlying71 rfl ti_69 (by decide)) fun _ ai => ?_
  obtain ⟨h, az, aA⟩ := ay
  refine sqv ai rfl (r_load1 Try.underlying69 rfl (ai.get rfl) az) fun _ aj => ?_
  refine sqv aj rfl (r_move (aj.get rfl)) fun _ l => ?_
  obtain ⟨aB, g, aC, aD⟩ := aA
  refine sqv l rfl (r_indexAddr (l.get rfl) (l.get rfl) Try.underlying69 ti_76 aB aC) fun _ ak => ?_
  refine sqv ak rfl (r_assign (ak.get rfl)) fun _ aF => ?_
  refine sq_end ?_
  have al := aF.keep [(4, .pointer (some (g.add (c.toNat * 8))))] ⟨rfl, trivial⟩
  refine then_normal ?_
  refine wp_ret ?_
  exact res_all (vs := [.pointer (some (g.add (c.toNat * 8)))]) rfl al ⟨res_of_tmp al rfl, trivial⟩ aD
def dom_node_holds.vc (d : Addr) (b : Int) (R : Value → World → Prop) (w : World) : Prop :=
∃ (a : Int), (w.cell? ((d.add 2).add 0) = some (.int .i64 a)) ∧
∃ (c : Int), (((¬ (a = 1))) → w.cell? ((d.add 2).add 0) = some (.int .i64 c)) ∧
R (.bool ((decide (a = 1)) || ((decide (c = 2)) && (decide (b ≠ 5))))) w
theorem dom_node_holds.ok (d : Addr) (b : Int) {R : Value → World → Prop} {w : World} (i : dom_node_holds.vc d b R w) : Calls Try.prog 46 #[.pointer (some d), .int .i64 b] w (Ret R) := by
 refine enter [.pointer (some d), .int .i64 b] Try.func46 rfl Try.ntmps46 rfl ?_
 intro a0 ad
 unfold dom_node_holds.vc at i
 refine wp_seq (wp_region_lit ?_)
 refine sqv ad rfl (r_assign rfl) fun _ af => ?_
 refine sq_end ?_
 have j := af.keep [(0, .pointer (some d)), (1, .int .i64 b)] ⟨rfl, rfl, trivial⟩
 refine then_normal (wp_seq (wp_region_lit ?_))
 refine sqv j rfl (r_move (j.get rfl)) fun _ k => ?_
 refine sqv k rfl (r_nilCheck (k.get rfl)) fun _ l => ?_
 refine sqv l rfl (r_fieldAddr (l.get rfl) Try.underlying76 rfl ti_29 (by decide)) fun _ m => ?_
 refine sqv m rfl (r_fieldAddr (m.get rfl) Try.underlying29 rfl ti_3 (by decide)) fun _ n => ?_
 obtain ⟨a, ag, ah⟩ := i
 refine sqv n rfl (r_load1 Try.underlying3 rfl (n.get rfl) ag) fun _ o => ?_
 refine sqv o rfl (r_eql (o.get rfl) rfl) fun _ p => ?_
 refine sqv p rfl (r_move (p.get rfl)) fun _ q => ?_
 refine sq (opk_gval q rfl rfl (g := true) (e := (decide (a = 1))) rfl (fun hg => r_move (q.get rfl)) fun am r _ => ?_)
 refine sq (opk_gval r rfl rfl (g := true) (e := (decide (a = 1))) rfl (fun hg => r_nilCheck (cv_get (r.get rfl) hg)) fun an s _ => ?_)
 refine sq (opk_gval s rfl rfl (g := true) (e := (decide (a = 1))) rfl (fun hg => r_fieldAddr (cv_get (s.get rfl) hg) Try.underlying76 rfl ti_29 (by decide)) fun ao t _ => ?_)
 refine sq (opk_gval t rfl rfl (g := true) (e := (decide (a = 1))) rfl (fun hg => r_fieldAddr (cv_get (t.get rfl) hg) Try.underlying29 rfl ti_3 (by decide)) fun ap u _ => ?_)
 obtain ⟨c, ai, aj⟩ := ah
 refine sq (opk_gval u rfl rfl (g := true) (e := (decide (a = 1))) rfl (fun hg => r_load1 Try.underlying3 rfl (cv_get (u.get rfl) hg) (ai (of_decide_eq_false (g_f hg)))) fun aq v _ => ?_)
 refine sq (opk_gval v rfl rfl (g := true) (e := (decide (a = 1))) rfl (fun hg => r_eql (cv_get (v.get rfl) hg) rfl) fun ar x _ => ?_)
 refine sq (opk_gval x rfl rfl (g := true) (e := (decide (a = 1))) rfl (fun hg => r_move (cv_get (x.get rfl) hg)) fun au y _ => ?_)
 refine sq (opk_gval y rfl rfl (g := (true && ((decide (a = 1)) == false))) (e := (decide (c = 2))) rfl (fun hg => r_move (y.get rfl)) fun av z _ => ?_)
 refine sq (opk_gval z rfl rfl (g := (true && ((decide (a = 1)) == false))) (e := (decide (c = 2))) rfl (fun hg => r_neq (cv_get (z.get rfl) hg) rfl) fun ax f _ => ?_)
 refine sq (opk_gval f rfl rfl (g := true) (e := (decide (a = 1))) rfl (fun hg => r_pick_and (g := ((true && ((decide (a = 1)) == false)) && ((decide (c = 2)) == true))) (cv_get (f.get rfl) hg) (f.get rfl) (fun he => g_mkt hg he)) fun ay h _ => ?_)
 refine sqv h rfl (r_pick_or (g := (true && ((decide (a = 1)) == false))) (h.get rfl) (h.get rfl) (fun he => g_mkf rfl he)) fun _ aa => ?_
 refine sqv aa rfl (r_assign (aa.get rfl)) fun _ ak => ?_
 refine sq_end ?_
 have ab := ak.keep [(4, .bool ((decide (a = 1)) || ((decide (c = 2)) && (decide (b ≠ 5)))))] ⟨rfl, trivial⟩
 refine then_normal ?_
 refine wp_ret ?_
 exact res_all (vs := [.bool ((decide (a = 1)) || ((decide (c = 2)) && (decide (b ≠ 5))))]) rfl ab ⟨res_of_tmp ab rfl, trivial⟩ aj
def dom_Dom_level.vc (b : Addr) (f : Int) (R : Value → World → Prop) (w : World) : Prop :=
∃ (h : Int → Int → World → Prop) (k : Int → Int → World → Nat),
h f 0 w ∧
(∀ (d : Int) (c : Int) (i : World), h d c i →
CallK Try.prog 23 #[.pointer (some b), .int .i64 d] i [] (fun v n => ∃ (j : Bool), v = .bool j ∧
((j = true) →
(I64 (c + 1)) ∧
CallK Try.prog 33 #[.pointer (some b), .int .i64 d] n [] (fun v l => ∃ (g : Int), v = .int .i64 g ∧
h g (c + 1) l ∧ k g (c + 1) l < k d c i)) ∧
((j = false) →
R (.int .i64 c) n)))
theorem dom_Dom_level.ok (b : Addr) (f : Int) {R : Value → World → Prop} {w : World} (q : dom_Dom_level.vc b f R w) : Calls Try.prog 47 #[.pointer (some b), .int .i64 f] w (Ret R) := by
 refine enter [.pointer (some b), .int .i64 f] Try.func47 rfl Try.ntmps47 rfl ?_
 intro a0 ai
 unfold dom_Dom_level.vc at q
 refine wp_seq (wp_region_lit ?_)
 refine sqv ai rfl (r_assign rfl) fun _ aj => ?_
 refine sq_end ?_
 have ak := aj.keep [(0, .pointer (some b)), (1, .int .i64 f)] ⟨rfl, rfl, trivial⟩
 refine then_normal (wp_seq (wp_region_lit ?_))
 refine sqv ak rfl (r_assign rfl) fun _ al => ?_
 refine sq_end ?_
 have am := al.keep [(0, .pointer (some b)), (1, .int .i64 f), (5, .int .i64 0)] ⟨rfl, rfl, rfl, trivial⟩
 refine then_normal (wp_seq (wp_block ?_))
 obtain ⟨h, k, an, ao⟩ := q
 refine wp_loop_st (σ := Int × Int × World) (fun s a w => Ag 15 a [(0, .pointer (some b)), (1, .int .i64 s.1), (5, .int .i64 s.2.1)] ∧ w = s.2.2 ∧ h s.1 s.2.1 s.2.2) (fun s => k s.1 s.2.1 s.2.2) (f, 0, w) ⟨am.keep [(0, .pointer (some b)), (1, .int .i64 f), (5, .int .i64 0)] ⟨rfl, rfl, rfl, trivial⟩, rfl, an⟩ ?_
 rintro ⟨d, c, i⟩ aI w_ ⟨r, hw_, ap⟩
 have hw_ : i = w_ := hw_.symm
 subst hw_
 have aq := ao d c _ ap
 refine wp_seq (wp_seq (wp_region_lit ?_))
 refine sqv r rfl (r_move (r.get rfl)) fun _ t => ?_
 refine sqv t rfl (r_move (t.get rfl)) fun _ o => ?_
 refine sq (opk_call o rfl (r_call (args := #[.pointer (some b), .int .i64 d]) Try.func23 (by decide) rfl (map_arr (ml_cons (o.get rfl) (ml_cons (o.get rfl) ml_nil))) rfl) aq fun aJ aK n ar _ aL aM au => ?_)
 obtain ⟨j, rfl, u⟩ := au
 refine sq_end ?_
 have m := ar.keep [(0, .pointer (some b)), (1, .int .i64 d), (5, .int .i64 c), (8, .bool j)] ⟨rfl, rfl, rfl, rfl, trivial⟩
 refine then_normal ?_
 refine wp_cond_split (m.get rfl) (fun hc => ?_) (fun hc => ?_)
 ·have av := u.1 hc
  clear hc
  refine wp_skip ?_
  refine then_normal (wp_block (wp_seq (wp_region_lit ?_)))
  refine sqv m rfl (r_move (m.get rfl)) fun _ x => ?_
  obtain ⟨ax, ay⟩ := av
  refine sqv x rfl (r_addI (x.get rfl) rfl ax) fun _ y => ?_
  refine sqv y rfl (r_assign (y.get rfl)) fun _ az => ?_
  refine sq_end ?_
  have z := az.keep [(0, .pointer (some b)), (1, .int .i64 d), (5, .int .i64 (c + 1))] ⟨rfl, rfl, rfl, trivial⟩
  refine then_normal (wp_region_lit ?_)
  refine sqv z rfl (r_move (z.get rfl)) fun _ aa => ?_
  refine sqv aa rfl (r_move (aa.get rfl)) fun _ p => ?_
  refine sq (opk_call p rfl (r_call (args := #[.pointer (some b), .int .i64 d]) Try.func33 (by decide) rfl (map_arr (ml_cons (p.get rfl) (ml_cons (p.get rfl) ml_nil))) rfl) ay fun aN aO l ab _ aP aQ aA => ?_)
  obtain ⟨g, rfl, ad⟩ := aA
  refine sqv ab rfl (r_assign (ab.get rfl)) fun _ aB => ?_
  refine sq_end ?_
  have aC := aB.keep [(0, .pointer (some b)), (1, .int .i64 g), (5, .int .i64 (c + 1))] ⟨rfl, rfl, rfl, trivial⟩
  refine block_normal ?_
  have aD := aC.keep [(0, .pointer (some b)), (1, .int .i64 g), (5, .int .i64 (c + 1))] ⟨rfl, rfl, rfl, trivial⟩
  exact then_normal ⟨(g, c + 1, l), ⟨aD, rfl, ad.1⟩, ad.2⟩
 ·have aF := u.2 hc
  clear hc
  refine wp_exit ?_
  refine then_exit ?_
  refine then_exit ?_
  refine block_hit ?_
  have af := m.keep [(5, .int .i64 c)] ⟨rfl, trivial⟩
  refine then_normal (wp_seq (wp_region_lit ?_))
  refine sqv af rfl (r_move (af.get rfl)) fun _ ag => ?_
  refine sqv ag rfl (r_assign (ag.get rfl)) fun _ aG => ?_
  refine sq_end ?_
  have ah := aG.keep [(4, .int .i64 c)] ⟨rfl, trivial⟩
  refine then_normal ?_
  refine wp_ret ?_
  exact res_all (vs := [.int .i64 c]) rfl ah ⟨res_of_tmp ah rfl, trivial⟩ aF
def dom_Dom_put.vc (d : Addr) (f : Int) (g : Int) (k : Int) (l : Str) (m : Str) (t : Sl) (ai : Sl) (R : Value → World → Prop) (w : World) : Prop :=
∀ (ab : World) (j : Nat), New w j ab → Chg [] w ab →
CallK Try.prog 64 #[Sl.v t] ab [j] (fun v ap => ∃ (o : Sl), v = Sl.v o ∧
∀ (u : World), Chg [j] ap u →
∃ (aj : Option Nat), (u.cell? (d.add 1) = some (.map aj)) ∧
∃ (x : Sl), (u.cell? (d.add 0) = some (Sl.v x)) ∧
∀ (ak : World), Chg [] u ak →
RunU Try.prog (Instr.mapUpdate 68 (.map aj) (.int .i64 f) (.int .i64 (x.n : Int))) ak [j] (fun aq =>
∀ (s : World), Chg [] aq s →
∃ (y : Sl), (s.cell? (d.add 0) = some (Sl.v y)) ∧
∀ (z : World) (p : Nat), Ext s z → s.heap.size ≤ p → Box z p 76 [.int .i64 f, .int .i64 g, .int .i64 k, .string (Bs l), .string (Bs m), Sl.v o, Sl.v Sl.nil, Sl.v Sl.nil] → 
∀ (_ : Box z p 76 [.int .i64 f, .int .i64 g, .int .i64 k, .string (Bs l), .string (Bs m), Sl.v o, Sl.v Sl.nil, Sl.v Sl.nil]),
RunK Try.prog (Builtin.append_ #[69, 69] 69 #[Sl.v y, Sl.v (Sl.mk (some ⟨p, 0, none⟩) 1 1)]) z [j] (fun v ar => ∃ (aa : Sl), v = Sl.v aa ∧
∀ (ad : World), Chg [] ar ad →
∀ (af : World), Chg [] ad af →
∃ (ah am : Nat) (au : TypeId) (an : List Value), (d.add 0) = ⟨ah, am, none⟩ ∧ Box af ah au an ∧ am + 1 ≤ an.length ∧ (∀ b ∈ [j], b ≠ ah) ∧
(∀ al : World, Chg [ah] af al → Box al ah au (putAt an am [Sl.v aa]) →
R (.tuple #[]) al))))
theorem dom_Dom_put.ok (d : Addr) (f : Int) (g : Int) (k : Int) (l : Str) (m : Str) (t : Sl) (ai : Sl) {R : Value → World → Prop} {w : World} (aG : dom_Dom_put.vc d f g k l m t ai R w) : Calls Try.prog 48 #[.pointer (some d), .int .i64 f, .int .i64 g, .agg #[.int .i64 k, .string (Bs l), .string (Bs m), Sl.v t, Sl.v ai]] w (Ret R) := by
 refine enter [.pointer (some d), .int .i64 f, .int .i64 g, .agg #[.int .i64 k, .string (Bs l), .string (Bs m), Sl.v t, Sl.v ai]] Try.func48 rfl Try.ntmps48 rfl ?_
 intro a0 aH
 unfold dom_Dom_put.vc at aG
 refine wp_seq (wp_region_lit ?_)
 refine sq (opk_new (fun B => .pointer (some ⟨B, 0, none⟩)) aH rfl (r_box (cs := [.int .i64 k, .string (Bs l), .string (Bs m), Sl.v t, Sl.v ai]) (aH.get rfl) rfl) fun a7 w6 j hE8 a8 aJ a9 _ => ?_)
 have aK : New w j w6 := a8
 have ba : Chg [] w w6 := hE8
 refine sq_end ?_
 have aL := a9.keep [(0, .pointer (some d)), (1, .int .i64 f), (2, .int .i64 g), (7, .pointer (some (⟨j, 0, none⟩ : Addr)))] ⟨rfl, rfl, rfl, rfl, trivial⟩
 refine then_normal (wp_seq (wp_region_lit ?_))
 refine sqv aL rfl (r_fieldAddr (aL.get rfl) Try.underlying29 rfl ti_27 (by decide)) fun _ aM => ?_
 refine sq (opk_store aM aJ (r_store (vs := [Sl.v Sl.nil]) (aM.get rfl) rfl rfl ti_27 aJ rfl (ones_all [Sl.v Sl.nil] rfl)) fun cX ab aN bb bd => ?_)
 have aO : Box ab j 29 [.int .i64 k, .string (Bs l), .string (Bs m), Sl.v t, Sl.v Sl.nil] := bb
 have bf := ba.storeNew aK aN
 have bg := aK.up aN.size
 refine sq_end ?_
 have aP := bd.keep [(0, .pointer (some d)), (1, .int .i64 f), (2, .int .i64 g), (7, .pointer (some (⟨j, 0, none⟩ : Addr)))] ⟨rfl, rfl, rfl, rfl, trivial⟩
 refine then_normal (wp_seq (wp_region_lit ?_))
 refine sqv aP rfl (r_fieldAddr (aP.get rfl) Try.underlying29 rfl ti_26 (by decide)) fun _ aQ => ?_
 refine sqv aQ rfl (r_load1 Try.underlying26 rfl (aQ.get rfl) (aO.cell 3 _ rfl)) fun _ aR => ?_
 have bh := aG ab j bg  bf
 refine sq (opk_call aR rfl (r_call (args := #[Sl.v t]) Try.func64 (by decide) rfl (map_arr (ml_cons (aR.get rfl) ml_nil)) rfl) bh fun cY cZ ap aS _ bi c0 bj => ?_)
 obtain ⟨o, rfl, bk⟩ := bj
 have aT := aO.kept bi (.head _)
 refine sqv aS rfl (r_fieldAddr (aS.get rfl) Try.underlying29 rfl ti_26 (by decide)) fun _ av => ?_
 refine sq (opk_store av aT (r_store (vs := [Sl.v o]) (av.get rfl) (av.get rfl) rfl ti_26 aT rfl (ones_all [Sl.v o] rfl)) fun c1 aU bl bm bn => ?_)
 have bo : Box aU j 29 [.int .i64 k, .string (Bs l), .string (Bs m), Sl.v o, Sl.v Sl.nil] := bm
 have bp : Chg [j] ap aU := bl
 refine sq_end ?_
 have q := bn.keep [(0, .pointer (some d)), (1, .int .i64 f), (2, .int .i64 g), (7, .pointer (some (⟨j, 0, none⟩ : Addr)))] ⟨rfl, rfl, rfl, rfl, trivial⟩
 refine then_normal (wp_seq ?_)
 refine draw' (by kernel_rfl) fun u aV => ?_
 have bq := bo.ext aV
 have br := bp.more aV
 have bs := bk u    br
 obtain ⟨aj, bt, bu⟩ := bs
 obtain ⟨x, bv, bx⟩ := bu
 refine par (D := [[], [0], [0, 1], [0, 1, 2], [], [], [5], [5, 6], [5, 6, 7], [5, 6, 7, 8], [0, 1, 2, 3, 4, 5, 6, 7, 8, 9]]) (S := [0, 1, 2, 3, 4, 5, 6, 7, 8, 9]) (F := []) (V := VL [(0, fun v _ => v = .pointer (some d)), (1, fun v _ => v = .pointer (some d)), (2, fun v _ => v = .pointer (some (d.add 1))), (3, fun v _ => v = .map aj), (4, fun v _ => v = .int .i64 f), (5, fun v _ => v = .pointer (some d)), (6, fun v _ => v = .pointer (some d)), (7, fun v _ => v = .pointer (some (d.add 0))), (8, fun v _ => v = Sl.v x), (9, fun v _ => v = .int .i64 (x.n : Int))]) q (by kernel_rfl) ⟨fun _ _ _ _ h => h, fun _ _ _ _ h => h, fun _ _ _ _ h => h, fun _ _ _ _ h => h, fun _ _ _ _ h => h, fun _ _ _ _ h => h, fun _ _ _ _ h => h, fun _ _ _ _ h => h, fun _ _ _ _ h => h, fun _ _ _ _ h => h, trivial⟩ ⟨?_, ?_, ?_, ?_, ?_, ?_, ?_, ?_, ?_, ?_, trivial⟩ ?_
 ·intro a w hT
  have hAp := hT.ag q [(0, .pointer (some d))] ⟨rfl, trivial⟩ (by kernel_rfl)
  exact ovr hAp rfl (r_move (hAp.get rfl)) fun _ => Eq.refl _
 ·intro a w hT
  have hAp := hT.ag q [] trivial (by kernel_rfl)
  have bz : a.tmps.getD 13 undef = .pointer (some d) := hT.vals 0 rfl 13 rfl
  have hAp := hAp.add bz
  exact ovr hAp rfl (r_nilCheck (hAp.get rfl)) fun _ => Eq.refl _
 ·intro a w hT
  have hAp := hT.ag q [] trivial (by kernel_rfl)
  have bA : a.tmps.getD 14 undef = .pointer (some d) := hT.vals 1 rfl 14 rfl
  have hAp := hAp.add bA
  exact ovr hAp rfl (r_fieldAddr (hAp.get rfl) Try.underlying71 rfl ti_68 (by decide)) fun _ => Eq.refl _
 ·intro a w hT
  have hAp := hT.ag q [] trivial (by kernel_rfl)
  have bB : a.tmps.getD 15 undef = .pointer (some (d.add 1)) := hT.vals 2 rfl 15 rfl
  have hAp := hAp.add bB
  exact ovr hAp rfl (r_load1 Try.underlying68 rfl (hAp.get rfl) (Ext.cell hT.chg bt)) fun _ => Eq.refl _
 ·intro a w hT
  have hAp := hT.ag q [(1, .int .i64 f)] ⟨rfl, trivial⟩ (by kernel_rfl)
  exact ovr hAp rfl (r_move (hAp.get rfl)) fun _ => Eq.refl _
 ·intro a w hT
  have hAp := hT.ag q [(0, .pointer (some d))] ⟨rfl, trivial⟩ (by kernel_rfl)
  exact ovr hAp rfl (r_move (hAp.get rfl)) fun _ => Eq.refl _
 ·intro a w hT
  have hAp := hT.ag q [] trivial (by kernel_rfl)
  have bC : a.tmps.getD 18 undef = .pointer (some d) := hT.vals 5 rfl 18 rfl
  have hAp := hAp.add bC
  exact ovr hAp rfl (r_nilCheck (hAp.get rfl)) fun _ => Eq.refl _
 ·intro a w hT
  have hAp := hT.ag q [] trivial (by kernel_rfl)
  have bD : a.tmps.getD 19 undef = .pointer (some d) := hT.vals 6 rfl 19 rfl
  have hAp := hAp.add bD
  exact ovr hAp rfl (r_fieldAddr (hAp.get rfl) Try.underlying71 rfl ti_69 (by decide)) fun _ => Eq.refl _
 ·intro a w hT
  have hAp := hT.ag q [] trivial (by kernel_rfl)
  have bF : a.tmps.getD 20 undef = .pointer (some (d.add 0)) := hT.vals 7 rfl 20 rfl
  have hAp := hAp.add bF
  exact ovr hAp rfl (r_load1 Try.underlying69 rfl (hAp.get rfl) (Ext.cell hT.chg bv)) fun _ => Eq.refl _
 ·intro a w hT
  have hAp := hT.ag q [] trivial (by kernel_rfl)
  have bG : a.tmps.getD 21 undef = Sl.v x := hT.vals 8 rfl 21 rfl
  have hAp := hAp.add bG
  exact ovr hAp rfl (r_len (hAp.get rfl) Try.underlying69) fun _ => Eq.refl _
 ·intro ax ak aX bH ay
  have bI := bH [(0, .pointer (some d)), (1, .int .i64 f), (2, .int .i64 g), (7, .pointer (some (⟨j, 0, none⟩ : Addr)))] ⟨rfl, rfl, rfl, rfl, trivial⟩ (by kernel_rfl)
  have bJ : ax.tmps.getD 16 undef = .map aj := ay 3 rfl 16 rfl
  have bK := bI.add bJ
  have bL : ax.tmps.getD 17 undef = .int .i64 f := ay 4 rfl 17 rfl
  have bM := bK.add bL
  have bN : ax.tmps.getD 22 undef = .int .i64 (x.n : Int) := ay 9 rfl 22 rfl
  have ao := bM.add bN
  have bO := bq.ext aX
  have bP : Chg [] u ak := aX
  have bQ := bx ak    bP
  refine one (D := [[], [0], [0, 1], [0, 1, 2], [], [], [5], [5, 6], [5, 6, 7], [5, 6, 7, 8], [0, 1, 2, 3, 4, 5, 6, 7, 8, 9]]) (i := 10) rfl (by kernel_rfl) (opk_runU ao (fun _ hr => r_mapUpdate (ao.get rfl) (ao.get rfl) (ao.get rfl) hr) bQ fun c2 aq bR bS c3 bT => ?_)
  have bU := bO.kept bS (.head _)
  refine PR_end (by kernel_rfl) ?_
  have r := bR.keep [(0, .pointer (some d)), (1, .int .i64 f), (2, .int .i64 g), (7, .pointer (some (⟨j, 0, none⟩ : Addr)))] ⟨rfl, rfl, rfl, rfl, trivial⟩
  refine then_normal ?_
  refine draw' (by kernel_rfl) fun s aY => ?_
  have az := bU.ext aY
  have bV : Chg [] aq s := aY
  have bX := bT s    bV
  refine startF (D := [[], [], [1], [1, 2], [1, 2, 3], [], [], [], [5, 6, 7], [5, 6, 7, 8], [1, 2, 3, 4, 5, 6, 7, 8, 9], [0, 1, 2, 3, 4, 5, 6, 7, 8, 9, 10], [0, 1, 2, 3, 4, 5, 6, 7, 8, 9, 10, 11], [0, 1, 2, 3, 4, 5, 6, 7, 8, 9, 10, 11, 12]]) (Fs := [0, 1, 5, 6, 7, 8]) (Ef := [(0, fun v _ => v = .pointer (some d)), (1, fun v _ => v = .pointer (some d)), (5, fun v _ => v = .int .i64 f), (6, fun v _ => v = .int .i64 g), (7, fun v _ => v = .agg #[.int .i64 k, .string (Bs l), .string (Bs m), Sl.v o, Sl.v Sl.nil]), (8, fun v _ => v = .agg #[.int .i64 f, .int .i64 g, .int .i64 k, .string (Bs l), .string (Bs m), Sl.v o, Sl.v Sl.nil, Sl.v Sl.nil])]) (by kernel_rfl) ?_
  obtain ⟨y, bY, bZ⟩ := bX
  refine parF (D := [[], [], [1], [1, 2], [1, 2, 3], [], [], [], [5, 6, 7], [5, 6, 7, 8], [1, 2, 3, 4, 5, 6, 7, 8, 9], [0, 1, 2, 3, 4, 5, 6, 7, 8, 9, 10], [0, 1, 2, 3, 4, 5, 6, 7, 8, 9, 10, 11], [0, 1, 2, 3, 4, 5, 6, 7, 8, 9, 10, 11, 12]]) (S := [2, 3, 4, 9]) (F := []) (KE := [2, 3, 4, 9]) (E := [(2, fun v _ => v = .pointer (some d)), (3, fun v _ => v = .pointer (some (d.add 0))), (4, fun v _ => v = Sl.v y), (9, fun v w' => ∃ p : Nat, s.heap.size ≤ p ∧ Box w' p 76 [.int .i64 f, .int .i64 g, .int .i64 k, .string (Bs l), .string (Bs m), Sl.v o, Sl.v Sl.nil, Sl.v Sl.nil] ∧ v = Sl.v (Sl.mk (some ⟨p, 0, none⟩) 1 1))]) r rfl (by kernel_rfl) ⟨fun _ _ _ _ h => h, fun _ _ _ _ h => h, fun _ _ _ _ h => h, fun _ _ _ hE ⟨p, h0_, h1_, e⟩ => ⟨p, h0_, (h1_.ext hE), e⟩, fun _ _ _ _ h => h, fun _ _ _ _ h => h, fun _ _ _ _ h => h, fun _ _ _ _ h => h, fun _ _ _ _ h => h, fun _ _ _ _ h => h, trivial⟩ ⟨?_, ?_, ?_, ?_, ?_, ?_, ?_, ?_, ?_, ?_, trivial⟩ ?_
  ·intro a w hT
   have hAp := hT.ag r [] trivial (by kernel_rfl)
   have b0 : a.tmps.getD 24 undef = .pointer (some d) := hT.vals 1 rfl 24 rfl
   have hAp := hAp.add b0
   exact ovr hAp rfl (r_nilCheck (hAp.get rfl)) fun _ => Eq.refl _
  ·intro a w hT
   have hAp := hT.ag r [] trivial (by kernel_rfl)
   have b1 : a.tmps.getD 25 undef = .pointer (some d) := hT.vals 2 rfl 25 rfl
   have hAp := hAp.add b1
   exact ovr hAp rfl (r_fieldAddr (hAp.get rfl) Try.underlying71 rfl ti_69 (by decide)) fun _ => Eq.refl _
  ·intro a w hT
   have hAp := hT.ag r [] trivial (by kernel_rfl)
   have b2 : a.tmps.getD 26 undef = .pointer (some (d.add 0)) := hT.vals 3 rfl 26 rfl
   have hAp := hAp.add b2
   exact ovr hAp rfl (r_load1 Try.underlying69 rfl (hAp.get rfl) (Ext.cell hT.chg bY)) fun _ => Eq.refl _
  ·intro a w hT
   have hAp := hT.ag r [] trivial (by kernel_rfl)
   have b3 : a.tmps.getD 31 undef = .agg #[.int .i64 f, .int .i64 g, .int .i64 k, .string (Bs l), .string (Bs m), Sl.v o, Sl.v Sl.nil, Sl.v Sl.nil] := hT.vals 8 rfl 31 rfl
   have hAp := hAp.add b3
   exact opk_new (fun B => .slice (some ⟨B, 0, none⟩) 1 1) hAp rfl (r_buildSlice (vs := #[(0, .agg #[.int .i64 f, .int .i64 g, .int .i64 k, .string (Bs l), .string (Bs m), Sl.v o, Sl.v Sl.nil, Sl.v Sl.nil])]) (cs := [.int .i64 f, .int .i64 g, .int .i64 k, .string (Bs l), .string (Bs m), Sl.v o, Sl.v Sl.nil, Sl.v Sl.nil]) (map_arr2 (ml2_cons (hAp.get rfl) (ml2_nil))) Try.underlying69 ti_76 rfl rfl (by kernel_rfl)) fun _ c4 p b4 b5 b6 _ e => ⟨_, e, b4, fun _ => ⟨p, Nat.le_trans hT.chg.size b5.ge, b6, rfl⟩⟩
  ·intro a w hT
   have hAp := hT.ag r [(0, .pointer (some d))] ⟨rfl, trivial⟩ (by kernel_rfl)
   exact ovr hAp rfl (r_move (hAp.get rfl)) fun _ => Eq.refl _
  ·intro a w hT
   have hAp := hT.ag r [(0, .pointer (some d))] ⟨rfl, trivial⟩ (by kernel_rfl)
   exact ovr hAp rfl (r_move (hAp.get rfl)) fun _ => Eq.refl _
  ·intro a w hT
   have hAp := hT.ag r [(1, .int .i64 f)] ⟨rfl, trivial⟩ (by kernel_rfl)
   exact ovr hAp rfl (r_move (hAp.get rfl)) fun _ => Eq.refl _
  ·intro a w hT
   have hAp := hT.ag r [(2, .int .i64 g)] ⟨rfl, trivial⟩ (by kernel_rfl)
   exact ovr hAp rfl (r_move (hAp.get rfl)) fun _ => Eq.refl _
  ·intro a w hT
   have hAp := hT.ag r [(7, .pointer (some (⟨j, 0, none⟩ : Addr)))] ⟨rfl, trivial⟩ (by kernel_rfl)
   exact ovr hAp rfl (r_loadN (cs := [.int .i64 k, .string (Bs l), .string (Bs m), Sl.v o, Sl.v Sl.nil]) Try.underlying29 rfl ti_29 (hAp.get rfl) ((az.ext hT.chg).part 0 _ rfl)) fun _ => Eq.refl _
  ·intro a w hT
   have hAp := hT.ag r [] trivial (by kernel_rfl)
   have b7 : a.tmps.getD 28 undef = .int .i64 f := hT.vals 5 rfl 28 rfl
   have hAp := hAp.add b7
   have b8 : a.tmps.getD 29 undef = .int .i64 g := hT.vals 6 rfl 29 rfl
   have hAp := hAp.add b8
   have b9 : a.tmps.getD 30 undef = .agg #[.int .i64 k, .string (Bs l), .string (Bs m), Sl.v o, Sl.v Sl.nil] := hT.vals 7 rfl 30 rfl
   have hAp := hAp.add b9
   exact ovr hAp rfl (r_build (vs := #[(0, .int .i64 f), (1, .int .i64 g), (2, .agg #[.int .i64 k, .string (Bs l), .string (Bs m), Sl.v o, Sl.v Sl.nil])]) (cells := #[.int .i64 f, .int .i64 g, .int .i64 k, .string (Bs l), .string (Bs m), Sl.v o, Sl.v Sl.nil, Sl.v Sl.nil]) (map_arr2 (ml2_cons (hAp.get rfl) (ml2_cons (hAp.get rfl) (ml2_cons (hAp.get rfl) (ml2_nil))))) ti_76 Try.underlying76 pl_76 (by kernel_rfl)) fun _ => Eq.refl _
  ·intro ca z aA cb aZ
   have cc := cb [(0, .pointer (some d)), (1, .int .i64 f), (2, .int .i64 g), (7, .pointer (some (⟨j, 0, none⟩ : Addr)))] ⟨rfl, rfl, rfl, rfl, trivial⟩ (by kernel_rfl)
   have cd : ca.tmps.getD 27 undef = Sl.v y := aZ 4 rfl 27 rfl
   have cf := cc.add cd
   obtain ⟨p, hf113, a1, cg⟩ := aZ 9 rfl 32 rfl
   have ch := cf.add cg
   have ci := az.ext aA
   have c5 : Chg [] s z := aA
   have cj := bZ z p aA hf113 a1
   have c6 : j ≠ p := Nat.ne_of_lt (Nat.lt_of_lt_of_le az.lt hf113)
   refine PRF_drop (X := [1, 5, 6, 7, 8]) (Fs' := [0]) ch (by kernel_rfl) fun c7 ck c8 => ?_
   have aB := ck [(0, .pointer (some d)), (27, Sl.v y), (32, Sl.v (Sl.mk (some ⟨p, 0, none⟩) 1 1))] ⟨rfl, rfl, rfl, trivial⟩ (by kernel_rfl)
   refine oneF (c := 10) aB rfl (by kernel_rfl) (constF ⟨fun _ _ _ h => h, trivial⟩) ⟨?_, trivial⟩ ?_
   ·intro a hT
    have hAp := hT.ag aB [(0, .pointer (some d))] ⟨rfl, trivial⟩ (by kernel_rfl)
    exact opk_val hAp rfl (r_move (hAp.get rfl)) fun _ _ e => ⟨_, e, rfl, fun _ => Eq.refl _⟩
   ·intro c9 hT
    have aC := hT.ag aB [(0, .pointer (some d)), (27, Sl.v y), (32, Sl.v (Sl.mk (some ⟨p, 0, none⟩) 1 1))] ⟨rfl, rfl, rfl, trivial⟩ (by kernel_rfl)
    have cl := cj a1
    refine (opk_run aC rfl (fun _ _ hr => r_append (aC.get rfl) (aC.get rfl) hr) cl fun da db ar a2 cm cn dc co => ?_)
    refine ⟨_, cm, ?_⟩
    obtain ⟨aa, rfl, cp⟩ := co
    have cq := ci.kept cn (.head _)
    refine joinF a2 (by kernel_rfl) ⟨fun _ _ _ _ h => h, trivial⟩ ⟨?_, trivial⟩ ?_
    ·intro a w hT
     have hAp := hT.ag a2 [(0, .pointer (some d))] ⟨rfl, trivial⟩ (by kernel_rfl)
     exact ovr hAp rfl (r_move (hAp.get rfl)) fun _ => Eq.refl _
    ·intro cr ad a3 ct cu
     have cv := ct [(33, Sl.v aa)] ⟨rfl, trivial⟩ (by kernel_rfl)
     have cx : cr.tmps.getD 23 undef = .pointer (some d) := cu 0 rfl 23 rfl
     have aD := cv.add cx
     have cy := cq.ext a3
     have cz : Chg [] ar ad := a3
     have cA := cp ad    cz
     refine par (D := [[], [], [1], [1, 2], [1, 2, 3], [], [], [], [5, 6, 7], [5, 6, 7, 8], [1, 2, 3, 4, 5, 6, 7, 8, 9], [0, 1, 2, 3, 4, 5, 6, 7, 8, 9, 10], [0, 1, 2, 3, 4, 5, 6, 7, 8, 9, 10, 11], [0, 1, 2, 3, 4, 5, 6, 7, 8, 9, 10, 11, 12]]) (S := [11, 12]) (F := []) (V := VL [(11, fun v _ => v = .pointer (some d)), (12, fun v _ => v = .pointer (some (d.add 0)))]) aD (by kernel_rfl) ⟨fun _ _ _ _ h => h, fun _ _ _ _ h => h, trivial⟩ ⟨?_, ?_, trivial⟩ ?_
     ·intro a w hT
      have hAp := hT.ag aD [(23, .pointer (some d))] ⟨rfl, trivial⟩ (by kernel_rfl)
      exact ovr hAp rfl (r_nilCheck (hAp.get rfl)) fun _ => Eq.refl _
     ·intro a w hT
      have hAp := hT.ag aD [] trivial (by kernel_rfl)
      have cB : a.tmps.getD 34 undef = .pointer (some d) := hT.vals 11 rfl 34 rfl
      have hAp := hAp.add cB
      exact ovr hAp rfl (r_fieldAddr (hAp.get rfl) Try.underlying71 rfl ti_69 (by decide)) fun _ => Eq.refl _
     ·intro cC af a4 cD cF
      have cG := cD [(33, Sl.v aa)] ⟨rfl, trivial⟩ (by kernel_rfl)
      have cH : cC.tmps.getD 35 undef = .pointer (some (d.add 0)) := cF 12 rfl 35 rfl
      have aF := cG.add cH
      have cI := cy.ext a4
      have cJ : Chg [] ad af := a4
      have cK := cA af    cJ
      obtain ⟨ah, am, au, an, cL, a5, cM, cN, cO⟩ := cK
      refine one (D := [[], [], [1], [1, 2], [1, 2, 3], [], [], [], [5, 6, 7], [5, 6, 7, 8], [1, 2, 3, 4, 5, 6, 7, 8, 9], [0, 1, 2, 3, 4, 5, 6, 7, 8, 9, 10], [0, 1, 2, 3, 4, 5, 6, 7, 8, 9, 10, 11], [0, 1, 2, 3, 4, 5, 6, 7, 8, 9, 10, 11, 12]]) (i := 13) rfl (by kernel_rfl) (opk_store aF a5 (r_store (vs := [Sl.v aa]) (((aF.get rfl)).trans (congrArg (fun a => Value.pointer (some a)) cL)) (aF.get rfl) rfl ti_69 a5 (Nat.ble_eq_true_of_le cM) (ones_all [Sl.v aa] rfl)) fun dd al a6 cP cQ => ?_)
      have df := cI.keep a6 (by have := cN j (by simp); simpa using this)
      have cR := cO al a6 cP
      refine PR_end (by kernel_rfl) ?_
      have cS := cQ.keep [] trivial
      refine res_end ?_
      exact res_all (vs := []) rfl cS trivial cR
def dom_node_attr.vc (b : Addr) (a : Str) (R : Value → World → Prop) (w : World) : Prop :=
∃ (f : Sl), (w.cell? ((b.add 2).add 3) = some (Sl.v f)) ∧
CallK Try.prog 76 #[Sl.v f, .string (Bs a), .func (.func 77) #[] #[]] w [] (fun v i => ∃ (c : Int) (d : Bool), v = .tuple #[.int .i64 c, .bool d] ∧
R (.tuple #[.int .i64 c, .bool d]) i)
theorem dom_node_attr.ok (b : Addr) (a : Str) {R : Value → World → Prop} {w : World} (j : dom_node_attr.vc b a R w) : Calls Try.prog 51 #[.pointer (some b), .string (Bs a)] w (Ret R) := by
 refine enter [.pointer (some b), .string (Bs a)] Try.func51 rfl Try.ntmps51 rfl ?_
 intro a0 u
 unfold dom_node_attr.vc at j
 refine wp_seq (wp_region_lit ?_)
 refine sqv u rfl (r_assign rfl) fun _ x => ?_
 refine sqv x rfl (r_assign rfl) fun _ y => ?_
 refine sq_end ?_
 have k := y.keep [(0, .pointer (some b)), (1, .string (Bs a))] ⟨rfl, rfl, trivial⟩
 refine then_normal (wp_seq (wp_region_lit ?_))
 refine sqv k rfl (r_move (k.get rfl)) fun _ l => ?_
 refine sqv l rfl (r_nilCheck (l.get rfl)) fun _ m => ?_
 refine sqv m rfl (r_fieldAddr (m.get rfl) Try.underlying76 rfl ti_29 (by decide)) fun _ n => ?_
 refine sqv n rfl (r_fieldAddr (n.get rfl) Try.underlying29 rfl ti_26 (by decide)) fun _ o => ?_
 obtain ⟨f, z, aa⟩ := j
 refine sqv o rfl (r_load1 Try.underlying26 rfl (o.get rfl) z) fun _ p => ?_
 refine sqv p rfl (r_move (p.get rfl)) fun _ g => ?_
 refine sq (opk_call g rfl (r_call (args := #[Sl.v f, .string (Bs a), .func (.func 77) #[] #[]]) Try.func76 (by decide) rfl (map_arr (ml_cons (g.get rfl) (ml_cons (g.get rfl) (ml_cons rfl ml_nil)))) rfl) aa fun ah ai i q _ aj ak ab => ?_)
 obtain ⟨c, d, rfl, ad⟩ := ab
 refine sqv q rfl (r_extract (q.get rfl) rfl) fun _ r => ?_
 refine sqv r rfl (r_extract (r.get rfl) rfl) fun _ s => ?_
 refine sqv s rfl (r_assign (s.get rfl)) fun _ t => ?_
 refine sqv t rfl (r_assign (t.get rfl)) fun _ af => ?_
 refine sq_end ?_
 have h := af.keep [(4, .int .i64 c), (5, .bool d)] ⟨rfl, rfl, trivial⟩
 refine then_normal ?_
 refine wp_ret ?_
 exact res_all (vs := [.int .i64 c, .bool d]) rfl h ⟨res_of_tmp h rfl, res_of_tmp h rfl, trivial⟩ ad
def dom_Dom_tree.vc (m : Addr) (ai : Int) (R : Value → World → Prop) (w : World) : Prop :=
∀ (w4 : World) (k : Nat), New w k w4 → Chg [] w w4 →
CallK Try.prog 45 #[.pointer (some m), .int .i64 ai] w4 [k] (fun v ap => ∃ (ak : Option Addr), v = .pointer ak ∧
∃ aA : Addr, (ak = some aA) ∧
∃ (q : Int) (r : Str) (t : Str) (al : Sl) (ab : Sl), (Cells ap (aA.add 2) [.int .i64 q, .string (Bs r), .string (Bs t), Sl.v al, Sl.v ab]) ∧
∀ (aq : World) (b : Nat), New ap b aq → Chg [] ap aq →
CallK Try.prog 64 #[Sl.v al] aq [k, b] (fun v aB => ∃ (u : Sl), v = Sl.v u ∧
∃ aC : Addr, (ak = some aC) ∧
∀ (ad : World), Chg [b] aB ad →
∃ (l : Sl), (ad.cell? (aC.add 7) = some (Sl.v l)) ∧
∃ (au : Int → Sl → World → Prop) (ax : Int → Sl → World → Nat),
au 0 ab ad ∧
(∀ (o : Int) (x : Sl) (y : World), au o x y →
((o < (l.n : Int)) →
((0 : Int) ≤ o ∧ o < (l.n : Int)) ∧ ∃ aD : Addr, l.a = some aD ∧
∃ (af : Int), (y.cell? (aD.add (o.toNat * 1)) = some (.int .i64 af)) ∧
∀ (z : World), Chg [] y z →
∃ am : Int → Str → Str → Sl → Sl → World → Prop, (∀ c : Int, ∀ d : Str, ∀ f : Str, ∀ g : Sl, ∀ j : Sl, ∀ w' w'' : World, Ext w' w'' → am c d f g j w' → am c d f g j w'') ∧
(∀ w' : World, Ext z w' → Calls Try.prog 53 #[.pointer (some m), .int .i64 af] w' (Ret fun v w'' => Ext w' w'' ∧ ∃ c : Int, ∃ d : Str, ∃ f : Str, ∃ g : Sl, ∃ j : Sl, v = .agg #[.int .i64 c, .string (Bs d), .string (Bs f), Sl.v g, Sl.v j] ∧ am c d f g j w'')) ∧
∀ (ah : World) (c : Int) (d : Str) (f : Str) (g : Sl) (j : Sl) (p : Nat), Ext z ah → am c d f g j ah → z.heap.size ≤ p → Box ah p 29 [.int .i64 c, .string (Bs d), .string (Bs f), Sl.v g, Sl.v j] → 
∀ (_ : Box ah p 29 [.int .i64 c, .string (Bs d), .string (Bs f), Sl.v g, Sl.v j]),
RunK Try.prog (Builtin.append_ #[27, 27] 27 #[Sl.v x, Sl.v (Sl.mk (some ⟨p, 0, none⟩) 1 1)]) ah [k, b] (fun v aF => ∃ (aa : Sl), v = Sl.v aa ∧
(I64 (o + 1)) ∧
∀ (an : World), Chg [b] aF an →
au (o + 1) aa an ∧ ax (o + 1) aa an < ax o x y)) ∧
((¬ (o < (l.n : Int))) →
∀ (ar : World), Chg [k] y ar →
R (.agg #[.int .i64 q, .string (Bs r), .string (Bs t), Sl.v u, Sl.v x]) ar))))
theorem dom_Dom_tree.ok (m : Addr) (ai : Int) {R : Value → World → Prop} {w : World} (aV : dom_Dom_tree.vc m ai R w) : Calls Try.prog 53 #[.pointer (some m), .int .i64 ai] w (Ret R) := by
 refine enter [.pointer (some m), .int .i64 ai] Try.func53 rfl Try.ntmps53 rfl ?_
 intro a0 bJ
 unfold dom_Dom_tree.vc at aV
 refine wp_seq (wp_region_lit ?_)
 refine sq (opk_new (fun B => .pointer (some ⟨B, 0, none⟩)) bJ rfl (r_alloc (cs := [.int .i64 0, .string (Bs ([] : Str)), .string (Bs ([] : Str)), Sl.v Sl.nil, Sl.v Sl.nil]) ti_29 rfl) fun a5 w4 k bK bL bM bN _ => ?_)
 have bO : New w k w4 := bL
 have bP : Chg [] w w4 := bK
 refine sq_end ?_
 have aX := bN.keep [(0, .pointer (some m)), (1, .int .i64 ai), (4, .pointer (some (⟨k, 0, none⟩ : Addr)))] ⟨rfl, rfl, rfl, trivial⟩
 refine then_normal (wp_seq (wp_region_lit ?_))
 refine sqv aX rfl (r_move (aX.get rfl)) fun _ aY => ?_
 refine sqv aY rfl (r_move (aY.get rfl)) fun _ aG => ?_
 have bQ := aV w4 k bO  bP
 refine sq (opk_call aG rfl (r_call (args := #[.pointer (some m), .int .i64 ai]) Try.func45 (by decide) rfl (map_arr (ml_cons (aG.get rfl) (ml_cons (aG.get rfl) ml_nil))) rfl) bQ fun dz dA ap aZ _ bR dB bS => ?_)
 obtain ⟨ak, rfl, bT⟩ := bS
 have hB23 := bM.kept bR (.head _)
 refine sqv aZ rfl (r_assign (aZ.get rfl)) fun _ bU => ?_
 refine sq_end ?_
 have a1 := bU.keep [(0, .pointer (some m)), (4, .pointer (some (⟨k, 0, none⟩ : Addr))), (5, .pointer ak)] ⟨rfl, rfl, rfl, trivial⟩
 refine then_normal (wp_seq (wp_region_lit ?_))
 refine sqv a1 rfl (r_move (a1.get rfl)) fun _ a2 => ?_
 obtain ⟨aA, bV, bX⟩ := bT
 refine sqv a2 rfl (r_nilCheckP (((a2.get rfl)).trans (congrArg Value.pointer bV))) fun _ a3 => ?_
 refine sqv a3 rfl (r_fieldAddr (a3.get rfl) Try.underlying76 rfl ti_29 (by decide)) fun _ a4 => ?_
 obtain ⟨q, r, t, al, ab, bY, bZ⟩ := bX
 refine sqv a4 rfl (r_loadN Try.underlying29 rfl ti_29 (a4.get rfl) bY) fun _ b0 => ?_
 refine sq (opk_new (fun B => .pointer (some ⟨B, 0, none⟩)) b0 rfl (r_alloc (cs := [.int .i64 0, .string (Bs ([] : Str)), .string (Bs ([] : Str)), Sl.v Sl.nil, Sl.v Sl.nil]) ti_29 rfl) fun dC w37 b a6 a7 a8 aH _ => ?_)
 have ay : k ≠ b := Nat.ne_of_lt (Nat.lt_of_lt_of_le hB23.lt a7.ge)
 have a9 : New ap b w37 := a7
 have b1 := hB23.ext a6
 have b2 : Chg [] ap w37 := a6
 refine sq (opk_store aH a8 (r_store (vs := [.int .i64 q, .string (Bs r), .string (Bs t), Sl.v al, Sl.v ab]) (aH.get rfl) (aH.get rfl) rfl ti_29 a8 rfl (ones_all [.int .i64 q, .string (Bs r), .string (Bs t), Sl.v al, Sl.v ab] rfl)) fun dD aq aI b3 b4 => ?_)
 have ba : Box aq b 29 [.int .i64 q, .string (Bs r), .string (Bs t), Sl.v al, Sl.v ab] := b3
 have b5 := b1.keep aI (by simpa using ay)
 have b6 := b2.storeNew a9 aI
 have b7 := a9.up aI.size
 refine sq_end ?_
 have bb := b4.keep [(0, .pointer (some m)), (4, .pointer (some (⟨k, 0, none⟩ : Addr))), (5, .pointer ak), (6, .pointer (some (⟨b, 0, none⟩ : Addr)))] ⟨rfl, rfl, rfl, rfl, trivial⟩
 refine then_normal (wp_seq (wp_region_lit ?_))
 refine sqv bb rfl (r_fieldAddr (bb.get rfl) Try.underlying29 rfl ti_26 (by decide)) fun _ bd => ?_
 refine sqv bd rfl (r_load1 Try.underlying26 rfl (bd.get rfl) (ba.cell 3 _ rfl)) fun _ bf => ?_
 have b8 := bZ aq b b7  b6
 refine sq (opk_call bf rfl (r_call (args := #[Sl.v al]) Try.func64 (by decide) rfl (map_arr (ml_cons (bf.get rfl) ml_nil)) rfl) b8 fun dF dG aB bg _ bh dH b9 => ?_)
 obtain ⟨u, rfl, ca⟩ := b9
 have cb := b5.kept bh (.head _)
 have bi := ba.kept bh (.tail _ (.head _))
 refine sqv bg rfl (r_fieldAddr (bg.get rfl) Try.underlying29 rfl ti_26 (by decide)) fun _ aJ => ?_
 refine sq (opk_store aJ bi (r_store (vs := [Sl.v u]) (aJ.get rfl) (aJ.get rfl) rfl ti_26 bi rfl (ones_all [Sl.v u] rfl)) fun dI ad bj cc cd => ?_)
 have cf : Box ad b 29 [.int .i64 q, .string (Bs r), .string (Bs t), Sl.v u, Sl.v ab] := cc
 have cg := cb.keep bj (by simpa using ay)
 have ch : Chg [b] aB ad := bj
 refine sq_end ?_
 have bk := cd.keep [(0, .pointer (some m)), (4, .pointer (some (⟨k, 0, none⟩ : Addr))), (5, .pointer ak), (6, .pointer (some (⟨b, 0, none⟩ : Addr)))] ⟨rfl, rfl, rfl, rfl, trivial⟩
 refine then_normal (wp_seq (wp_seq (wp_region_lit ?_)))
 refine sqv bk rfl (r_move (bk.get rfl)) fun _ bl => ?_
 obtain ⟨aC, ci, cj⟩ := ca
 refine sqv bl rfl (r_nilCheckP (((bl.get rfl)).trans (congrArg Value.pointer ci))) fun _ bm => ?_
 refine sqv bm rfl (r_fieldAddr (bm.get rfl) Try.underlying76 rfl ti_36 (by decide)) fun _ bn => ?_
 have ck := cj ad    ch
 obtain ⟨l, cl, cm⟩ := ck
 refine sqv bn rfl (r_load1 Try.underlying36 rfl (bn.get rfl) cl) fun _ bo => ?_
 refine sqv bo rfl (r_len (bo.get rfl) Try.underlying36) fun _ cn => ?_
 refine sqv cn rfl (r_move rfl) fun _ co => ?_
 refine sq_end ?_
 have cp := co.keep [(0, .pointer (some m)), (4, .pointer (some (⟨k, 0, none⟩ : Addr))), (6, .pointer (some (⟨b, 0, none⟩ : Addr))), (23, Sl.v l), (24, .int .i64 (l.n : Int)), (25, .int .i64 0)] ⟨rfl, rfl, rfl, rfl, rfl, rfl, trivial⟩
 refine then_normal (wp_block ?_)
 obtain ⟨au, ax, cq, cr⟩ := cm
 refine wp_loop_st (σ := Int × Sl × World) (fun s a w => Ag 39 a [(0, .pointer (some m)), (4, .pointer (some (⟨k, 0, none⟩ : Addr))), (6, .pointer (some (⟨b, 0, none⟩ : Addr))), (23, Sl.v l), (24, .int .i64 (l.n : Int)), (25, .int .i64 s.1)] ∧ Box w k 29 [.int .i64 0, .string (Bs ([] : Str)), .string (Bs ([] : Str)), Sl.v Sl.nil, Sl.v Sl.nil] ∧ Box w b 29 [.int .i64 q, .string (Bs r), .string (Bs t), Sl.v u, Sl.v s.2.1] ∧ w = s.2.2 ∧ au s.1 s.2.1 s.2.2) (fun s => ax s.1 s.2.1 s.2.2) (0, ab, ad) ⟨cp.keep [(0, .pointer (some m)), (4, .pointer (some (⟨k, 0, none⟩ : Addr))), (6, .pointer (some (⟨b, 0, none⟩ : Addr))), (23, Sl.v l), (24, .int .i64 (l.n : Int)), (25, .int .i64 0)] ⟨rfl, rfl, rfl, rfl, rfl, rfl, trivial⟩, cg, cf, rfl, cq⟩ ?_
 rintro ⟨o, x, y⟩ dJ w_ ⟨aK, aL, aM, hw_, ct⟩
 have hw_ : y = w_ := hw_.symm
 subst hw_
 have bp := cr o x _ ct
 refine wp_seq (wp_region_lit ?_)
 refine sqv aK rfl (r_lss (aK.get rfl) (aK.get rfl)) fun _ cu => ?_
 refine sq_end ?_
 have av := cu.keep [(0, .pointer (some m)), (4, .pointer (some (⟨k, 0, none⟩ : Addr))), (6, .pointer (some (⟨b, 0, none⟩ : Addr))), (23, Sl.v l), (24, .int .i64 (l.n : Int)), (25, .int .i64 o), (26, .bool (decide (o < (l.n : Int))))] ⟨rfl, rfl, rfl, rfl, rfl, rfl, rfl, trivial⟩
 refine then_normal (wp_seq ?_)
 refine wp_cond_split (av.get rfl) (fun hc => ?_) (fun hc => ?_)
 ·have cv := bp.1 (of_decide_eq_true hc)
  clear hc
  refine wp_skip ?_
  refine then_normal (wp_seq (wp_block (wp_seq (wp_region_lit ?_))))
  obtain ⟨cx, aD, cy, cz⟩ := cv
  refine sqv av rfl (r_indexAddr (av.get rfl) (av.get rfl) Try.underlying36 ti_3 cx cy) fun _ bq => ?_
  obtain ⟨af, cA, cB⟩ := cz
  refine sqv bq rfl (r_load1 Try.underlying3 rfl (bq.get rfl) cA) fun _ br => ?_
  refine sqv br rfl (r_assign (br.get rfl)) fun _ cC => ?_
  refine sq_end ?_
  have ao := cC.keep [(0, .pointer (some m)), (4, .pointer (some (⟨k, 0, none⟩ : Addr))), (6, .pointer (some (⟨b, 0, none⟩ : Addr))), (8, .int .i64 af), (23, Sl.v l), (24, .int .i64 (l.n : Int)), (25, .int .i64 o)] ⟨rfl, rfl, rfl, rfl, rfl, rfl, rfl, trivial⟩
  refine then_normal ?_
  refine draw' (by kernel_rfl) fun z aN => ?_
  have bs := aL.ext aN
  have aO := aM.ext aN
  have cD : Chg [] y z := aN
  have cF := cB z    cD
  obtain ⟨am, aP, cG, cH⟩ := cF
  refine par (D := [[], [0], [], [], [2, 3], [2, 3, 4], [0, 1, 2, 3, 4, 5], [0, 1, 2, 3, 4, 5, 6], [0, 1, 2, 3, 4, 5, 6, 7]]) (S := [0, 1, 2, 3, 4, 5]) (F := []) (V := VL [(0, fun v _ => v = .pointer (some (⟨b, 4, none⟩ : Addr))), (1, fun v _ => v = Sl.v x), (2, fun v _ => v = .pointer (some m)), (3, fun v _ => v = .int .i64 af), (4, fun v w' => ∃ c : Int, ∃ d : Str, ∃ f : Str, ∃ g : Sl, ∃ j : Sl, am c d f g j w' ∧ v = .agg #[.int .i64 c, .string (Bs d), .string (Bs f), Sl.v g, Sl.v j]), (5, fun v w' => ∃ c : Int, ∃ d : Str, ∃ f : Str, ∃ g : Sl, ∃ j : Sl, ∃ p : Nat, am c d f g j w' ∧ z.heap.size ≤ p ∧ Box w' p 29 [.int .i64 c, .string (Bs d), .string (Bs f), Sl.v g, Sl.v j] ∧ v = Sl.v (Sl.mk (some ⟨p, 0, none⟩) 1 1))]) ao (by kernel_rfl) ⟨fun _ _ _ _ h => h, fun _ _ _ _ h => h, fun _ _ _ _ h => h, fun _ _ _ _ h => h, fun _ _ _ hE ⟨c, d, f, g, j, h0_, e⟩ => ⟨c, d, f, g, j, (aP c d f g j _ _ hE h0_), e⟩, fun _ _ _ hE ⟨c, d, f, g, j, p, h0_, h1_, h2_, e⟩ => ⟨c, d, f, g, j, p, (aP c d f g j _ _ hE h0_), h1_, (h2_.ext hE), e⟩, trivial⟩ ⟨?_, ?_, ?_, ?_, ?_, ?_, trivial⟩ ?_
  ·intro a w hT
   have hAp := hT.ag ao [(6, .pointer (some (⟨b, 0, none⟩ : Addr)))] ⟨rfl, trivial⟩ (by kernel_rfl)
   exact ovr hAp rfl (r_fieldAddr (hAp.get rfl) Try.underlying29 rfl ti_27 (by decide)) fun _ => Eq.refl _
  ·intro a w hT
   have hAp := hT.ag ao [] trivial (by kernel_rfl)
   have cI : a.tmps.getD 29 undef = .pointer (some (⟨b, 4, none⟩ : Addr)) := hT.vals 0 rfl 29 rfl
   have hAp := hAp.add cI
   exact ovr hAp rfl (r_load1 Try.underlying27 rfl (hAp.get rfl) ((aO.ext hT.chg).cell 4 _ rfl)) fun _ => Eq.refl _
  ·intro a w hT
   have hAp := hT.ag ao [(0, .pointer (some m))] ⟨rfl, trivial⟩ (by kernel_rfl)
   exact ovr hAp rfl (r_move (hAp.get rfl)) fun _ => Eq.refl _
  ·intro a w hT
   have hAp := hT.ag ao [(8, .int .i64 af)] ⟨rfl, trivial⟩ (by kernel_rfl)
   exact ovr hAp rfl (r_move (hAp.get rfl)) fun _ => Eq.refl _
  ·intro a w hT
   have hAp := hT.ag ao [] trivial (by kernel_rfl)
   have cJ : a.tmps.getD 31 undef = .pointer (some m) := hT.vals 2 rfl 31 rfl
   have hAp := hAp.add cJ
   have cK : a.tmps.getD 32 undef = .int .i64 af := hT.vals 3 rfl 32 rfl
   have hAp := hAp.add cK
   exact opk_callX hAp rfl (r_call (args := #[.pointer (some m), .int .i64 af]) Try.func53 (by decide) rfl (map_arr (ml_cons (hAp.get rfl) (ml_cons (hAp.get rfl) ml_nil))) rfl) (cG w hT.chg) fun _ _ _ _ e ⟨hE, c, d, f, g, j, he, hV⟩ => ⟨_, e, hE, fun _ => ⟨c, d, f, g, j, hV, he⟩⟩
  ·intro a w hT
   have hAp := hT.ag ao [] trivial (by kernel_rfl)
   obtain ⟨c, d, f, g, j, cL, cM⟩ := hT.vals 4 rfl 33 rfl
   have hAp := hAp.add cM
   exact opk_new (fun B => .slice (some ⟨B, 0, none⟩) 1 1) hAp rfl (r_buildSlice (vs := #[(0, .agg #[.int .i64 c, .string (Bs d), .string (Bs f), Sl.v g, Sl.v j])]) (cs := [.int .i64 c, .string (Bs d), .string (Bs f), Sl.v g, Sl.v j]) (map_arr2 (ml2_cons (hAp.get rfl) (ml2_nil))) Try.underlying27 ti_29 rfl rfl (by kernel_rfl)) fun _ dK p bt cN cO _ e => ⟨_, e, bt, fun _ => ⟨c, d, f, g, j, p, (aP c d f g j _ _ bt cL), Nat.le_trans hT.chg.size cN.ge, cO, rfl⟩⟩
  ·intro cP ah az cQ bu
   have cR := cQ [(0, .pointer (some m)), (4, .pointer (some (⟨k, 0, none⟩ : Addr))), (6, .pointer (some (⟨b, 0, none⟩ : Addr))), (23, Sl.v l), (24, .int .i64 (l.n : Int)), (25, .int .i64 o)] ⟨rfl, rfl, rfl, rfl, rfl, rfl, trivial⟩ (by kernel_rfl)
   have cS : cP.tmps.getD 30 undef = Sl.v x := bu 1 rfl 30 rfl
   have cT := cR.add cS
   obtain ⟨c, d, f, g, j, p, cU, aQ, bv, cX⟩ := bu 5 rfl 34 rfl
   have aR := cT.add cX
   have cY := bs.ext az
   have cZ := aO.ext az
   have dL : Chg [] z ah := az
   have c0 := cH ah c d f g j p az cU aQ bv
   have dM : k ≠ p := Nat.ne_of_lt (Nat.lt_of_lt_of_le bs.lt aQ)
   have dN : b ≠ p := Nat.ne_of_lt (Nat.lt_of_lt_of_le aO.lt aQ)
   have c1 := c0 bv
   refine one (D := [[], [0], [], [], [2, 3], [2, 3, 4], [0, 1, 2, 3, 4, 5], [0, 1, 2, 3, 4, 5, 6], [0, 1, 2, 3, 4, 5, 6, 7]]) (i := 6) rfl (by kernel_rfl) (opk_run aR rfl (fun _ _ hr => r_append (aR.get rfl) (aR.get rfl) hr) c1 fun dO dP aF bx _ bz dQ c2 => ?_)
   obtain ⟨aa, rfl, c3⟩ := c2
   have c4 := cY.kept bz (.head _)
   have c5 := cZ.kept bz (.tail _ (.head _))
   refine par (D := [[], [0], [], [], [2, 3], [2, 3, 4], [0, 1, 2, 3, 4, 5], [0, 1, 2, 3, 4, 5, 6], [0, 1, 2, 3, 4, 5, 6, 7]]) (S := [7]) (F := []) (V := VL [(7, fun v _ => v = .pointer (some (⟨b, 4, none⟩ : Addr)))]) bx (by kernel_rfl) ⟨fun _ _ _ _ h => h, trivial⟩ ⟨?_, trivial⟩ ?_
   ·intro a w hT
    have hAp := hT.ag bx [(6, .pointer (some (⟨b, 0, none⟩ : Addr)))] ⟨rfl, trivial⟩ (by kernel_rfl)
    exact ovr hAp rfl (r_fieldAddr (hAp.get rfl) Try.underlying29 rfl ti_27 (by decide)) fun _ => Eq.refl _
   ·intro c6 c7 aS c8 c9
    have da := c8 [(0, .pointer (some m)), (4, .pointer (some (⟨k, 0, none⟩ : Addr))), (6, .pointer (some (⟨b, 0, none⟩ : Addr))), (23, Sl.v l), (24, .int .i64 (l.n : Int)), (25, .int .i64 o), (35, Sl.v aa)] ⟨rfl, rfl, rfl, rfl, rfl, rfl, rfl, trivial⟩ (by kernel_rfl)
    have db : c6.tmps.getD 36 undef = .pointer (some (⟨b, 4, none⟩ : Addr)) := c9 7 rfl 36 rfl
    have aT := da.add db
    have dc := c4.ext aS
    have bA := c5.ext aS
    have dd : Chg [] aF c7 := aS
    refine one (D := [[], [0], [], [], [2, 3], [2, 3, 4], [0, 1, 2, 3, 4, 5], [0, 1, 2, 3, 4, 5, 6], [0, 1, 2, 3, 4, 5, 6, 7]]) (i := 8) rfl (by kernel_rfl) (opk_store aT bA (r_store (vs := [Sl.v aa]) (aT.get rfl) (aT.get rfl) rfl ti_27 bA rfl (ones_all [Sl.v aa] rfl)) fun dR an bB df dg => ?_)
    have dh : Box an b 29 [.int .i64 q, .string (Bs r), .string (Bs t), Sl.v u, Sl.v aa] := df
    have di := dc.keep bB (by simpa using ay)
    have dj := dd.storeOld bB
    refine PR_end (by kernel_rfl) ?_
    have bC := dg.keep [(0, .pointer (some m)), (4, .pointer (some (⟨k, 0, none⟩ : Addr))), (6, .pointer (some (⟨b, 0, none⟩ : Addr))), (23, Sl.v l), (24, .int .i64 (l.n : Int)), (25, .int .i64 o)] ⟨rfl, rfl, rfl, rfl, rfl, rfl, trivial⟩
    refine block_normal ?_
    refine then_normal (wp_region_lit ?_)
    obtain ⟨dk, dl⟩ := c3
    refine sqv bC rfl (r_addI (bC.get rfl) rfl dk) fun _ bD => ?_
    refine sqv bD rfl (r_move (bD.get rfl)) fun _ dm => ?_
    refine sq_end ?_
    have dn := dm.keep [(0, .pointer (some m)), (4, .pointer (some (⟨k, 0, none⟩ : Addr))), (6, .pointer (some (⟨b, 0, none⟩ : Addr))), (23, Sl.v l), (24, .int .i64 (l.n : Int)), (25, .int .i64 (o + 1))] ⟨rfl, rfl, rfl, rfl, rfl, rfl, trivial⟩
    have bF := dl an    dj
    have dp := dn.keep [(0, .pointer (some m)), (4, .pointer (some (⟨k, 0, none⟩ : Addr))), (6, .pointer (some (⟨b, 0, none⟩ : Addr))), (23, Sl.v l), (24, .int .i64 (l.n : Int)), (25, .int .i64 (o + 1))] ⟨rfl, rfl, rfl, rfl, rfl, rfl, trivial⟩
    exact then_normal ⟨(o + 1, aa, an), ⟨dp, di, dh, rfl, bF.1⟩, bF.2⟩
 ·have dq := bp.2 (of_decide_eq_false hc)
  clear hc
  refine wp_exit ?_
  refine then_exit ?_
  refine then_exit ?_
  refine block_hit ?_
  have bG := av.keep [(4, .pointer (some (⟨k, 0, none⟩ : Addr))), (6, .pointer (some (⟨b, 0, none⟩ : Addr)))] ⟨rfl, rfl, trivial⟩
  refine then_normal (wp_seq (wp_region_lit ?_))
  refine sqv bG rfl (r_loadN (cs := [.int .i64 q, .string (Bs r), .string (Bs t), Sl.v u, Sl.v x]) Try.underlying29 rfl ti_29 (bG.get rfl) (aM.part 0 _ rfl)) fun _ aU => ?_
  refine sq (opk_store aU aL (r_store (vs := [.int .i64 q, .string (Bs r), .string (Bs t), Sl.v u, Sl.v x]) (aU.get rfl) (aU.get rfl) rfl ti_29 aL rfl (ones_all [.int .i64 q, .string (Bs r), .string (Bs t), Sl.v u, Sl.v x] rfl)) fun dS ar bH dr ds => ?_)
  have dt : Box ar k 29 [.int .i64 q, .string (Bs r), .string (Bs t), Sl.v u, Sl.v x] := dr
  have dT := aM.keep bH (by simpa using ay.symm)
  have du : Chg [k] y ar := bH
  refine sq_end ?_
  have bI := ds.keep [(4, .pointer (some (⟨k, 0, none⟩ : Addr)))] ⟨rfl, trivial⟩
  refine then_normal ?_
  refine wp_ret ?_
  have dv := dq ar    du
  exact res_all (vs := [.agg #[.int .i64 q, .string (Bs r), .string (Bs t), Sl.v u, Sl.v x]]) rfl bI ⟨res_of_cell bI rfl dt Try.underlying29 rfl ti_29, trivial⟩ dv
def dom_Dom_out.vc (g : Addr) (h : Int) (R : Value → World → Prop) (w : World) : Prop :=
∀ (i : World) (d : Nat), New w d i → Chg [] w i →
CallK Try.prog 33 #[.pointer (some g), .int .i64 h] i [d] (fun v ad => ∃ (n : Int), v = .int .i64 n ∧
CallK Try.prog 45 #[.pointer (some g), .int .i64 n] ad [d] (fun v o => ∃ (k : Option Addr), v = .pointer k ∧
∃ s : Addr, (k = some s) ∧
∃ (p : Sl), (o.cell? (s.add 7) = some (Sl.v p)) ∧
∀ (_ : Box o d 3 [.int .i64 h]),
CallK Try.prog 81 #[Sl.v p, .func (.func 82) #[] #[.pointer (some (⟨d, 0, none⟩ : Addr))]] o [] (fun v t => ∃ (l : Sl), v = Sl.v l ∧
∃ u : Addr, (k = some u) ∧
∃ (j q : Nat) (x : TypeId) (r : List Value), (u.add 7) = ⟨j, q, none⟩ ∧ Box t j x r ∧ q + 1 ≤ r.length ∧ (∀ b ∈ [], b ≠ j) ∧
(∀ m : World, Chg [j] t m → Box m j x (putAt r q [Sl.v l]) →
R (.tuple #[]) m))))
theorem dom_Dom_out.ok (g : Addr) (h : Int) {R : Value → World → Prop} {w : World} (af : dom_Dom_out.vc g h R w) : Calls Try.prog 57 #[.pointer (some g), .int .i64 h] w (Ret R) := by
 refine enter [.pointer (some g), .int .i64 h] Try.func57 rfl Try.ntmps57 rfl ?_
 intro a0 ag
 unfold dom_Dom_out.vc at af
 refine wp_seq (wp_region_lit ?_)
 refine sq (opk_new (fun B => .pointer (some ⟨B, 0, none⟩)) ag rfl (r_box (cs := [.int .i64 h]) (ag.get rfl) rfl) fun a5 i d ay az ah aA _ => ?_)
 have aB : New w d i := az
 have aC : Chg [] w i := ay
 refine sq_end ?_
 have ai := aA.keep [(0, .pointer (some g)), (3, .pointer (some (⟨d, 0, none⟩ : Addr)))] ⟨rfl, rfl, trivial⟩
 refine then_normal (wp_seq (wp_region_lit ?_))
 refine sqv ai rfl (r_move (ai.get rfl)) fun _ aj => ?_
 refine sqv aj rfl (r_move (aj.get rfl)) fun _ ak => ?_
 refine sqv ak rfl (r_load1 Try.underlying3 rfl (ak.get rfl) (ah.cell 0 _ rfl)) fun _ y => ?_
 have aD := af i d aB  aC
 refine sq (opk_call y rfl (r_call (args := #[.pointer (some g), .int .i64 h]) Try.func33 (by decide) rfl (map_arr (ml_cons (y.get rfl) (ml_cons (y.get rfl) ml_nil))) rfl) aD fun a8 a9 ad z _ aF ba aG => ?_)
 obtain ⟨n, rfl, aH⟩ := aG
 have aI := ah.kept aF (.head _)
 refine sq (opk_call z rfl (r_call (args := #[.pointer (some g), .int .i64 n]) Try.func45 (by decide) rfl (map_arr (ml_cons (z.get rfl) (ml_cons (z.get rfl) ml_nil))) rfl) aH fun bb bd o al _ aJ bf aK => ?_)
 obtain ⟨k, rfl, aL⟩ := aK
 have aM := aI.kept aJ (.head _)
 refine sqv al rfl (r_assign (al.get rfl)) fun _ aN => ?_
 refine sq_end ?_
 have am := aN.keep [(3, .pointer (some (⟨d, 0, none⟩ : Addr))), (4, .pointer k)] ⟨rfl, rfl, trivial⟩
 refine then_normal (wp_region_lit ?_)
 refine sqv am rfl (r_move (am.get rfl)) fun _ an => ?_
 refine sqv an rfl (r_move (an.get rfl)) fun _ ao => ?_
 obtain ⟨s, aO, aP⟩ := aL
 refine sqv ao rfl (r_nilCheckP (((ao.get rfl)).trans (congrArg Value.pointer aO))) fun _ ap => ?_
 refine sqv ap rfl (r_fieldAddr (ap.get rfl) Try.underlying76 rfl ti_36 (by decide)) fun _ aq => ?_
 obtain ⟨p, aQ, aR⟩ := aP
 refine sqv aq rfl (r_load1 Try.underlying36 rfl (aq.get rfl) aQ) fun _ ar => ?_
 refine sqv ar rfl (r_makeFunc (f := #[]) (c := #[.pointer (some (⟨d, 0, none⟩ : Addr))]) (map_arr ml_nil) (map_arr (ml_cons (ar.get rfl) ml_nil))) fun _ aa => ?_
 have aS := aR aM
 refine sq (opk_call aa rfl (r_call (args := #[Sl.v p, .func (.func 82) #[] #[.pointer (some (⟨d, 0, none⟩ : Addr))]]) Try.func81 (by decide) rfl (map_arr (ml_cons (aa.get rfl) (ml_cons (aa.get rfl) ml_nil))) rfl) aS fun bg bh t au _ bi bj aT => ?_)
 obtain ⟨l, rfl, aU⟩ := aT
 obtain ⟨u, aV, aX⟩ := aU
 refine sqv au rfl (r_nilCheckP (((au.get rfl)).trans (congrArg Value.pointer aV))) fun _ av => ?_
 refine sqv av rfl (r_fieldAddr (av.get rfl) Try.underlying76 rfl ti_36 (by decide)) fun _ ab => ?_
 obtain ⟨j, q, x, r, aY, ax, aZ, bk, ht74⟩ := aX
 refine sq (opk_store ab ax (r_store (vs := [Sl.v l]) (((ab.get rfl)).trans (congrArg (fun a => Value.pointer (some a)) aY)) (ab.get rfl) rfl ti_36 ax (Nat.ble_eq_true_of_le aZ) (ones_all [Sl.v l] rfl)) fun bl m a1 a2 a3 => ?_)
 have a4 := ht74 m a1 a2
 refine sq_end ?_
 have hA76 := a3.keep [] trivial
 refine res_end ?_
 exact res_all (vs := []) rfl hA76 trivial a4
end Go.Proofs.Ytghmgfkdnolcdaa
