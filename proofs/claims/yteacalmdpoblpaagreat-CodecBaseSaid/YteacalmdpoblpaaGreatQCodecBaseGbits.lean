/-
  PRINTED BY PROGRAM: for each function its condition (vc), and that this suffices (ok).
-/
import Derived.Test.YteacalmdpoblpaaGreatQCodecBaseGT
namespace Go.Proofs.YteacalmdpoblpaaGreat
open Go.RowKit
set_option linter.unusedVariables false
set_option maxHeartbeats 1000000
set_option maxRecDepth 10000
def bits_Bytes.vc (c : Int) (R : Value → World → Prop) (w : World) : Prop :=
∀ (u : World) (p : Nat) (q : Nat), New w p u → New w q u → p ≠ q → Chg [] w u →
∃ (x : Int → Int → Int → Int → Int → Int → Int → Int → Int → World → Prop) (y : Int → Int → Int → Int → Int → Int → Int → Int → Int → World → Nat),
x 0 0 0 0 0 0 0 0 0 u ∧
(∀ (b : Int) (g : Int) (h : Int) (i : Int) (j : Int) (k : Int) (m : Int) (n : Int) (o : Int) (r : World), x b g h i j k m n o r →
((b < 8) →
(I64 (8 * b)) ∧
((0 : Int) ≤ (8 * b) ∧ (8 * b) ≤ 64) ∧
((0 : Int) ≤ b ∧ b < 8) ∧
(I64 (b + 1)) ∧
∀ (t : World), Chg [q] r t →
x (b + 1) ((([g, h, i, j, k, m, n, o] : List Int).set b.toNat (IntKind.u8.wrap (c / 2 ^ (8 * b).toNat))).getD 0 0) ((([g, h, i, j, k, m, n, o] : List Int).set b.toNat (IntKind.u8.wrap (c / 2 ^ (8 * b).toNat))).getD 1 0) ((([g, h, i, j, k, m, n, o] : List Int).set b.toNat (IntKind.u8.wrap (c / 2 ^ (8 * b).toNat))).getD 2 0) ((([g, h, i, j, k, m, n, o] : List Int).set b.toNat (IntKind.u8.wrap (c / 2 ^ (8 * b).toNat))).getD 3 0) ((([g, h, i, j, k, m, n, o] : List Int).set b.toNat (IntKind.u8.wrap (c / 2 ^ (8 * b).toNat))).getD 4 0) ((([g, h, i, j, k, m, n, o] : List Int).set b.toNat (IntKind.u8.wrap (c / 2 ^ (8 * b).toNat))).getD 5 0) ((([g, h, i, j, k, m, n, o] : List Int).set b.toNat (IntKind.u8.wrap (c / 2 ^ (8 * b).toNat))).getD 6 0) ((([g, h, i, j, k, m, n, o] : List Int).set b.toNat (IntKind.u8.wrap (c / 2 ^ (8 * b).toNat))).getD 7 0) t ∧ y (b + 1) ((([g, h, i, j, k, m, n, o] : List Int).set b.toNat (IntKind.u8.wrap (c / 2 ^ (8 * b).toNat))).getD 0 0) ((([g, h, i, j, k, m, n, o] : List Int).set b.toNat (IntKind.u8.wrap (c / 2 ^ (8 * b).toNat))).getD 1 0) ((([g, h, i, j, k, m, n, o] : List Int).set b.toNat (IntKind.u8.wrap (c / 2 ^ (8 * b).toNat))).getD 2 0) ((([g, h, i, j, k, m, n, o] : List Int).set b.toNat (IntKind.u8.wrap (c / 2 ^ (8 * b).toNat))).getD 3 0) ((([g, h, i, j, k, m, n, o] : List Int).set b.toNat (IntKind.u8.wrap (c / 2 ^ (8 * b).toNat))).getD 4 0) ((([g, h, i, j, k, m, n, o] : List Int).set b.toNat (IntKind.u8.wrap (c / 2 ^ (8 * b).toNat))).getD 5 0) ((([g, h, i, j, k, m, n, o] : List Int).set b.toNat (IntKind.u8.wrap (c / 2 ^ (8 * b).toNat))).getD 6 0) ((([g, h, i, j, k, m, n, o] : List Int).set b.toNat (IntKind.u8.wrap (c / 2 ^ (8 * b).toNat))).getD 7 0) t < y b g h i j k m n o r) ∧
((¬ (b < 8)) →
∀ (v : World), Chg [p] r v →
R (.agg #[.int .u8 g, .int .u8 h, .int .u8 i, .int .u8 j, .int .u8 k, .int .u8 m, .int .u8 n, .int .u8 o]) v))
theorem bits_Bytes.ok (c : Int) {R : Value → World → Prop} {w : World} (am : bits_Bytes.vc c R w) : Calls Tryz.prog 26 #[.int .u64 c] w (Ret R) := by
 refine enter [.int .u64 c] Tryz.func26 rfl Tryz.ntmps26 rfl ?_
 intro a0 aL
 unfold bits_Bytes.vc at am
 refine wp_seq (wp_region_lit ?_)
 refine sq (opk_new (fun B => .pointer (some ⟨B, 0, none⟩)) aL rfl (r_alloc (cs := [.int .u8 0, .int .u8 0, .int .u8 0, .int .u8 0, .int .u8 0, .int .u8 0, .int .u8 0, .int .u8 0]) ti_66 rfl) fun a4 w3 p aM aN ao aO _ => ?_)
 have aP : New w p w3 := aN
 have ap : Chg [] w w3 := aM
 refine sq_end ?_
 have aQ := aO.kp [(0, .int .u64 c), (2, .pointer (some (⟨p, 0, none⟩ : Addr)))] rfl
 refine then_normal (wp_seq (wp_region_lit ?_))
 refine sq (opk_new (fun B => .pointer (some ⟨B, 0, none⟩)) aQ rfl (r_alloc (cs := [.int .u8 0, .int .u8 0, .int .u8 0, .int .u8 0, .int .u8 0, .int .u8 0, .int .u8 0, .int .u8 0]) ti_66 rfl) fun bx u q ad aq aR aS _ => ?_)
 have af : p ≠ q := Nat.ne_of_lt (Nat.lt_of_lt_of_le ao.lt aq.ge)
 have aT := New.of ap aq
 have aU := ao.ext ad
 have aV := ap.more ad
 have aX := aP.up ad.size
 refine sq_end ?_
 have aY := aS.kp [(0, .int .u64 c), (2, .pointer (some (⟨p, 0, none⟩ : Addr))), (3, .pointer (some (⟨q, 0, none⟩ : Addr)))] rfl
 refine then_normal (wp_seq (wp_seq (wp_region_lit ?_)))
 refine sqv aY rfl (r_move rfl) fun _ aZ => sq_end ?_
 have hA24 := aZ.kp [(0, .int .u64 c), (2, .pointer (some (⟨p, 0, none⟩ : Addr))), (3, .pointer (some (⟨q, 0, none⟩ : Addr))), (5, .int .i64 0)] rfl
 refine then_normal (wp_block ?_)
 have a1 := am u p q aX aT af aV
 obtain ⟨x, y, a2, a3⟩ := a1
 refine wp_loop_st (σ := Int × Int × Int × Int × Int × Int × Int × Int × Int × World) (fun s a w => Ag 17 a [(0, .int .u64 c), (2, .pointer (some (⟨p, 0, none⟩ : Addr))), (3, .pointer (some (⟨q, 0, none⟩ : Addr))), (5, .int .i64 s.1)] ∧ Box w p 66 [.int .u8 0, .int .u8 0, .int .u8 0, .int .u8 0, .int .u8 0, .int .u8 0, .int .u8 0, .int .u8 0] ∧ Box w q 66 [.int .u8 s.2.1, .int .u8 s.2.2.1, .int .u8 s.2.2.2.1, .int .u8 s.2.2.2.2.1, .int .u8 s.2.2.2.2.2.1, .int .u8 s.2.2.2.2.2.2.1, .int .u8 s.2.2.2.2.2.2.2.1, .int .u8 s.2.2.2.2.2.2.2.2.1] ∧ w = s.2.2.2.2.2.2.2.2.2 ∧ x s.1 s.2.1 s.2.2.1 s.2.2.2.1 s.2.2.2.2.1 s.2.2.2.2.2.1 s.2.2.2.2.2.2.1 s.2.2.2.2.2.2.2.1 s.2.2.2.2.2.2.2.2.1 s.2.2.2.2.2.2.2.2.2) (fun s => y s.1 s.2.1 s.2.2.1 s.2.2.2.1 s.2.2.2.2.1 s.2.2.2.2.2.1 s.2.2.2.2.2.2.1 s.2.2.2.2.2.2.2.1 s.2.2.2.2.2.2.2.2.1 s.2.2.2.2.2.2.2.2.2) (0, 0, 0, 0, 0, 0, 0, 0, 0, u) ⟨hA24.kp [(0, .int .u64 c), (2, .pointer (some (⟨p, 0, none⟩ : Addr))), (3, .pointer (some (⟨q, 0, none⟩ : Addr))), (5, .int .i64 0)] rfl, aU, aR, rfl, a2⟩ ?_
 rintro ⟨b, g, h, i, j, k, m, n, o, r⟩ bz w_ ⟨ar, ag, aa, hw_, hJ120⟩
 have hw_ : r = w_ := hw_.symm
 subst hw_
 have au := a3 b g h i j k m n o _ hJ120
 refine wp_seq (wp_region_lit ?_)
 refine sqv ar rfl (r_lss (ar.get rfl) rfl) fun _ a5 => sq_end ?_
 have ab := a5.kp [(0, .int .u64 c), (2, .pointer (some (⟨p, 0, none⟩ : Addr))), (3, .pointer (some (⟨q, 0, none⟩ : Addr))), (5, .int .i64 b), (6, .bool (decide (b < 8)))] rfl
 refine then_normal (wp_seq ?_)
 refine wp_cond_split (ab.get rfl) (fun hc => ?_) (fun hc => ?_)
 ·have a6 := au.1 (of_decide_eq_true hc)
  clear hc
  refine wp_skip ?_
  refine then_normal (wp_seq (wp_block (wp_seq (wp_region_lit ?_))))
  refine sqv ab rfl (r_move (ab.get rfl)) fun _ av => sqv av rfl (r_assign (av.get rfl)) fun _ a7 => sq_end ?_
  have ax := a7.kp [(0, .int .u64 c), (2, .pointer (some (⟨p, 0, none⟩ : Addr))), (3, .pointer (some (⟨q, 0, none⟩ : Addr))), (4, .int .i64 b), (5, .int .i64 b)] rfl
  refine then_normal (wp_region_lit ?_)
  refine sqv ax rfl (r_move (ax.get rfl)) fun _ ay => sqv ay rfl (r_move (ay.get rfl)) fun _ az => sqv az rfl (r_move (az.get rfl)) fun _ aA => ?_
  obtain ⟨a8, a9⟩ := a6
  refine sqv aA rfl (r_mulI rfl (aA.get rfl) a8) fun _ ah => ?_
  obtain ⟨aB, ba⟩ := a9
  refine sqv ah rfl (r_shr (ah.get rfl) (ah.get rfl) aB.1 aB.2) fun _ aC => sqv aC rfl (r_conv (aC.get rfl) rfl tU5) fun _ ai => ?_
  obtain ⟨aj, bb⟩ := ba
  refine sqv ai rfl (r_indexAddrA (ai.get rfl) (ai.get rfl) Tryz.underlying66 ti_5 aj) fun _ ak => ?_
  refine sq (opk_store ak aa (r_store (vs := [.int .u8 (IntKind.u8.wrap (c / 2 ^ (8 * b).toNat))]) (((ak.get rfl)).trans (congrArg (fun a => Value.pointer (some a)) (Addr.addA _ _))) (ak.get rfl) rfl ti_5 aa (Nat.ble_eq_true_of_le (show b.toNat + 1 ≤ 8 by have hs_ := aj; omega)) (ones_all _ rfl)) fun bA t aD bd bf => ?_)
  have bg : Box t q 66 [.int .u8 ((([g, h, i, j, k, m, n, o] : List Int).set b.toNat (IntKind.u8.wrap (c / 2 ^ (8 * b).toNat))).getD 0 0), .int .u8 ((([g, h, i, j, k, m, n, o] : List Int).set b.toNat (IntKind.u8.wrap (c / 2 ^ (8 * b).toNat))).getD 1 0), .int .u8 ((([g, h, i, j, k, m, n, o] : List Int).set b.toNat (IntKind.u8.wrap (c / 2 ^ (8 * b).toNat))).getD 2 0), .int .u8 ((([g, h, i, j, k, m, n, o] : List Int).set b.toNat (IntKind.u8.wrap (c / 2 ^ (8 * b).toNat))).getD 3 0), .int .u8 ((([g, h, i, j, k, m, n, o] : List Int).set b.toNat (IntKind.u8.wrap (c / 2 ^ (8 * b).toNat))).getD 4 0), .int .u8 ((([g, h, i, j, k, m, n, o] : List Int).set b.toNat (IntKind.u8.wrap (c / 2 ^ (8 * b).toNat))).getD 5 0), .int .u8 ((([g, h, i, j, k, m, n, o] : List Int).set b.toNat (IntKind.u8.wrap (c / 2 ^ (8 * b).toNat))).getD 6 0), .int .u8 ((([g, h, i, j, k, m, n, o] : List Int).set b.toNat (IntKind.u8.wrap (c / 2 ^ (8 * b).toNat))).getD 7 0)] := Box.setA (l := ([g, h, i, j, k, m, n, o] : List Int)) (f := (fun z => Value.int .u8 z)) (d := 0) bd rfl rfl aj
  have bh := ag.keep aD (by simpa using af)
  have bi : Chg [q] r t := aD
  refine sq_end ?_
  have aF := bf.kp [(0, .int .u64 c), (2, .pointer (some (⟨p, 0, none⟩ : Addr))), (3, .pointer (some (⟨q, 0, none⟩ : Addr))), (5, .int .i64 b)] rfl
  refine block_normal ?_
  refine then_normal (wp_region_lit ?_)
  obtain ⟨bj, bk⟩ := bb
  refine sqv aF rfl (r_addI (aF.get rfl) rfl bj) fun _ aG => sqv aG rfl (r_move (aG.get rfl)) fun _ bl => sq_end ?_
  have bm := bl.kp [(0, .int .u64 c), (2, .pointer (some (⟨p, 0, none⟩ : Addr))), (3, .pointer (some (⟨q, 0, none⟩ : Addr))), (5, .int .i64 (b + 1))] rfl
  have aH := bk t    bi
  have bn := bm.kp [(0, .int .u64 c), (2, .pointer (some (⟨p, 0, none⟩ : Addr))), (3, .pointer (some (⟨q, 0, none⟩ : Addr))), (5, .int .i64 (b + 1))] rfl
  exact then_normal ⟨(b + 1, ((([g, h, i, j, k, m, n, o] : List Int).set b.toNat (IntKind.u8.wrap (c / 2 ^ (8 * b).toNat))).getD 0 0), ((([g, h, i, j, k, m, n, o] : List Int).set b.toNat (IntKind.u8.wrap (c / 2 ^ (8 * b).toNat))).getD 1 0), ((([g, h, i, j, k, m, n, o] : List Int).set b.toNat (IntKind.u8.wrap (c / 2 ^ (8 * b).toNat))).getD 2 0), ((([g, h, i, j, k, m, n, o] : List Int).set b.toNat (IntKind.u8.wrap (c / 2 ^ (8 * b).toNat))).getD 3 0), ((([g, h, i, j, k, m, n, o] : List Int).set b.toNat (IntKind.u8.wrap (c / 2 ^ (8 * b).toNat))).getD 4 0), ((([g, h, i, j, k, m, n, o] : List Int).set b.toNat (IntKind.u8.wrap (c / 2 ^ (8 * b).toNat))).getD 5 0), ((([g, h, i, j, k, m, n, o] : List Int).set b.toNat (IntKind.u8.wrap (c / 2 ^ (8 * b).toNat))).getD 6 0), ((([g, h, i, j, k, m, n, o] : List Int).set b.toNat (IntKind.u8.wrap (c / 2 ^ (8 * b).toNat))).getD 7 0), t), ⟨bn, bh, bg, rfl, aH.1⟩, aH.2⟩
 ·have bo := au.2 (of_decide_eq_false hc)
  clear hc
  refine wp_exit ?_
  refine then_exit ?_
  refine then_exit ?_
  refine block_hit ?_
  have aI := ab.kp [(2, .pointer (some (⟨p, 0, none⟩ : Addr))), (3, .pointer (some (⟨q, 0, none⟩ : Addr)))] rfl
  refine then_normal (wp_seq (wp_region_lit ?_))
  refine sqv aI rfl (r_loadN (cs := [.int .u8 g, .int .u8 h, .int .u8 i, .int .u8 j, .int .u8 k, .int .u8 m, .int .u8 n, .int .u8 o]) Tryz.underlying66 rfl ti_66 (aI.get rfl) (aa.part 0 _ rfl)) fun _ al => ?_
  refine sq (opk_store al ag (r_store (vs := [.int .u8 g, .int .u8 h, .int .u8 i, .int .u8 j, .int .u8 k, .int .u8 m, .int .u8 n, .int .u8 o]) (al.get rfl) (al.get rfl) rfl ti_66 ag rfl (ones_all _ rfl)) fun bB v aJ bp bq => ?_)
  have br : Box v p 66 [.int .u8 g, .int .u8 h, .int .u8 i, .int .u8 j, .int .u8 k, .int .u8 m, .int .u8 n, .int .u8 o] := bp
  have bC := aa.keep aJ (by simpa using af.symm)
  have bs : Chg [p] r v := aJ
  refine sq_end ?_
  have aK := bq.kp [(2, .pointer (some (⟨p, 0, none⟩ : Addr)))] rfl
  refine then_normal ?_
  refine wp_ret ?_
  have bt := bo v    bs
  exact res_all (vs := [.agg #[.int .u8 g, .int .u8 h, .int .u8 i, .int .u8 j, .int .u8 k, .int .u8 m, .int .u8 n, .int .u8 o]]) rfl aK ⟨res_of_cell aK rfl br Tryz.underlying66 rfl ti_66, trivial⟩ bt
def bits_Of.vc (f : Int) (g : Int) (h : Int) (i : Int) (j : Int) (k : Int) (l : Int) (m : Int) (R : Value → World → Prop) (w : World) : Prop :=
∀ (n : World) (d : Nat), New w d n → Chg [] w n →
∃ (p : Int → Int → World → Prop) (q : Int → Int → World → Nat),
p 0 0 n ∧
(∀ (c : Int) (b : Int) (o : World), p c b o →
((b < 8) →
((0 : Int) ≤ b ∧ b < 8) ∧
(I64 (8 * b)) ∧
((0 : Int) ≤ (8 * b) ∧ (8 * b) ≤ 64) ∧
(I64 (b + 1)) ∧
p (bits .or .u64 c (IntKind.u64.wrap ((IntKind.u64.wrap (([f, g, h, i, j, k, l, m] : List Int).getD b.toNat 0)) * 2 ^ (8 * b).toNat))) (b + 1) o ∧ q (bits .or .u64 c (IntKind.u64.wrap ((IntKind.u64.wrap (([f, g, h, i, j, k, l, m] : List Int).getD b.toNat 0)) * 2 ^ (8 * b).toNat))) (b + 1) o < q c b o) ∧
((¬ (b < 8)) →
R (.int .u64 c) o))
theorem bits_Of.ok (f : Int) (g : Int) (h : Int) (i : Int) (j : Int) (k : Int) (l : Int) (m : Int) {R : Value → World → Prop} {w : World} (x : bits_Of.vc f g h i j k l m R w) : Calls Tryz.prog 55 #[.agg #[.int .u8 f, .int .u8 g, .int .u8 h, .int .u8 i, .int .u8 j, .int .u8 k, .int .u8 l, .int .u8 m]] w (Ret R) := by
 refine enter [.agg #[.int .u8 f, .int .u8 g, .int .u8 h, .int .u8 i, .int .u8 j, .int .u8 k, .int .u8 l, .int .u8 m]] Tryz.func55 rfl Tryz.ntmps55 rfl ?_
 intro a0 y
 unfold bits_Of.vc at x
 refine wp_seq (wp_region_lit ?_)
 refine sq (opk_new (fun B => .pointer (some ⟨B, 0, none⟩)) y rfl (r_box (cs := [.int .u8 f, .int .u8 g, .int .u8 h, .int .u8 i, .int .u8 j, .int .u8 k, .int .u8 l, .int .u8 m]) (y.get rfl) rfl) fun a4 n d ay az aA aB _ => ?_)
 have aC : New w d n := az
 have aD : Chg [] w n := ay
 refine sqv aB rfl (r_assign rfl) fun _ aF => sq_end ?_
 have aG := aF.kp [(1, .pointer (some (⟨d, 0, none⟩ : Addr)))] rfl
 refine then_normal (wp_seq (wp_region_lit ?_))
 refine sqv aG rfl (r_assign rfl) fun _ aH => sq_end ?_
 have aI := aH.kp [(1, .pointer (some (⟨d, 0, none⟩ : Addr))), (3, .int .u64 0)] rfl
 refine then_normal (wp_seq (wp_seq (wp_region_lit ?_)))
 refine sqv aI rfl (r_move rfl) fun _ aJ => sq_end ?_
 have aK := aJ.kp [(1, .pointer (some (⟨d, 0, none⟩ : Addr))), (3, .int .u64 0), (5, .int .i64 0)] rfl
 refine then_normal (wp_block ?_)
 have aL := x n d aC  aD
 obtain ⟨p, q, aM, aN⟩ := aL
 refine wp_loop_st (σ := Int × Int × World) (fun s a w => Ag 19 a [(1, .pointer (some (⟨d, 0, none⟩ : Addr))), (3, .int .u64 s.1), (5, .int .i64 s.2.1)] ∧ Box w d 66 [.int .u8 f, .int .u8 g, .int .u8 h, .int .u8 i, .int .u8 j, .int .u8 k, .int .u8 l, .int .u8 m] ∧ w = s.2.2 ∧ p s.1 s.2.1 s.2.2) (fun s => q s.1 s.2.1 s.2.2) (0, 0, n) ⟨aK.kp [(1, .pointer (some (⟨d, 0, none⟩ : Addr))), (3, .int .u64 0), (5, .int .i64 0)] rfl, aA, rfl, aM⟩ ?_
 rintro ⟨c, b, o⟩ a6 w_ ⟨aa, ab, hw_, aO⟩
 have hw_ : o = w_ := hw_.symm
 subst hw_
 have ad := aN c b _ aO
 refine wp_seq (wp_region_lit ?_)
 refine sqv aa rfl (r_lss (aa.get rfl) rfl) fun _ aP => sq_end ?_
 have r := aP.kp [(1, .pointer (some (⟨d, 0, none⟩ : Addr))), (3, .int .u64 c), (5, .int .i64 b), (6, .bool (decide (b < 8)))] rfl
 refine then_normal (wp_seq ?_)
 refine wp_cond_split (r.get rfl) (fun hc => ?_) (fun hc => ?_)
 ·have aQ := ad.1 (of_decide_eq_true hc)
  clear hc
  refine wp_skip ?_
  refine then_normal (wp_seq (wp_block (wp_seq (wp_region_lit ?_))))
  refine sqv r rfl (r_move (r.get rfl)) fun _ af => sqv af rfl (r_assign (af.get rfl)) fun _ aR => sq_end ?_
  have ag := aR.kp [(1, .pointer (some (⟨d, 0, none⟩ : Addr))), (3, .int .u64 c), (4, .int .i64 b), (5, .int .i64 b)] rfl
  refine then_normal (wp_region_lit ?_)
  refine sqv ag rfl (r_move (ag.get rfl)) fun _ ah => sqv ah rfl (r_move (ah.get rfl)) fun _ t => ?_
  obtain ⟨ai, aS⟩ := aQ
  refine sqv t rfl (r_indexAddrA (t.get rfl) (t.get rfl) Tryz.underlying66 ti_5 ai) fun _ aj => sqv aj rfl (r_load1 tU5 rfl (aj.get rfl) (Box.cellA ([f, g, h, i, j, k, l, m] : List Int) (fun z => Value.int .u8 z) 0 ab rfl rfl ai)) fun _ ak => sqv ak rfl (r_conv (ak.get rfl) rfl tU22) fun _ al => sqv al rfl (r_move (al.get rfl)) fun _ am => ?_
  obtain ⟨aT, aU⟩ := aS
  refine sqv am rfl (r_mulI rfl (am.get rfl) aT) fun _ u => ?_
  obtain ⟨an, aV⟩ := aU
  refine sqv u rfl (r_shl (u.get rfl) (u.get rfl) an.1 an.2) fun _ v => sqv v rfl (r_bor (v.get rfl) (v.get rfl)) fun _ ao => sqv ao rfl (r_assign (ao.get rfl)) fun _ aX => sq_end ?_
  have ap := aX.kp [(1, .pointer (some (⟨d, 0, none⟩ : Addr))), (3, .int .u64 (bits .or .u64 c (IntKind.u64.wrap ((IntKind.u64.wrap (([f, g, h, i, j, k, l, m] : List Int).getD b.toNat 0)) * 2 ^ (8 * b).toNat)))), (5, .int .i64 b)] rfl
  refine block_normal ?_
  refine then_normal (wp_region_lit ?_)
  obtain ⟨aY, aq⟩ := aV
  refine sqv ap rfl (r_addI (ap.get rfl) rfl aY) fun _ ar => sqv ar rfl (r_move (ar.get rfl)) fun _ aZ => sq_end ?_
  have hA87 := aZ.kp [(1, .pointer (some (⟨d, 0, none⟩ : Addr))), (3, .int .u64 (bits .or .u64 c (IntKind.u64.wrap ((IntKind.u64.wrap (([f, g, h, i, j, k, l, m] : List Int).getD b.toNat 0)) * 2 ^ (8 * b).toNat)))), (5, .int .i64 (b + 1))] rfl
  have a1 := hA87.kp [(1, .pointer (some (⟨d, 0, none⟩ : Addr))), (3, .int .u64 (bits .or .u64 c (IntKind.u64.wrap ((IntKind.u64.wrap (([f, g, h, i, j, k, l, m] : List Int).getD b.toNat 0)) * 2 ^ (8 * b).toNat)))), (5, .int .i64 (b + 1))] rfl
  exact then_normal ⟨(bits .or .u64 c (IntKind.u64.wrap ((IntKind.u64.wrap (([f, g, h, i, j, k, l, m] : List Int).getD b.toNat 0)) * 2 ^ (8 * b).toNat)), b + 1, o), ⟨a1, ab, rfl, aq.1⟩, aq.2⟩
 ·have a2 := ad.2 (of_decide_eq_false hc)
  clear hc
  refine wp_exit ?_
  refine then_exit ?_
  refine then_exit ?_
  refine block_hit ?_
  have au := r.kp [(3, .int .u64 c)] rfl
  refine then_normal (wp_seq (wp_region_lit ?_))
  refine sqv au rfl (r_move (au.get rfl)) fun _ av => sqv av rfl (r_assign (av.get rfl)) fun _ a3 => sq_end ?_
  have ax := a3.kp [(2, .int .u64 c)] rfl
  refine then_normal ?_
  refine wp_ret ?_
  exact res_all (vs := [.int .u64 c]) rfl ax ⟨res_of_tmp ax rfl, trivial⟩ a2
def bits_Mix.vc (a : Int) (b : Int) (R : Value → World → Prop) (w : World) : Prop :=
CallK Tryz.prog 185 #[.int .u64 (bits .xor .u64 (IntKind.u64.wrap ((bits .xor .u64 a b) * 11400714819323198485)) ((IntKind.u64.wrap ((bits .xor .u64 a b) * 11400714819323198485)) / 2 ^ 29)), .int .i64 31] w [] (fun v g => ∃ (c : Int), v = .int .u64 c ∧
R (.int .u64 c) g)
theorem bits_Mix.ok (a : Int) (b : Int) {R : Value → World → Prop} {w : World} (h : bits_Mix.vc a b R w) : Calls Tryz.prog 156 #[.int .u64 a, .int .u64 b] w (Ret R) := by
 refine enter [.int .u64 a, .int .u64 b] Tryz.func156 rfl Tryz.ntmps156 rfl ?_
 intro a0 s
 unfold bits_Mix.vc at h
 refine wp_seq (wp_region_lit ?_)
 refine sqv s rfl (r_assign rfl) fun _ t => sq_end ?_
 have i := t.kp [(0, .int .u64 a), (1, .int .u64 b)] rfl
 refine then_normal (wp_seq (wp_region_lit ?_))
 refine sqv i rfl (r_move (i.get rfl)) fun _ j => sqv j rfl (r_move (j.get rfl)) fun _ d => sqv d rfl (r_xor (d.get rfl) (d.get rfl)) fun _ k => sqv k rfl (r_mul (k.get rfl) rfl) fun _ l => sqv l rfl (r_assign (l.get rfl)) fun _ u => sq_end ?_
 have m := u.kp [(0, .int .u64 (IntKind.u64.wrap ((bits .xor .u64 a b) * 11400714819323198485)))] rfl
 refine then_normal (wp_seq (wp_region_lit ?_))
 refine sqv m rfl (r_move (m.get rfl)) fun _ n => sqv n rfl (r_move (n.get rfl)) fun _ o => sqv o rfl (r_shr (o.get rfl) rfl (by decide) (by decide)) fun _ f => sqv f rfl (r_xor (f.get rfl) (f.get rfl)) fun _ p => ?_
 refine sq (opk_call p rfl (r_call (args := #[.int .u64 (bits .xor .u64 (IntKind.u64.wrap ((bits .xor .u64 a b) * 11400714819323198485)) ((IntKind.u64.wrap ((bits .xor .u64 a b) * 11400714819323198485)) / 2 ^ 29)), .int .i64 31]) Tryz.func185 (by decide) rfl (map_arr (ml_cons (p.get rfl) (ml_cons rfl ml_nil))) rfl) h fun ab ad g q _ af ag x => ?_)
 obtain ⟨c, rfl, y⟩ := x
 refine sqv q rfl (r_assign (q.get rfl)) fun _ z => sq_end ?_
 have r := z.kp [(4, .int .u64 c)] rfl
 refine then_normal ?_
 refine wp_ret ?_
 exact res_all (vs := [.int .u64 c]) rfl r ⟨res_of_tmp r rfl, trivial⟩ y
def bits_Turn.vc (b : Int) (a : Int) (R : Value → World → Prop) (w : World) : Prop :=
((0 : Int) ≤ (bits .and .u64 (IntKind.u64.wrap a) 63) ∧ (bits .and .u64 (IntKind.u64.wrap a) 63) ≤ 64) ∧
((0 : Int) ≤ (IntKind.u64.wrap (64 - (bits .and .u64 (IntKind.u64.wrap a) 63))) ∧ (IntKind.u64.wrap (64 - (bits .and .u64 (IntKind.u64.wrap a) 63))) ≤ 64) ∧
R (.int .u64 (bits .or .u64 (IntKind.u64.wrap (b * 2 ^ (bits .and .u64 (IntKind.u64.wrap a) 63).toNat)) (b / 2 ^ (IntKind.u64.wrap (64 - (bits .and .u64 (IntKind.u64.wrap a) 63))).toNat))) w
theorem bits_Turn.ok (b : Int) (a : Int) {R : Value → World → Prop} {w : World} (g : bits_Turn.vc b a R w) : Calls Tryz.prog 185 #[.int .u64 b, .int .i64 a] w (Ret R) := by
 refine enter [.int .u64 b, .int .i64 a] Tryz.func185 rfl Tryz.ntmps185 rfl ?_
 intro a0 u
 unfold bits_Turn.vc at g
 refine wp_seq (wp_region_lit ?_)
 refine sqv u rfl (r_assign rfl) fun _ v => sq_end ?_
 have h := v.kp [(0, .int .u64 b), (1, .int .i64 a)] rfl
 refine then_normal (wp_seq (wp_region_lit ?_))
 refine sqv h rfl (r_move (h.get rfl)) fun _ i => sqv i rfl (r_conv (i.get rfl) rfl tU33) fun _ j => sqv j rfl (r_and (j.get rfl) rfl) fun _ k => sqv k rfl (r_assign (k.get rfl)) fun _ x => sq_end ?_
 have l := x.kp [(0, .int .u64 b), (5, .int .u64 (bits .and .u64 (IntKind.u64.wrap a) 63))] rfl
 refine then_normal (wp_seq (wp_region_lit ?_))
 refine sqv l rfl (r_move (l.get rfl)) fun _ m => sqv m rfl (r_move (m.get rfl)) fun _ c => ?_
 obtain ⟨n, y⟩ := g
 refine sqv c rfl (r_shl (c.get rfl) (c.get rfl) n.1 n.2) fun _ o => sqv o rfl (r_move (o.get rfl)) fun _ p => sqv p rfl (r_move (p.get rfl)) fun _ q => sqv q rfl (r_sub rfl (q.get rfl)) fun _ d => ?_
 obtain ⟨r, z⟩ := y
 refine sqv d rfl (r_shr (d.get rfl) (d.get rfl) r.1 r.2) fun _ f => sqv f rfl (r_bor (f.get rfl) (f.get rfl)) fun _ s => sqv s rfl (r_assign (s.get rfl)) fun _ aa => sq_end ?_
 have t := aa.kp [(4, .int .u64 (bits .or .u64 (IntKind.u64.wrap (b * 2 ^ (bits .and .u64 (IntKind.u64.wrap a) 63).toNat)) (b / 2 ^ (IntKind.u64.wrap (64 - (bits .and .u64 (IntKind.u64.wrap a) 63))).toNat)))] rfl
 refine then_normal ?_
 refine wp_ret ?_
 exact res_all (vs := [.int .u64 (bits .or .u64 (IntKind.u64.wrap (b * 2 ^ (bits .and .u64 (IntKind.u64.wrap a) 63).toNat)) (b / 2 ^ (IntKind.u64.wrap (64 - (bits .and .u64 (IntKind.u64.wrap a) 63))).toNat))]) rfl t ⟨res_of_tmp t rfl, trivial⟩ z
end Go.Proofs.YteacalmdpoblpaaGreat
