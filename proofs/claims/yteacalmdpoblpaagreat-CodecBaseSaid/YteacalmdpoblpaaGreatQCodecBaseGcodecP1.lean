/-
  PRINTED BY PROGRAM: for each function its condition (vc), and that this suffices (ok).
-/
import Derived.Test.YteacalmdpoblpaaGreatQCodecBaseGT
namespace Go.Proofs.YteacalmdpoblpaaGreat
open Go.RowKit
set_option linter.unusedVariables false
set_option maxHeartbeats 1000000
set_option maxRecDepth 10000
def codec_Encode.vc (i : Int) (j : Int) (b : Sl) (R : Value → World → Prop) (w : World) : Prop :=
((1500 < (b.n : Int)) →
R (.tuple #[Sl.v Sl.nil, .int .i64 2]) w) ∧
((¬ (1500 < (b.n : Int))) →
RunK Tryz.prog (Instr.makeMap 60 none) w [] (fun v b5 => ∃ (d : Option Nat), v = .map d ∧
∃ (bg : Sl → Int → World → Prop) (bK : Sl → Int → World → Nat),
bg Sl.nil 0 b5 ∧
(∀ (f : Sl) (o : Int) (an : World), bg f o an →
((o < (b.n : Int)) →
((0 : Int) ≤ o ∧ o < (b.n : Int)) ∧ ∃ b6 : Addr, b.a = some b6 ∧
∃ (aD : Int) (aF : Int) (ai : Int) (ao : Int) (aG : Int) (aH : Str) (aI : Str), (Cells an (b6.add (o.toNat * 7)) [.int .i64 aD, .int .i64 aF, .int .i64 ai, .int .i64 ao, .int .i64 aG, .string (Bs aH), .string (Bs aI)]) ∧
∀ (a5 : World) (aJ : Nat), New an aJ a5 → Chg [] an a5 →
CallK Tryz.prog 24 #[.agg #[.int .i64 aD, .int .i64 aF, .int .i64 ai, .int .i64 ao, .int .i64 aG, .string (Bs aH), .string (Bs aI)]] a5 [aJ] (fun v b7 => ∃ (ap : Bool), v = .bool ap ∧
((((ap = false) ∨ (ai < 0)) ∨ (ao < 0)) →
R (.tuple #[Sl.v Sl.nil, .int .i64 15]) b7) ∧
((((ap = true) ∧ (¬ (ai < 0))) ∧ (¬ (ao < 0))) →
CallK Tryz.prog 25 #[.agg #[.int .i64 aD, .int .i64 aF, .int .i64 ai, .int .i64 ao, .int .i64 aG, .string (Bs aH), .string (Bs aI)]] b7 [aJ] (fun v b8 => ∃ (p : Sl), v = Sl.v p ∧
∃ (a6 : Sl → Int → World → Prop) (a7 : Sl → Int → World → Nat),
a6 f 0 b8 ∧
(∀ (u : Sl) (r : Int) (al : World), a6 u r al →
((r < (p.n : Int)) →
((0 : Int) ≤ r ∧ r < (p.n : Int)) ∧ ∃ b9 : Addr, p.a = some b9 ∧
∃ (ar : Str), (al.cell? (b9.add (r.toNat * 1)) = some (.string (Bs ar))) ∧
∃ (c1 : Int) (a8 : Bool), ((Instr.lookup 60 (.map d) (.string (Bs ar)) true).run Tryz.prog al = .ok (.tuple #[.int .i64 c1, .bool a8]) al) ∧
((a8 = false) →
RunU Tryz.prog (Instr.mapUpdate 60 (.map d) (.string (Bs ar)) (.int .i64 (u.n : Int))) al [] (fun bh =>
∀ (aM : World) (a9 : Nat), New bh a9 aM → Chg [] bh aM →
∀ (_ : Box aM a9 9 [.string (Bs ar)]),
RunK Tryz.prog (Builtin.append_ #[61, 61] 61 #[Sl.v u, Sl.v (Sl.mk (some ⟨a9, 0, none⟩) 1 1)]) aM [] (fun v bL => ∃ (aN : Sl), v = Sl.v aN ∧
(I64 (r + 1)) ∧
a6 aN (r + 1) bL ∧ a7 aN (r + 1) bL < a7 u r al))) ∧
((a8 = true) →
(I64 (r + 1)) ∧
a6 u (r + 1) al ∧ a7 u (r + 1) al < a7 u r al)) ∧
((¬ (r < (p.n : Int))) →
(I64 (o + 1)) ∧
bg u (o + 1) al ∧ bK u (o + 1) al < bK f o an)))))) ∧
((¬ (o < (b.n : Int))) →
∀ (aO : World) (ba : Nat), New an ba aO → Chg [] an aO →
∀ (_ : Box aO ba 5 [.int .u8 116, .int .u8 112, .int .u8 121, .int .u8 49]),
RunK Tryz.prog (convert 27 27 (Sl.v (Sl.mk (some ⟨ba, 0, none⟩) 4 4))) aO [] (fun v ca => ∃ (aX : Sl), v = Sl.v aX ∧
∃ (bi : Sl → Int → World → Prop) (bM : Sl → Int → World → Nat),
bi aX 0 ca ∧
(∀ (au : Sl) (z : Int) (bb : World), bi au z bb →
((z < 2) →
((0 : Int) ≤ z ∧ z < 2) ∧
CallK Tryz.prog 26 #[.int .u64 (([i, j] : List Int).getD z.toNat 0)] bb [] (fun v bj => ∃ (bk : Int) (bl : Int) (bm : Int) (bn : Int) (bo : Int) (bp : Int) (bq : Int) (br : Int), v = .agg #[.int .u8 bk, .int .u8 bl, .int .u8 bm, .int .u8 bn, .int .u8 bo, .int .u8 bp, .int .u8 bq, .int .u8 br] ∧
∀ (aY : World) (aP : Nat), New bj aP aY → Chg [] bj aY →
∀ (_ : Box aY aP 66 [.int .u8 bk, .int .u8 bl, .int .u8 bm, .int .u8 bn, .int .u8 bo, .int .u8 bp, .int .u8 bq, .int .u8 br]),
RunK Tryz.prog (Builtin.append_ #[27, 27] 27 #[Sl.v au, Sl.v (Sl.mk (some ⟨aP, 0, none⟩) 8 8)]) aY [] (fun v bN => ∃ (aQ : Sl), v = Sl.v aQ ∧
(I64 (z + 1)) ∧
bi aQ (z + 1) bN ∧ bM aQ (z + 1) bN < bM au z bb))) ∧
((¬ (z < 2)) →
CallK Tryz.prog 27 #[Sl.v au, .int .u64 (IntKind.u64.wrap (f.n : Int))] bb [] (fun v cb => ∃ (aZ : Sl), v = Sl.v aZ ∧
∃ (bs : Sl → Int → World → Prop) (bO : Sl → Int → World → Nat),
bs aZ 0 cb ∧
(∀ (ak : Sl) (aa : Int) (aR : World), bs ak aa aR →
((aa < (f.n : Int)) →
((0 : Int) ≤ aa ∧ aa < (f.n : Int)) ∧ ∃ cc : Addr, f.a = some cc ∧
∃ (aK : Str), (aR.cell? (cc.add (aa.toNat * 1)) = some (.string (Bs aK))) ∧
(I64 (65536 - (ak.n : Int))) ∧
(((65536 - (ak.n : Int)) < (aK.length : Int)) →
R (.tuple #[Sl.v Sl.nil, .int .i64 2]) aR) ∧
((¬ ((65536 - (ak.n : Int)) < (aK.length : Int))) →
CallK Tryz.prog 28 #[Sl.v ak, .string (Bs aK)] aR [] (fun v bP => ∃ (aS : Sl), v = Sl.v aS ∧
(I64 (aa + 1)) ∧
bs aS (aa + 1) bP ∧ bO aS (aa + 1) bP < bO ak aa aR))) ∧
((¬ (aa < (f.n : Int))) →
CallK Tryz.prog 27 #[Sl.v ak, .int .u64 (IntKind.u64.wrap (b.n : Int))] aR [] (fun v cd => ∃ (r_794 : Sl), v = Sl.v r_794 ∧
∃ (bt : Sl → Int → World → Prop) (bQ : Sl → Int → World → Nat),
bt r_794 0 cd ∧
(∀ (t : Sl) (k : Int) (av : World), bt t k av →
((k < (b.n : Int)) →
((0 : Int) ≤ k ∧ k < (b.n : Int)) ∧ ∃ cf : Addr, b.a = some cf ∧
∃ (ab : Int) (ad : Int) (ax : Int) (ay : Int) (az : Int) (aA : Str) (aB : Str), (Cells av (cf.add (k.toNat * 7)) [.int .i64 ab, .int .i64 ad, .int .i64 ax, .int .i64 ay, .int .i64 az, .string (Bs aA), .string (Bs aB)]) ∧
∀ (aT : World) (m : Nat), New av m aT → Chg [] av aT →
∀ (a1 : World) (aj : Nat), Ext aT a1 → aT.heap.size ≤ aj → Box a1 aj 5 [.int .u8 (IntKind.u8.wrap ab)] → 
∀ (_ : Box a1 aj 5 [.int .u8 (IntKind.u8.wrap ab)]),
RunK Tryz.prog (Builtin.append_ #[27, 27] 27 #[Sl.v t, Sl.v (Sl.mk (some ⟨aj, 0, none⟩) 1 1)]) a1 [m] (fun v cg => ∃ (bd : Sl), v = Sl.v bd ∧
∀ (a2 : World), Chg [] cg a2 →
∃ a3 : Sl → World → Prop, (∀ q : Sl, ∀ w' w'' : World, Ext w' w'' → a3 q w' → a3 q w'') ∧
(∀ w' : World, Ext a2 w' → Calls Tryz.prog 27 #[Sl.v bd, .int .u64 (IntKind.u64.wrap ad)] w' (Ret fun v w'' => Ext w' w'' ∧ ∃ q : Sl, v = Sl.v q ∧ a3 q w'')) ∧
∀ (bf : World) (q : Sl), Ext a2 bf → a3 q bf → 
CallK Tryz.prog 29 #[.agg #[.int .i64 ab, .int .i64 ad, .int .i64 ax, .int .i64 ay, .int .i64 az, .string (Bs aA), .string (Bs aB)]] bf [m] (fun v ch => ∃ (x : Sl), v = Sl.v x ∧
∃ (bu : Sl → Int → World → Prop) (bR : Sl → Int → World → Nat),
bu q 0 ch ∧
(∀ (aq : Sl) (af : Int) (a4 : World), bu aq af a4 →
((af < (x.n : Int)) →
((0 : Int) ≤ af ∧ af < (x.n : Int)) ∧ ∃ ci : Addr, x.a = some ci ∧
∃ (bv : Int), (a4.cell? (ci.add (af.toNat * 1)) = some (.int .i64 bv)) ∧
CallK Tryz.prog 27 #[Sl.v aq, .int .u64 (IntKind.u64.wrap bv)] a4 [m] (fun v bS => ∃ (aU : Sl), v = Sl.v aU ∧
(I64 (af + 1)) ∧
bu aU (af + 1) bS ∧ bR aU (af + 1) bS < bR aq af a4)) ∧
((¬ (af < (x.n : Int))) →
CallK Tryz.prog 25 #[.agg #[.int .i64 ab, .int .i64 ad, .int .i64 ax, .int .i64 ay, .int .i64 az, .string (Bs aA), .string (Bs aB)]] a4 [m] (fun v cj => ∃ (y : Sl), v = Sl.v y ∧
∃ (bx : Sl → Int → World → Prop) (bT : Sl → Int → World → Nat),
bx aq 0 cj ∧
(∀ (am : Sl) (ah : Int) (aC : World), bx am ah aC →
((ah < (y.n : Int)) →
((0 : Int) ≤ ah ∧ ah < (y.n : Int)) ∧ ∃ ck : Addr, y.a = some ck ∧
∃ (bU : Str), (aC.cell? (ck.add (ah.toNat * 1)) = some (.string (Bs bU))) ∧
∃ (bV : Int), ((Instr.lookup 60 (.map d) (.string (Bs bU)) false).run Tryz.prog aC = .ok (.int .i64 bV) aC) ∧
CallK Tryz.prog 27 #[Sl.v am, .int .u64 (IntKind.u64.wrap bV)] aC [] (fun v bX => ∃ (aV : Sl), v = Sl.v aV ∧
(I64 (ah + 1)) ∧
bx aV (ah + 1) bX ∧ bT aV (ah + 1) bX < bT am ah aC)) ∧
((¬ (ah < (y.n : Int))) →
(I64 (k + 1)) ∧
bt am (k + 1) aC ∧ bQ am (k + 1) aC < bQ t k av)))))))) ∧
((¬ (k < (b.n : Int))) →
(I64 ((t.n : Int) + 4)) ∧
((65536 < ((t.n : Int) + 4)) →
R (.tuple #[Sl.v Sl.nil, .int .i64 2]) av) ∧
((¬ (65536 < ((t.n : Int) + 4))) →
CallK Tryz.prog 30 #[Sl.v t] av [] (fun v c2 => ∃ (cl : Sl), v = Sl.v cl ∧
RunK Tryz.prog (Builtin.append_ #[27, 27] 27 #[Sl.v t, Sl.v cl]) c2 [] (fun v c3 => ∃ (bz : Sl), v = Sl.v bz ∧
R (.tuple #[Sl.v bz, .int .i64 0]) c3))))))))))))))))
theorem codec_Encode.ok (i : Int) (j : Int) (b : Sl) {R : Value → World → Prop} {w : World} (cm : codec_Encode.vc i j b R w) : Calls Tryz.prog 8 #[.int .u64 i, .int .u64 j, Sl.v b] w (Ret R) := by
 refine enter [.int .u64 i, .int .u64 j, Sl.v b] Tryz.func8 rfl Tryz.ntmps8 rfl ?_
 intro a0 gM
 unfold codec_Encode.vc at cm
 refine wp_seq (wp_region_lit ?_)
 refine sqv gM rfl (r_assign rfl) fun _ gN => sqv gN rfl (r_assign rfl) fun _ gO => sq_end ?_
 have c4 := gO.kp [(0, .int .u64 i), (1, .int .u64 j), (2, Sl.v b)] rfl
 refine then_normal (wp_seq (wp_seq (wp_region_lit ?_)))
 refine sqv c4 rfl (r_move (c4.get rfl)) fun _ c5 => sqv c5 rfl (r_len (c5.get rfl) tU23) fun _ c6 => sqv c6 rfl (r_gtr (c6.get rfl) rfl) fun _ gP => sq_end ?_
 have cn := gP.kp [(0, .int .u64 i), (1, .int .u64 j), (2, Sl.v b), (30, .bool (decide (1500 < (b.n : Int))))] rfl
 refine then_normal ?_
 refine wp_cond_split (cn.get rfl) (fun hc => ?_) (fun hc => ?_)
 ·have gQ := cm.1 (of_decide_eq_true hc)
  clear hc
  refine wp_seq (wp_region_lit ?_)
  refine sqv cn rfl (r_assign rfl) fun _ gR => sqv gR rfl (r_assign rfl) fun _ gS => sq_end ?_
  have co := gS.kp [(6, Sl.v Sl.nil), (7, .int .i64 2)] rfl
  refine then_normal ?_
  refine wp_ret ?_
  refine then_ret ?_
  exact res_all (vs := [Sl.v Sl.nil, .int .i64 2]) rfl co ⟨res_of_tmp co rfl, res_of_tmp co rfl, trivial⟩ gQ
 ·have gT := cm.2 (of_decide_eq_false hc)
  clear hc
  refine wp_skip ?_
  refine then_normal (wp_seq (wp_region_lit ?_))
  refine sq (opk_run cn rfl (fun _ _ hr => r_makeMap hr) gT fun mn mo b5 c7 _ mp mq gU => ?_)
  obtain ⟨d, rfl, gV⟩ := gU
  refine sqv c7 rfl (r_assign (c7.get rfl)) fun _ gX => sq_end ?_
  have gY := gX.kp [(0, .int .u64 i), (1, .int .u64 j), (2, Sl.v b), (8, .map d)] rfl
  refine then_normal (wp_seq (wp_region_lit ?_))
  refine sqv gY rfl (r_assign rfl) fun _ gZ => sq_end ?_
  have c8 := gZ.kp [(0, .int .u64 i), (1, .int .u64 j), (2, Sl.v b), (8, .map d), (9, Sl.v Sl.nil)] rfl
  refine then_normal (wp_seq (wp_seq (wp_region_lit ?_)))
  refine sqv c8 rfl (r_move (c8.get rfl)) fun _ c9 => sqv c9 rfl (r_len (c9.get rfl) tU23) fun _ g0 => sqv g0 rfl (r_move rfl) fun _ g1 => sq_end ?_
  have g2 := g1.kp [(0, .int .u64 i), (1, .int .u64 j), (2, Sl.v b), (8, .map d), (9, Sl.v Sl.nil), (32, Sl.v b), (33, .int .i64 (b.n : Int)), (34, .int .i64 0)] rfl
  refine then_normal (wp_block ?_)
  obtain ⟨bg, bK, g3, g4⟩ := gV
  refine wp_loop_st (σ := Sl × Int × World) (fun s a w => Ag 167 a [(0, .int .u64 i), (1, .int .u64 j), (2, Sl.v b), (8, .map d), (9, Sl.v s.1), (32, Sl.v b), (33, .int .i64 (b.n : Int)), (34, .int .i64 s.2.1)] ∧ w = s.2.2 ∧ bg s.1 s.2.1 s.2.2) (fun s => bK s.1 s.2.1 s.2.2) (Sl.nil, 0, b5) ⟨g2.kp [(0, .int .u64 i), (1, .int .u64 j), (2, Sl.v b), (8, .map d), (9, Sl.v Sl.nil), (32, Sl.v b), (33, .int .i64 (b.n : Int)), (34, .int .i64 0)] rfl, rfl, g3⟩ ?_
  rintro ⟨f, o, an⟩ mr w_ ⟨cp, hw_, g5⟩
  have hw_ : an = w_ := hw_.symm
  subst hw_
  have da := g4 f o _ g5
  refine wp_seq (wp_region_lit ?_)
  refine sqv cp rfl (r_lss (cp.get rfl) (cp.get rfl)) fun _ g6 => sq_end ?_
  have bA := g6.kp [(0, .int .u64 i), (1, .int .u64 j), (2, Sl.v b), (8, .map d), (9, Sl.v f), (32, Sl.v b), (33, .int .i64 (b.n : Int)), (34, .int .i64 o), (35, .bool (decide (o < (b.n : Int))))] rfl
  refine then_normal (wp_seq ?_)
  refine wp_cond_split (bA.get rfl) (fun hc => ?_) (fun hc => ?_)
  ·have g7 := da.1 (of_decide_eq_true hc)
   clear hc
   refine wp_skip ?_
   refine then_normal (wp_seq (wp_block (wp_seq (wp_region_lit ?_))))
   obtain ⟨g8, b6, g9, ha⟩ := g7
   refine sqv bA rfl (r_indexAddr (bA.get rfl) (bA.get rfl) tU23 ti_59 g8 g9) fun _ db => ?_
   obtain ⟨aD, aF, ai, ao, aG, aH, aI, hb, hf⟩ := ha
   refine sqv db rfl (r_loadN Tryz.underlying59 rfl ti_59 (db.get rfl) hb) fun _ hh => ?_
   refine sq (opk_new (fun B => .pointer (some ⟨B, 0, none⟩)) hh rfl (r_alloc (cs := [.int .i64 0, .int .i64 0, .int .i64 0, .int .i64 0, .int .i64 0, .string (Bs []), .string (Bs [])]) ti_59 rfl) fun ms dc aJ hi hj dd cq _ => ?_)
   have df : New an aJ dc := hj
   have hk : Chg [] an dc := hi
   refine sq (opk_store cq dd (r_store (vs := [.int .i64 aD, .int .i64 aF, .int .i64 ai, .int .i64 ao, .int .i64 aG, .string (Bs aH), .string (Bs aI)]) (cq.get rfl) (cq.get rfl) rfl ti_59 dd rfl (ones_all _ rfl)) fun mt a5 dg hl hm => ?_)
   have dh : Box a5 aJ 59 [.int .i64 aD, .int .i64 aF, .int .i64 ai, .int .i64 ao, .int .i64 aG, .string (Bs aH), .string (Bs aI)] := hl
   have hn := hk.storeNew df dg
   have ho := df.up dg.size
   refine sq_end ?_
   have di := hm.kp [(0, .int .u64 i), (1, .int .u64 j), (2, Sl.v b), (8, .map d), (9, Sl.v f), (11, .pointer (some (⟨aJ, 0, none⟩ : Addr))), (32, Sl.v b), (33, .int .i64 (b.n : Int)), (34, .int .i64 o)] rfl
   refine then_normal (wp_seq (wp_seq (wp_region_lit ?_)))
   refine sqv di rfl (r_loadN (cs := [.int .i64 aD, .int .i64 aF, .int .i64 ai, .int .i64 ao, .int .i64 aG, .string (Bs aH), .string (Bs aI)]) Tryz.underlying59 rfl ti_59 (di.get rfl) (dh.part 0 _ rfl)) fun _ dj => ?_
   have hp := hf a5 aJ ho  hn
   refine sq (opk_call dj rfl (r_call (args := #[.agg #[.int .i64 aD, .int .i64 aF, .int .i64 ai, .int .i64 ao, .int .i64 aG, .string (Bs aH), .string (Bs aI)]]) Tryz.func24 (by decide) rfl (map_arr (ml_cons (dj.get rfl) ml_nil)) rfl) hp fun mu mv b7 dk _ hq mx hs => ?_)
   obtain ⟨ap, rfl, dl⟩ := hs
   have bY := dh.kept hq (.head _)
   refine sqv dk rfl (r_not (dk.get rfl)) fun _ dm => sqv dm rfl (r_move (dm.get rfl)) fun _ dn => ?_
   refine sq (opk_gval dn rfl rfl (g := true) (e := (!ap)) rfl (fun hg => r_fieldAddr (dn.get rfl) Tryz.underlying59 rfl ti_3 (by decide)) fun my dp _ => ?_)
   refine sq (opk_gval dp rfl rfl (g := true) (e := (!ap)) rfl (fun hg => r_load1 tU3 rfl (cv_get (dp.get rfl) hg) (bY.cell 2 _ rfl)) fun mz dq _ => ?_)
   refine sq (opk_gval dq rfl rfl (g := true) (e := (!ap)) rfl (fun hg => r_lss (cv_get (dq.get rfl) hg) rfl) fun mA cr _ => ?_)
   refine sqv cr rfl (r_pick_or (g := (true && ((!ap) == false))) (cr.get rfl) (cr.get rfl) (fun he => g_mkf rfl he)) fun _ dr => sqv dr rfl (r_move (dr.get rfl)) fun _ ds => ?_
   refine sq (opk_gval ds rfl rfl (g := true) (e := ((!ap) || (decide (ai < 0)))) rfl (fun hg => r_fieldAddr (ds.get rfl) Tryz.underlying59 rfl ti_3 (by decide)) fun mB dt _ => ?_)
   refine sq (opk_gval dt rfl rfl (g := true) (e := ((!ap) || (decide (ai < 0)))) rfl (fun hg => r_load1 tU3 rfl (cv_get (dt.get rfl) hg) (bY.cell 3 _ rfl)) fun mC du _ => ?_)
   refine sq (opk_gval du rfl rfl (g := true) (e := ((!ap) || (decide (ai < 0)))) rfl (fun hg => r_lss (cv_get (du.get rfl) hg) rfl) fun mD ct _ => ?_)
   refine sqv ct rfl (r_pick_or (g := (true && (((!ap) || (decide (ai < 0))) == false))) (ct.get rfl) (ct.get rfl) (fun he => g_mkf rfl he)) fun _ ht => sq_end ?_
   have bZ := ht.kp [(0, .int .u64 i), (1, .int .u64 j), (2, Sl.v b), (8, .map d), (9, Sl.v f), (11, .pointer (some (⟨aJ, 0, none⟩ : Addr))), (32, Sl.v b), (33, .int .i64 (b.n : Int)), (34, .int .i64 o), (50, .bool (((!ap) || (decide (ai < 0))) || (decide (ao < 0))))] rfl
   refine then_normal ?_
   refine wp_cond_split (bZ.get rfl) (fun hc => ?_) (fun hc => ?_)
   ·have hu := dl.1 ((b_or_t hc).imp (fun h => ((b_or_t h).imp (fun h => (b_not_t h)) (fun h => (of_decide_eq_true h)))) (fun h => (of_decide_eq_true h)))
    clear hc
    refine wp_seq (wp_region_lit ?_)
    refine sqv bZ rfl (r_assign rfl) fun _ hv => sqv hv rfl (r_assign rfl) fun _ hx => sq_end ?_
    have cu := hx.kp [(6, Sl.v Sl.nil), (7, .int .i64 15)] rfl
    refine then_normal ?_
    refine wp_ret ?_
    refine then_ret ?_
    refine block_ret ?_
    refine then_ret ?_
    refine then_ret ?_
    refine block_ret ?_
    refine then_ret ?_
    exact res_all (vs := [Sl.v Sl.nil, .int .i64 15]) rfl cu ⟨res_of_tmp cu rfl, res_of_tmp cu rfl, trivial⟩ hu
   ·have hy := dl.2 ⟨⟨(b_not_f (b_or_f (b_or_f hc).1).1), (of_decide_eq_false (b_or_f (b_or_f hc).1).2)⟩, (of_decide_eq_false (b_or_f hc).2)⟩
    clear hc
    refine wp_skip ?_
    refine then_normal (wp_seq (wp_region_lit ?_))
    refine sqv bZ rfl (r_loadN (cs := [.int .i64 aD, .int .i64 aF, .int .i64 ai, .int .i64 ao, .int .i64 aG, .string (Bs aH), .string (Bs aI)]) Tryz.underlying59 rfl ti_59 (bZ.get rfl) (bY.part 0 _ rfl)) fun _ dv => ?_
    refine sq (opk_call dv rfl (r_call (args := #[.agg #[.int .i64 aD, .int .i64 aF, .int .i64 ai, .int .i64 ao, .int .i64 aG, .string (Bs aH), .string (Bs aI)]]) Tryz.func25 (by decide) rfl (map_arr (ml_cons (dv.get rfl) ml_nil)) rfl) hy fun mF mG b8 dx _ hz mH hA => ?_)
    obtain ⟨p, rfl, hB⟩ := hA
    have mI := bY.kept hz (.head _)
    refine sqv dx rfl (r_len (dx.get rfl) tU61) fun _ hC => sqv hC rfl (r_move rfl) fun _ hD => sq_end ?_
    have hF := hD.kp [(0, .int .u64 i), (1, .int .u64 j), (2, Sl.v b), (8, .map d), (9, Sl.v f), (32, Sl.v b), (33, .int .i64 (b.n : Int)), (34, .int .i64 o), (52, Sl.v p), (53, .int .i64 (p.n : Int)), (54, .int .i64 0)] rfl
    refine then_normal (wp_block ?_)
    obtain ⟨a6, a7, hG, hH⟩ := hB
    refine wp_loop_st (σ := Sl × Int × World) (fun s a w => Ag 167 a [(0, .int .u64 i), (1, .int .u64 j), (2, Sl.v b), (8, .map d), (9, Sl.v s.1), (32, Sl.v b), (33, .int .i64 (b.n : Int)), (34, .int .i64 o), (52, Sl.v p), (53, .int .i64 (p.n : Int)), (54, .int .i64 s.2.1)] ∧ w = s.2.2 ∧ a6 s.1 s.2.1 s.2.2) (fun s => a7 s.1 s.2.1 s.2.2) (f, 0, b8) ⟨hF.kp [(0, .int .u64 i), (1, .int .u64 j), (2, Sl.v b), (8, .map d), (9, Sl.v f), (32, Sl.v b), (33, .int .i64 (b.n : Int)), (34, .int .i64 o), (52, Sl.v p), (53, .int .i64 (p.n : Int)), (54, .int .i64 0)] rfl, rfl, hG⟩ ?_
    rintro ⟨u, r, al⟩ mJ w_ ⟨cv, hw_, hI⟩
    have hw_ : al = w_ := hw_.symm
    subst hw_
    have dy := hH u r _ hI
    refine wp_seq (wp_region_lit ?_)
    refine sqv cv rfl (r_lss (cv.get rfl) (cv.get rfl)) fun _ hJ => sq_end ?_
    have bB := hJ.kp [(0, .int .u64 i), (1, .int .u64 j), (2, Sl.v b), (8, .map d), (9, Sl.v u), (32, Sl.v b), (33, .int .i64 (b.n : Int)), (34, .int .i64 o), (52, Sl.v p), (53, .int .i64 (p.n : Int)), (54, .int .i64 r), (55, .bool (decide (r < (p.n : Int))))] rfl
    refine then_normal (wp_seq ?_)
    refine wp_cond_split (bB.get rfl) (fun hc => ?_) (fun hc => ?_)
    ·have hK := dy.1 (of_decide_eq_true hc)
     clear hc
     refine wp_skip ?_
     refine then_normal (wp_seq (wp_block (wp_seq (wp_region_lit ?_))))
     obtain ⟨hL, b9, hM, hN⟩ := hK
     refine sqv bB rfl (r_indexAddr (bB.get rfl) (bB.get rfl) tU61 ti_9 hL hM) fun _ dz => ?_
     obtain ⟨ar, hO, hP⟩ := hN
     refine sqv dz rfl (r_load1 tU9 rfl (dz.get rfl) hO) fun _ dA => sqv dA rfl (r_assign (dA.get rfl)) fun _ hQ => sq_end ?_
     have dB := hQ.kp [(0, .int .u64 i), (1, .int .u64 j), (2, Sl.v b), (8, .map d), (9, Sl.v u), (13, .string (Bs ar)), (32, Sl.v b), (33, .int .i64 (b.n : Int)), (34, .int .i64 o), (52, Sl.v p), (53, .int .i64 (p.n : Int)), (54, .int .i64 r)] rfl
     refine then_normal (wp_seq (wp_region_lit ?_))
     refine sqv dB rfl (r_move (dB.get rfl)) fun _ dC => sqv dC rfl (r_move (dC.get rfl)) fun _ cx => ?_
     obtain ⟨c1, a8, hR, dD⟩ := hP
     refine sqv cx rfl (r_lookup (cx.get rfl) (cx.get rfl) hR) fun _ dF => sqv dF rfl (r_move (dF.get rfl)) fun _ dG => sqv dG rfl (r_extract (dG.get rfl) rfl) fun _ dH => sqv dH rfl (r_extract (dH.get rfl) rfl) fun _ dI => sqv dI rfl (r_assign (dI.get rfl)) fun _ dJ => sqv dJ rfl (r_assign (dJ.get rfl)) fun _ hS => sq_end ?_
     have dK := hS.kp [(0, .int .u64 i), (1, .int .u64 j), (2, Sl.v b), (8, .map d), (9, Sl.v u), (13, .string (Bs ar)), (15, .bool a8), (32, Sl.v b), (33, .int .i64 (b.n : Int)), (34, .int .i64 o), (52, Sl.v p), (53, .int .i64 (p.n : Int)), (54, .int .i64 r)] rfl
     refine then_normal (wp_seq (wp_region_lit ?_))
     refine sqv dK rfl (r_move (dK.get rfl)) fun _ dL => sqv dL rfl (r_not (dL.get rfl)) fun _ hU => sq_end ?_
     have bC := hU.kp [(0, .int .u64 i), (1, .int .u64 j), (2, Sl.v b), (8, .map d), (9, Sl.v u), (13, .string (Bs ar)), (32, Sl.v b), (33, .int .i64 (b.n : Int)), (34, .int .i64 o), (52, Sl.v p), (53, .int .i64 (p.n : Int)), (54, .int .i64 r), (65, .bool (!a8))] rfl
     refine then_normal ?_
     refine wp_cond_split (bC.get rfl) (fun hc => ?_) (fun hc => ?_)
     ·have hX := dD.1 (b_not_t hc)
      clear hc
      refine wp_seq (wp_region_lit ?_)
      refine sqv bC rfl (r_move (bC.get rfl)) fun _ dM => sqv dM rfl (r_move (dM.get rfl)) fun _ dN => sqv dN rfl (r_move (dN.get rfl)) fun _ dO => sqv dO rfl (r_len (dO.get rfl) tU61) fun _ b0 => ?_
      refine sq (opk_runU b0 (fun _ hr => r_mapUpdate (b0.get rfl) (b0.get rfl) (b0.get rfl) hr) hX fun mK bh hY mL mM hZ => ?_)
      refine sq_end ?_
      have dP := hY.kp [(0, .int .u64 i), (1, .int .u64 j), (2, Sl.v b), (8, .map d), (9, Sl.v u), (13, .string (Bs ar)), (32, Sl.v b), (33, .int .i64 (b.n : Int)), (34, .int .i64 o), (52, Sl.v p), (53, .int .i64 (p.n : Int)), (54, .int .i64 r)] rfl
      refine then_normal (wp_region_lit ?_)
      refine sqv dP rfl (r_move (dP.get rfl)) fun _ dQ => sqv dQ rfl (r_move (dQ.get rfl)) fun _ dR => ?_
      refine sq (opk_new (fun B => .slice (some ⟨B, 0, none⟩) 1 1) dR rfl (r_buildSlice (vs := #[(0, .string (Bs ar))]) (cs := [.string (Bs ar)]) (map_arr2 (ml2_cons (dR.get rfl) (ml2_nil))) tU61 ti_9 rfl rfl (by kernel_rfl)) fun mN aM a9 h0 h1 h2 cy _ => ?_)
      have h3 : New bh a9 aM := h1
      have h4 : Chg [] bh aM := h0
      have h5 := hZ aM a9 h3  h4
      have h6 := h5 h2
      refine sq (opk_run cy rfl (fun _ _ hr => r_append (cy.get rfl) (cy.get rfl) hr) h6 fun mO mP bL dS _ mQ mR h7 => ?_)
      obtain ⟨aN, rfl, h8⟩ := h7
      refine sqv dS rfl (r_assign (dS.get rfl)) fun _ h9 => sq_end ?_
      have dT := h9.kp [(0, .int .u64 i), (1, .int .u64 j), (2, Sl.v b), (8, .map d), (9, Sl.v aN), (32, Sl.v b), (33, .int .i64 (b.n : Int)), (34, .int .i64 o), (52, Sl.v p), (53, .int .i64 (p.n : Int)), (54, .int .i64 r)] rfl
      refine block_normal ?_
      refine then_normal (wp_region_lit ?_)
      obtain ⟨ia, dU⟩ := h8
      refine sqv dT rfl (r_addI (dT.get rfl) rfl ia) fun _ dV => sqv dV rfl (r_move (dV.get rfl)) fun _ ib => sq_end ?_
      have ig := ib.kp [(0, .int .u64 i), (1, .int .u64 j), (2, Sl.v b), (8, .map d), (9, Sl.v aN), (32, Sl.v b), (33, .int .i64 (b.n : Int)), (34, .int .i64 o), (52, Sl.v p), (53, .int .i64 (p.n : Int)), (54, .int .i64 (r + 1))] rfl
      have ih := ig.kp [(0, .int .u64 i), (1, .int .u64 j), (2, Sl.v b), (8, .map d), (9, Sl.v aN), (32, Sl.v b), (33, .int .i64 (b.n : Int)), (34, .int .i64 o), (52, Sl.v p), (53, .int .i64 (p.n : Int)), (54, .int .i64 (r + 1))] rfl
      exact then_normal ⟨(aN, r + 1, bL), ⟨ih, rfl, dU.1⟩, dU.2⟩
     ·have ii := dD.2 (b_not_f hc)
      clear hc
      refine wp_skip ?_
      refine block_normal ?_
      refine then_normal (wp_region_lit ?_)
      obtain ⟨ij, dX⟩ := ii
      refine sqv bC rfl (r_addI (bC.get rfl) rfl ij) fun _ dY => sqv dY rfl (r_move (dY.get rfl)) fun _ ik => sq_end ?_
      have il := ik.kp [(0, .int .u64 i), (1, .int .u64 j), (2, Sl.v b), (8, .map d), (9, Sl.v u), (32, Sl.v b), (33, .int .i64 (b.n : Int)), (34, .int .i64 o), (52, Sl.v p), (53, .int .i64 (p.n : Int)), (54, .int .i64 (r + 1))] rfl
      have im := il.kp [(0, .int .u64 i), (1, .int .u64 j), (2, Sl.v b), (8, .map d), (9, Sl.v u), (32, Sl.v b), (33, .int .i64 (b.n : Int)), (34, .int .i64 o), (52, Sl.v p), (53, .int .i64 (p.n : Int)), (54, .int .i64 (r + 1))] rfl
      exact then_normal ⟨(u, r + 1, al), ⟨im, rfl, dX.1⟩, dX.2⟩
    ·have io := dy.2 (of_decide_eq_false hc)
     clear hc
     refine wp_exit ?_
     refine then_exit ?_
     refine then_exit ?_
     refine block_hit ?_
     have dZ := bB.kp [(0, .int .u64 i), (1, .int .u64 j), (2, Sl.v b), (8, .map d), (9, Sl.v u), (32, Sl.v b), (33, .int .i64 (b.n : Int)), (34, .int .i64 o)] rfl
     refine block_normal ?_
     refine then_normal (wp_region_lit ?_)
     obtain ⟨ip, d0⟩ := io
     refine sqv dZ rfl (r_addI (dZ.get rfl) rfl ip) fun _ d1 => sqv d1 rfl (r_move (d1.get rfl)) fun _ iq => sq_end ?_
     have ir := iq.kp [(0, .int .u64 i), (1, .int .u64 j), (2, Sl.v b), (8, .map d), (9, Sl.v u), (32, Sl.v b), (33, .int .i64 (b.n : Int)), (34, .int .i64 (o + 1))] rfl
     have it := ir.kp [(0, .int .u64 i), (1, .int .u64 j), (2, Sl.v b), (8, .map d), (9, Sl.v u), (32, Sl.v b), (33, .int .i64 (b.n : Int)), (34, .int .i64 (o + 1))] rfl
     exact then_normal ⟨(u, o + 1, al), ⟨it, rfl, d0.1⟩, d0.2⟩
  ·have iu := da.2 (of_decide_eq_false hc)
   clear hc
   refine wp_exit ?_
   refine then_exit ?_
   refine then_exit ?_
   refine block_hit ?_
   have iv := bA.kp [(0, .int .u64 i), (1, .int .u64 j), (2, Sl.v b), (8, .map d), (9, Sl.v f)] rfl
   refine then_normal (wp_seq (wp_region_lit ?_))
   refine sq (opk_new (fun B => .slice (some ⟨B, 0, none⟩) 4 4) iv rfl (r_buildSlice (vs := #[(0, .int .u8 116), (1, .int .u8 112), (2, .int .u8 121), (3, .int .u8 49)]) (cs := [.int .u8 116, .int .u8 112, .int .u8 121, .int .u8 49]) (map_arr2 (ml2_cons rfl (ml2_cons rfl (ml2_cons rfl (ml2_cons rfl (ml2_nil)))))) tU27 ti_5 rfl rfl (by kernel_rfl)) fun mS aO ba ix iy iz d2 _ => ?_)
   have iA : New an ba aO := iy
   have iB : Chg [] an aO := ix
   have iC := iu aO ba iA  iB
   have iD := iC iz
   refine sq (opk_run d2 rfl (fun _ _ hr => r_convR (d2.get rfl) hr) iD fun mT mU ca d3 _ mV mX iF => ?_)
   obtain ⟨aX, rfl, iG⟩ := iF
   refine sqv d3 rfl (r_assign (d3.get rfl)) fun _ iH => sq_end ?_
   have d4 := iH.kp [(0, .int .u64 i), (1, .int .u64 j), (2, Sl.v b), (8, .map d), (9, Sl.v f), (16, Sl.v aX)] rfl
   refine then_normal (wp_seq (wp_seq (wp_region_lit ?_)))
   refine sqv d4 rfl (r_move (d4.get rfl)) fun _ d5 => sqv d5 rfl (r_move (d5.get rfl)) fun _ cz => sqv cz rfl (r_buildA (vs := #[(0, .int .u64 i), (1, .int .u64 j)]) (cells := #[.int .u64 i, .int .u64 j]) (map_arr2 (ml2_cons (cz.get rfl) (ml2_cons (cz.get rfl) (ml2_nil)))) ti_65 Tryz.underlying65 ti_22 (by kernel_rfl)) fun _ iI => sqv iI rfl (r_move rfl) fun _ iJ => sq_end ?_
   have iK := iJ.kp [(2, Sl.v b), (8, .map d), (9, Sl.v f), (16, Sl.v aX), (80, .agg #[.int .u64 i, .int .u64 j]), (81, .int .i64 0)] rfl
   refine then_normal (wp_block ?_)
   obtain ⟨bi, bM, iL, iM⟩ := iG
   refine wp_loop_st (σ := Sl × Int × World) (fun s a w => Ag 167 a [(2, Sl.v b), (8, .map d), (9, Sl.v f), (16, Sl.v s.1), (80, .agg #[.int .u64 i, .int .u64 j]), (81, .int .i64 s.2.1)] ∧ w = s.2.2 ∧ bi s.1 s.2.1 s.2.2) (fun s => bM s.1 s.2.1 s.2.2) (aX, 0, ca) ⟨iK.kp [(2, Sl.v b), (8, .map d), (9, Sl.v f), (16, Sl.v aX), (80, .agg #[.int .u64 i, .int .u64 j]), (81, .int .i64 0)] rfl, rfl, iL⟩ ?_
   rintro ⟨au, z, bb⟩ mY w_ ⟨d6, hw_, iN⟩
   have hw_ : bb = w_ := hw_.symm
   subst hw_
   have d7 := iM au z _ iN
   refine wp_seq (wp_region_lit ?_)
   refine sqv d6 rfl (r_lss (d6.get rfl) rfl) fun _ iO => sq_end ?_
   have bD := iO.kp [(2, Sl.v b), (8, .map d), (9, Sl.v f), (16, Sl.v au), (80, .agg #[.int .u64 i, .int .u64 j]), (81, .int .i64 z), (82, .bool (decide (z < 2)))] rfl
   refine then_normal (wp_seq ?_)
   refine wp_cond_split (bD.get rfl) (fun hc => ?_) (fun hc => ?_)
   ·have iP := d7.1 (of_decide_eq_true hc)
    clear hc
    refine wp_skip ?_
    refine then_normal (wp_seq (wp_block (wp_seq (wp_region_lit ?_))))
    obtain ⟨iQ, iR⟩ := iP
    refine sqv bD rfl (r_aindexI (l := ([i, j] : List Int)) (bD.get rfl) rfl (bD.get rfl) Tryz.underlying65 tU22 ti_22 rfl iQ) fun _ d8 => sqv d8 rfl (r_assign (d8.get rfl)) fun _ iS => sq_end ?_
    have d9 := iS.kp [(2, Sl.v b), (8, .map d), (9, Sl.v f), (16, Sl.v au), (18, .int .u64 (([i, j] : List Int).getD z.toNat 0)), (80, .agg #[.int .u64 i, .int .u64 j]), (81, .int .i64 z)] rfl
    refine then_normal (wp_seq (wp_region_lit ?_))
    refine sqv d9 rfl (r_move (d9.get rfl)) fun _ fa => ?_
    refine sq (opk_call fa rfl (r_call (args := #[.int .u64 (([i, j] : List Int).getD z.toNat 0)]) Tryz.func26 (by decide) rfl (map_arr (ml_cons (fa.get rfl) ml_nil)) rfl) iR fun mZ m0 bj iT _ m1 m2 iU => ?_)
    obtain ⟨bk, bl, bm, bn, bo, bp, bq, br, rfl, iV⟩ := iU
    refine sq (opk_new (fun B => .pointer (some ⟨B, 0, none⟩)) iT rfl (r_alloc (cs := [.int .u8 0, .int .u8 0, .int .u8 0, .int .u8 0, .int .u8 0, .int .u8 0, .int .u8 0, .int .u8 0]) ti_66 rfl) fun m3 fb aP iX iY fc cA _ => ?_)
    have fd : New bj aP fb := iY
    have iZ : Chg [] bj fb := iX
    refine sq (opk_store cA fc (r_store (vs := [.int .u8 bk, .int .u8 bl, .int .u8 bm, .int .u8 bn, .int .u8 bo, .int .u8 bp, .int .u8 bq, .int .u8 br]) (cA.get rfl) (cA.get rfl) rfl ti_66 fc rfl (ones_all _ rfl)) fun m4 aY ff i0 i1 => ?_)
    have i2 : Box aY aP 66 [.int .u8 bk, .int .u8 bl, .int .u8 bm, .int .u8 bn, .int .u8 bo, .int .u8 bp, .int .u8 bq, .int .u8 br] := i0
    have i3 := iZ.storeNew fd ff
    have i4 := fd.up ff.size
    refine sq_end ?_
    have fg := i1.kp [(2, Sl.v b), (8, .map d), (9, Sl.v f), (16, Sl.v au), (19, .pointer (some (⟨aP, 0, none⟩ : Addr))), (80, .agg #[.int .u64 i, .int .u64 j]), (81, .int .i64 z)] rfl
    refine then_normal (wp_region_lit ?_)
    refine sqv fg rfl (r_move (fg.get rfl)) fun _ fh => sqv fh rfl (r_slice0A (fh.get rfl) Tryz.underlying66 ti_5) fun _ cB => ?_
    have i5 := iV aY aP i4  i3
    have i6 := i5 i2
    refine sq (opk_run cB rfl (fun _ _ hr => r_append (cB.get rfl) (cB.get rfl) hr) i6 fun m5 m6 bN fi _ m7 m8 i7 => ?_)
    obtain ⟨aQ, rfl, i8⟩ := i7
    refine sqv fi rfl (r_assign (fi.get rfl)) fun _ i9 => sq_end ?_
    have fj := i9.kp [(2, Sl.v b), (8, .map d), (9, Sl.v f), (16, Sl.v aQ), (80, .agg #[.int .u64 i, .int .u64 j]), (81, .int .i64 z)] rfl
    refine block_normal ?_
    refine then_normal (wp_region_lit ?_)
    obtain ⟨ja, fk⟩ := i8
    refine sqv fj rfl (r_addI (fj.get rfl) rfl ja) fun _ fl => sqv fl rfl (r_move (fl.get rfl)) fun _ jb => sq_end ?_
    have jc := jb.kp [(2, Sl.v b), (8, .map d), (9, Sl.v f), (16, Sl.v aQ), (80, .agg #[.int .u64 i, .int .u64 j]), (81, .int .i64 (z + 1))] rfl
    have jd := jc.kp [(2, Sl.v b), (8, .map d), (9, Sl.v f), (16, Sl.v aQ), (80, .agg #[.int .u64 i, .int .u64 j]), (81, .int .i64 (z + 1))] rfl
    exact then_normal ⟨(aQ, z + 1, bN), ⟨jd, rfl, fk.1⟩, fk.2⟩
   ·have jf := d7.2 (of_decide_eq_false hc)
    clear hc
    refine wp_exit ?_
    refine then_exit ?_
    refine then_exit ?_
    refine block_hit ?_
    have fm := bD.kp [(2, Sl.v b), (8, .map d), (9, Sl.v f), (16, Sl.v au)] rfl
    refine then_normal (wp_seq (wp_region_lit ?_))
    refine sqv fm rfl (r_move (fm.get rfl)) fun _ fn => sqv fn rfl (r_move (fn.get rfl)) fun _ fo => sqv fo rfl (r_len (fo.get rfl) tU61) fun _ fp => sqv fp rfl (r_conv (fp.get rfl) rfl tU22) fun _ cC => ?_
    refine sq (opk_call cC rfl (r_call (args := #[Sl.v au, .int .u64 (IntKind.u64.wrap (f.n : Int))]) Tryz.func27 (by decide) rfl (map_arr (ml_cons (cC.get rfl) (ml_cons (cC.get rfl) ml_nil))) rfl) jf fun m9 na cb fq _ nb nd jg => ?_)
    obtain ⟨aZ, rfl, jh⟩ := jg
    refine sqv fq rfl (r_assign (fq.get rfl)) fun _ ji => sq_end ?_
    have fr := ji.kp [(2, Sl.v b), (8, .map d), (9, Sl.v f), (16, Sl.v aZ)] rfl
    refine then_normal (wp_seq (wp_seq (wp_region_lit ?_)))
    refine sqv fr rfl (r_move (fr.get rfl)) fun _ fs => sqv fs rfl (r_len (fs.get rfl) tU61) fun _ jj => sqv jj rfl (r_move rfl) fun _ jk => sq_end ?_
    have jl := jk.kp [(2, Sl.v b), (8, .map d), (16, Sl.v aZ), (95, Sl.v f), (96, .int .i64 (f.n : Int)), (97, .int .i64 0)] rfl
    refine then_normal (wp_block ?_)
    obtain ⟨bs, bO, jm, jn⟩ := jh
    refine wp_loop_st (σ := Sl × Int × World) (fun s a w => Ag 167 a [(2, Sl.v b), (8, .map d), (16, Sl.v s.1), (95, Sl.v f), (96, .int .i64 (f.n : Int)), (97, .int .i64 s.2.1)] ∧ w = s.2.2 ∧ bs s.1 s.2.1 s.2.2) (fun s => bO s.1 s.2.1 s.2.2) (aZ, 0, cb) ⟨jl.kp [(2, Sl.v b), (8, .map d), (16, Sl.v aZ), (95, Sl.v f), (96, .int .i64 (f.n : Int)), (97, .int .i64 0)] rfl, rfl, jm⟩ ?_
    rintro ⟨ak, aa, aR⟩ nf w_ ⟨cD, hw_, jo⟩
    have hw_ : aR = w_ := hw_.symm
    subst hw_
    have ft := jn ak aa _ jo
    refine wp_seq (wp_region_lit ?_)
    refine sqv cD rfl (r_lss (cD.get rfl) (cD.get rfl)) fun _ jp => sq_end ?_
    have bF := jp.kp [(2, Sl.v b), (8, .map d), (16, Sl.v ak), (95, Sl.v f), (96, .int .i64 (f.n : Int)), (97, .int .i64 aa), (98, .bool (decide (aa < (f.n : Int))))] rfl
    refine then_normal (wp_seq ?_)
    refine wp_cond_split (bF.get rfl) (fun hc => ?_) (fun hc => ?_)
    ·have jq := ft.1 (of_decide_eq_true hc)
     clear hc
     refine wp_skip ?_
     refine then_normal (wp_seq (wp_block (wp_seq (wp_region_lit ?_))))
     obtain ⟨jr, cc, js, jt⟩ := jq
     refine sqv bF rfl (r_indexAddr (bF.get rfl) (bF.get rfl) tU61 ti_9 jr js) fun _ fu => ?_
     obtain ⟨aK, ju, jv⟩ := jt
     refine sqv fu rfl (r_load1 tU9 rfl (fu.get rfl) ju) fun _ fv => sqv fv rfl (r_assign (fv.get rfl)) fun _ jx => sq_end ?_
     have fx := jx.kp [(2, Sl.v b), (8, .map d), (16, Sl.v ak), (21, .string (Bs aK)), (95, Sl.v f), (96, .int .i64 (f.n : Int)), (97, .int .i64 aa)] rfl
     refine then_normal (wp_seq (wp_seq (wp_region_lit ?_)))
     refine sqv fx rfl (r_move (fx.get rfl)) fun _ fy => sqv fy rfl (r_slen (fy.get rfl) tU9) fun _ fz => sqv fz rfl (r_move (fz.get rfl)) fun _ fA => sqv fA rfl (r_len (fA.get rfl) tU27) fun _ fB => ?_
     obtain ⟨jy, fC⟩ := jv
     refine sqv fB rfl (r_subI rfl (fB.get rfl) jy) fun _ cF => sqv cF rfl (r_gtr (cF.get rfl) (cF.get rfl)) fun _ jz => sq_end ?_
     have b1 := jz.kp [(2, Sl.v b), (8, .map d), (16, Sl.v ak), (21, .string (Bs aK)), (95, Sl.v f), (96, .int .i64 (f.n : Int)), (97, .int .i64 aa), (106, .bool (decide ((65536 - (ak.n : Int)) < (aK.length : Int))))] rfl
     refine then_normal ?_
     refine wp_cond_split (b1.get rfl) (fun hc => ?_) (fun hc => ?_)
     ·have jA := fC.1 (of_decide_eq_true hc)
      clear hc
      refine wp_seq (wp_region_lit ?_)
      refine sqv b1 rfl (r_assign rfl) fun _ jB => sqv jB rfl (r_assign rfl) fun _ jC => sq_end ?_
      have cG := jC.kp [(6, Sl.v Sl.nil), (7, .int .i64 2)] rfl
      refine then_normal ?_
      refine wp_ret ?_
      refine then_ret ?_
      refine block_ret ?_
      refine then_ret ?_
      refine then_ret ?_
      refine block_ret ?_
      refine then_ret ?_
      exact res_all (vs := [Sl.v Sl.nil, .int .i64 2]) rfl cG ⟨res_of_tmp cG rfl, res_of_tmp cG rfl, trivial⟩ jA
     ·have jD := fC.2 (of_decide_eq_false hc)
      clear hc
      refine wp_skip ?_
      refine then_normal (wp_region_lit ?_)
      refine sqv b1 rfl (r_move (b1.get rfl)) fun _ fD => sqv fD rfl (r_move (fD.get rfl)) fun _ cH => ?_
      refine sq (opk_call cH rfl (r_call (args := #[Sl.v ak, .string (Bs aK)]) Tryz.func28 (by decide) rfl (map_arr (ml_cons (cH.get rfl) (ml_cons (cH.get rfl) ml_nil))) rfl) jD fun ng nh bP fF _ ni nj jF => ?_)
      obtain ⟨aS, rfl, jG⟩ := jF
      refine sqv fF rfl (r_assign (fF.get rfl)) fun _ jH => sq_end ?_
      have fG := jH.kp [(2, Sl.v b), (8, .map d), (16, Sl.v aS), (95, Sl.v f), (96, .int .i64 (f.n : Int)), (97, .int .i64 aa)] rfl
      refine block_normal ?_
      refine then_normal (wp_region_lit ?_)
      obtain ⟨jI, fH⟩ := jG
      refine sqv fG rfl (r_addI (fG.get rfl) rfl jI) fun _ fI => sqv fI rfl (r_move (fI.get rfl)) fun _ jJ => sq_end ?_
      have jK := jJ.kp [(2, Sl.v b), (8, .map d), (16, Sl.v aS), (95, Sl.v f), (96, .int .i64 (f.n : Int)), (97, .int .i64 (aa + 1))] rfl
      have jL := jK.kp [(2, Sl.v b), (8, .map d), (16, Sl.v aS), (95, Sl.v f), (96, .int .i64 (f.n : Int)), (97, .int .i64 (aa + 1))] rfl
      exact then_normal ⟨(aS, aa + 1, bP), ⟨jL, rfl, fH.1⟩, fH.2⟩
    ·have jM := ft.2 (of_decide_eq_false hc)
     clear hc
     refine wp_exit ?_
     refine then_exit ?_
     refine then_exit ?_
     refine block_hit ?_
     have fJ := bF.kp [(2, Sl.v b), (8, .map d), (16, Sl.v ak)] rfl
     refine then_normal (wp_seq (wp_region_lit ?_))
     refine sqv fJ rfl (r_move (fJ.get rfl)) fun _ fK => sqv fK rfl (r_move (fK.get rfl)) fun _ fL => sqv fL rfl (r_len (fL.get rfl) tU23) fun _ fM => sqv fM rfl (r_conv (fM.get rfl) rfl tU22) fun _ cI => ?_
     refine sq (opk_call cI rfl (r_call (args := #[Sl.v ak, .int .u64 (IntKind.u64.wrap (b.n : Int))]) Tryz.func27 (by decide) rfl (map_arr (ml_cons (cI.get rfl) (ml_cons (cI.get rfl) ml_nil))) rfl) jM fun nk nl cd fN _ nm nn jN => ?_)
     obtain ⟨r_794, rfl, jO⟩ := jN
     refine sqv fN rfl (r_assign (fN.get rfl)) fun _ jP => sq_end ?_
     have fO := jP.kp [(2, Sl.v b), (8, .map d), (16, Sl.v r_794)] rfl
     refine then_normal (wp_seq (wp_seq (wp_region_lit ?_)))
     refine sqv fO rfl (r_move (fO.get rfl)) fun _ fP => sqv fP rfl (r_len (fP.get rfl) tU23) fun _ jQ => sqv jQ rfl (r_move rfl) fun _ jR => sq_end ?_
     have jS := jR.kp [(8, .map d), (16, Sl.v r_794), (116, Sl.v b), (117, .int .i64 (b.n : Int)), (118, .int .i64 0)] rfl
     refine then_normal (wp_block ?_)
     obtain ⟨bt, bQ, jT, jU⟩ := jO
     refine wp_loop_st (σ := Sl × Int × World) (fun s a w => Ag 167 a [(8, .map d), (16, Sl.v s.1), (116, Sl.v b), (117, .int .i64 (b.n : Int)), (118, .int .i64 s.2.1)] ∧ w = s.2.2 ∧ bt s.1 s.2.1 s.2.2) (fun s => bQ s.1 s.2.1 s.2.2) (r_794, 0, cd) ⟨jS.kp [(8, .map d), (16, Sl.v r_794), (116, Sl.v b), (117, .int .i64 (b.n : Int)), (118, .int .i64 0)] rfl, rfl, jT⟩ ?_
     rintro ⟨t, k, av⟩ no w_ ⟨cJ, hw_, jV⟩
     have hw_ : av = w_ := hw_.symm
     subst hw_
     have fQ := jU t k _ jV
     refine wp_seq (wp_region_lit ?_)
     refine sqv cJ rfl (r_lss (cJ.get rfl) (cJ.get rfl)) fun _ jX => sq_end ?_
     have bG := jX.kp [(8, .map d), (16, Sl.v t), (116, Sl.v b), (117, .int .i64 (b.n : Int)), (118, .int .i64 k), (119, .bool (decide (k < (b.n : Int))))] rfl
     refine then_normal (wp_seq ?_)
     refine wp_cond_split (bG.get rfl) (fun hc => ?_) (fun hc => ?_)
     ·have jY := fQ.1 (of_decide_eq_true hc)
      clear hc
      refine wp_skip ?_
      refine then_normal (wp_seq (wp_block (wp_seq (wp_region_lit ?_))))
      obtain ⟨jZ, cf, j0, j1⟩ := jY
      refine sqv bG rfl (r_indexAddr (bG.get rfl) (bG.get rfl) tU23 ti_59 jZ j0) fun _ fR => ?_
      obtain ⟨ab, ad, ax, ay, az, aA, aB, j2, j3⟩ := j1
      refine sqv fR rfl (r_loadN Tryz.underlying59 rfl ti_59 (fR.get rfl) j2) fun _ j4 => ?_
      refine sq (opk_new (fun B => .pointer (some ⟨B, 0, none⟩)) j4 rfl (r_alloc (cs := [.int .i64 0, .int .i64 0, .int .i64 0, .int .i64 0, .int .i64 0, .string (Bs []), .string (Bs [])]) ti_59 rfl) fun np fS m j5 j6 fT cK _ => ?_)
      have fU : New av m fS := j6
      have j7 : Chg [] av fS := j5
      refine sq (opk_store cK fT (r_store (vs := [.int .i64 ab, .int .i64 ad, .int .i64 ax, .int .i64 ay, .int .i64 az, .string (Bs aA), .string (Bs aB)]) (cK.get rfl) (cK.get rfl) rfl ti_59 fT rfl (ones_all _ rfl)) fun nq j8 fV j9 ka => ?_)
      have kb : Box j8 m 59 [.int .i64 ab, .int .i64 ad, .int .i64 ax, .int .i64 ay, .int .i64 az, .string (Bs aA), .string (Bs aB)] := j9
      have kc := j7.storeNew fU fV
      have kd := fU.up fV.size
      refine sq_end ?_
      have aL := ka.kp [(8, .map d), (16, Sl.v t), (23, .pointer (some (⟨m, 0, none⟩ : Addr))), (116, Sl.v b), (117, .int .i64 (b.n : Int)), (118, .int .i64 k)] rfl
      refine then_normal (wp_seq ?_)
      refine draw' (by kernel_rfl) fun aT cL => ?_
      have b2 := kb.ext cL
      have kf := kc.more cL
      have kg := kd.up cL.size
      have kh := j3 aT m kg  kf
      refine startF (D := [[], [], [1], [1, 2], [1, 2, 3], [0, 1, 2, 3, 4], [], [6], [6, 7], [0, 1, 2, 3, 4, 5, 6, 7, 8], [0, 1, 2, 3, 4, 5, 6, 7, 8, 9]]) (Fs := [1, 2, 3, 6, 7, 8]) (Ef := [(1, fun v _ => v = .pointer (some (⟨m, 0, none⟩ : Addr))), (2, fun v _ => v = .int .i64 ab), (3, fun v _ => v = .int .u8 (IntKind.u8.wrap ab)), (6, fun v _ => v = .pointer (some (⟨m, 1, none⟩ : Addr))), (7, fun v _ => v = .int .i64 ad), (8, fun v _ => v = .int .u64 (IntKind.u64.wrap ad))]) (by kernel_rfl) ?_
      refine parF (D := [[], [], [1], [1, 2], [1, 2, 3], [0, 1, 2, 3, 4], [], [6], [6, 7], [0, 1, 2, 3, 4, 5, 6, 7, 8], [0, 1, 2, 3, 4, 5, 6, 7, 8, 9]]) (S := [0, 4]) (F := []) (KE := [0, 4]) (E := [(0, fun v _ => v = Sl.v t), (4, fun v w' => ∃ aj : Nat, aT.heap.size ≤ aj ∧ Box w' aj 5 [.int .u8 (IntKind.u8.wrap ab)] ∧ v = Sl.v (Sl.mk (some ⟨aj, 0, none⟩) 1 1))]) aL rfl (by kernel_rfl) ⟨fun _ _ _ _ h => h, fun _ _ _ hE ⟨aj, h0_, h1_, e⟩ => ⟨aj, h0_, (h1_.ext hE), e⟩, fun _ _ _ _ h => h, fun _ _ _ _ h => h, fun _ _ _ _ h => h, fun _ _ _ _ h => h, fun _ _ _ _ h => h, fun _ _ _ _ h => h, trivial⟩ ⟨?_, ?_, ?_, ?_, ?_, ?_, ?_, ?_, trivial⟩ ?_
      ·intro a w hT
       have hAp := hT.ag aL [(16, Sl.v t)] ⟨rfl, trivial⟩ (by kernel_rfl)
       exact ovr hAp rfl (r_move (hAp.get rfl)) fun _ => Eq.refl _
      ·intro a w hT
       have hAp := hT.ag aL [] trivial (by kernel_rfl)
       have ki : a.tmps.getD 125 undef = .int .u8 (IntKind.u8.wrap ab) := hT.vals 3 rfl 125 rfl
       have hAp := hAp.add ki
       exact opk_new (fun B => .slice (some ⟨B, 0, none⟩) 1 1) hAp rfl (r_buildSlice (vs := #[(0, .int .u8 (IntKind.u8.wrap ab))]) (cs := [.int .u8 (IntKind.u8.wrap ab)]) (map_arr2 (ml2_cons (hAp.get rfl) (ml2_nil))) tU27 ti_5 rfl rfl (by kernel_rfl)) fun _ nr aj kj kk kl _ e => ⟨_, e, kj, fun _ => ⟨aj, Nat.le_trans hT.chg.size kk.ge, kl, rfl⟩⟩
      ·intro a w hT
       have hAp := hT.ag aL [(23, .pointer (some (⟨m, 0, none⟩ : Addr)))] ⟨rfl, trivial⟩ (by kernel_rfl)
       exact ovr hAp rfl (r_fieldAddr (hAp.get rfl) Tryz.underlying59 rfl ti_3 (by decide)) fun _ => Eq.refl _
      ·intro a w hT
       have hAp := hT.ag aL [] trivial (by kernel_rfl)
       have km : a.tmps.getD 123 undef = .pointer (some (⟨m, 0, none⟩ : Addr)) := hT.vals 1 rfl 123 rfl
       have hAp := hAp.add km
       exact ovr hAp rfl (r_load1 tU3 rfl (hAp.get rfl) ((b2.ext hT.chg).cell 0 _ rfl)) fun _ => Eq.refl _
      ·intro a w hT
       have hAp := hT.ag aL [] trivial (by kernel_rfl)
       have kn : a.tmps.getD 124 undef = .int .i64 ab := hT.vals 2 rfl 124 rfl
       have hAp := hAp.add kn
       exact ovr hAp rfl (r_conv (hAp.get rfl) rfl tU5) fun _ => Eq.refl _
      ·intro a w hT
       have hAp := hT.ag aL [(23, .pointer (some (⟨m, 0, none⟩ : Addr)))] ⟨rfl, trivial⟩ (by kernel_rfl)
       exact ovr hAp rfl (r_fieldAddr (hAp.get rfl) Tryz.underlying59 rfl ti_3 (by decide)) fun _ => Eq.refl _
      ·intro a w hT
       have hAp := hT.ag aL [] trivial (by kernel_rfl)
       have ko : a.tmps.getD 128 undef = .pointer (some (⟨m, 1, none⟩ : Addr)) := hT.vals 6 rfl 128 rfl
       have hAp := hAp.add ko
       exact ovr hAp rfl (r_load1 tU3 rfl (hAp.get rfl) ((b2.ext hT.chg).cell 1 _ rfl)) fun _ => Eq.refl _
      ·intro a w hT
       have hAp := hT.ag aL [] trivial (by kernel_rfl)
       have kq : a.tmps.getD 129 undef = .int .i64 ad := hT.vals 7 rfl 129 rfl
       have hAp := hAp.add kq
       exact ovr hAp rfl (r_conv (hAp.get rfl) rfl tU22) fun _ => Eq.refl _
      ·intro kr a1 cM ks fX
       have kt := ks [(8, .map d), (16, Sl.v t), (23, .pointer (some (⟨m, 0, none⟩ : Addr))), (116, Sl.v b), (117, .int .i64 (b.n : Int)), (118, .int .i64 k)] ⟨rfl, rfl, rfl, rfl, rfl, rfl, trivial⟩ (by kernel_rfl)
       have ku : kr.tmps.getD 122 undef = Sl.v t := fX 0 rfl 122 rfl
       have kv := kt.add ku
       obtain ⟨aj, fY, fZ, kx⟩ := fX 4 rfl 126 rfl
       have ky := kv.add kx
       have f0 := b2.ext cM
       have ns : Chg [] aT a1 := cM
       have kz := kh a1 aj cM fY fZ
       have nt : m ≠ aj := Nat.ne_of_lt (Nat.lt_of_lt_of_le b2.lt fY)
       refine PRF_drop (X := [1, 2, 3]) (Fs' := [6, 7, 8]) ky (by kernel_rfl) fun nu kA nv => ?_
       have bH := kA [(8, .map d), (16, Sl.v t), (23, .pointer (some (⟨m, 0, none⟩ : Addr))), (116, Sl.v b), (117, .int .i64 (b.n : Int)), (118, .int .i64 k), (122, Sl.v t), (126, Sl.v (Sl.mk (some ⟨aj, 0, none⟩) 1 1))] ⟨rfl, rfl, rfl, rfl, rfl, rfl, rfl, rfl, trivial⟩ (by kernel_rfl)
       refine oneF (c := 5) bH rfl (by kernel_rfl) (constF ⟨fun _ _ _ h => h, fun _ _ _ h => h, fun _ _ _ h => h, trivial⟩) ⟨?_, ?_, ?_, trivial⟩ ?_
       ·intro a hT
        have hAp := hT.ag bH [(23, .pointer (some (⟨m, 0, none⟩ : Addr)))] ⟨rfl, trivial⟩ (by kernel_rfl)
        exact opk_val hAp rfl (r_fieldAddr (hAp.get rfl) Tryz.underlying59 rfl ti_3 (by decide)) fun _ _ e => ⟨_, e, rfl, fun _ => Eq.refl _⟩
       ·intro a hT
        have hAp := hT.ag bH [] trivial (by kernel_rfl)
        have kB : a.tmps.getD 128 undef = .pointer (some (⟨m, 1, none⟩ : Addr)) := hT.vals 6 rfl 128 rfl
        have hAp := hAp.add kB
        exact opk_val hAp rfl (r_load1 tU3 rfl (hAp.get rfl) ((f0.ext hT.chg).cell 1 _ rfl)) fun _ _ e => ⟨_, e, rfl, fun _ => Eq.refl _⟩
       ·intro a hT
        have hAp := hT.ag bH [] trivial (by kernel_rfl)
        have kC : a.tmps.getD 129 undef = .int .i64 ad := hT.vals 7 rfl 129 rfl
        have hAp := hAp.add kC
        exact opk_val hAp rfl (r_conv (hAp.get rfl) rfl tU22) fun _ _ e => ⟨_, e, rfl, fun _ => Eq.refl _⟩
       ·intro nx hT
        have cN := hT.ag bH [(8, .map d), (16, Sl.v t), (23, .pointer (some (⟨m, 0, none⟩ : Addr))), (116, Sl.v b), (117, .int .i64 (b.n : Int)), (118, .int .i64 k), (122, Sl.v t), (126, Sl.v (Sl.mk (some ⟨aj, 0, none⟩) 1 1))] ⟨rfl, rfl, rfl, rfl, rfl, rfl, rfl, rfl, trivial⟩ (by kernel_rfl)
        have kD := kz fZ
        refine (opk_run cN rfl (fun _ _ hr => r_append (cN.get rfl) (cN.get rfl) hr) kD fun ny nz cg b3 kF kG nA kH => ?_)
        refine ⟨_, kF, ?_⟩
        obtain ⟨bd, rfl, kI⟩ := kH
        have f1 := f0.kept kG (.head _)
        refine joinF b3 (by kernel_rfl) ⟨fun _ _ _ _ h => h, fun _ _ _ _ h => h, fun _ _ _ _ h => h, trivial⟩ ⟨?_, ?_, ?_, trivial⟩ ?_
        ·intro a w hT
         have hAp := hT.ag b3 [(23, .pointer (some (⟨m, 0, none⟩ : Addr)))] ⟨rfl, trivial⟩ (by kernel_rfl)
         exact ovr hAp rfl (r_fieldAddr (hAp.get rfl) Tryz.underlying59 rfl ti_3 (by decide)) fun _ => Eq.refl _
        ·intro a w hT
         have hAp := hT.ag b3 [] trivial (by kernel_rfl)
         have kJ : a.tmps.getD 128 undef = .pointer (some (⟨m, 1, none⟩ : Addr)) := hT.vals 6 rfl 128 rfl
         have hAp := hAp.add kJ
         exact ovr hAp rfl (r_load1 tU3 rfl (hAp.get rfl) ((f1.ext hT.chg).cell 1 _ rfl)) fun _ => Eq.refl _
        ·intro a w hT
         have hAp := hT.ag b3 [] trivial (by kernel_rfl)
         have kK : a.tmps.getD 129 undef = .int .i64 ad := hT.vals 7 rfl 129 rfl
         have hAp := hAp.add kK
         exact ovr hAp rfl (r_conv (hAp.get rfl) rfl tU22) fun _ => Eq.refl _
        ·intro kL a2 f2 kM kN
         have kO := kM [(8, .map d), (16, Sl.v t), (23, .pointer (some (⟨m, 0, none⟩ : Addr))), (116, Sl.v b), (117, .int .i64 (b.n : Int)), (118, .int .i64 k), (127, Sl.v bd)] ⟨rfl, rfl, rfl, rfl, rfl, rfl, rfl, trivial⟩ (by kernel_rfl)
         have kP : kL.tmps.getD 130 undef = .int .u64 (IntKind.u64.wrap ad) := kN 8 rfl 130 rfl
         have cO := kO.add kP
         have kQ := f1.ext f2
         have kR : Chg [] cg a2 := f2
         have kS := kI a2    kR
         obtain ⟨a3, f3, kT, kU⟩ := kS
         refine par (D := [[], [], [1], [1, 2], [1, 2, 3], [0, 1, 2, 3, 4], [], [6], [6, 7], [0, 1, 2, 3, 4, 5, 6, 7, 8], [0, 1, 2, 3, 4, 5, 6, 7, 8, 9]]) (S := [9, 10]) (F := []) (V := VL [(9, fun v w' => ∃ q : Sl, a3 q w' ∧ v = Sl.v q), (10, fun v w' => ∃ q : Sl, a3 q w' ∧ v = Sl.v q)]) cO (by kernel_rfl) ⟨fun _ _ _ hE ⟨q, h0_, e⟩ => ⟨q, (f3 q _ _ hE h0_), e⟩, fun _ _ _ hE ⟨q, h0_, e⟩ => ⟨q, (f3 q _ _ hE h0_), e⟩, trivial⟩ ⟨?_, ?_, trivial⟩ ?_
         ·intro a w hT
          have hAp := hT.ag cO [(127, Sl.v bd), (130, .int .u64 (IntKind.u64.wrap ad))] ⟨rfl, rfl, trivial⟩ (by kernel_rfl)
          exact opk_callX hAp rfl (r_call (args := #[Sl.v bd, .int .u64 (IntKind.u64.wrap ad)]) Tryz.func27 (by decide) rfl (map_arr (ml_cons (hAp.get rfl) (ml_cons (hAp.get rfl) ml_nil))) rfl) (kT w hT.chg) fun _ _ _ _ e ⟨hE, q, he, hV⟩ => ⟨_, e, hE, fun _ => ⟨q, hV, he⟩⟩
         ·intro a w hT
          have hAp := hT.ag cO [] trivial (by kernel_rfl)
          obtain ⟨q, kV, kX⟩ := hT.vals 9 rfl 131 rfl
          have hAp := hAp.add kX
          exact opk_val hAp rfl (r_assign (hAp.get rfl)) fun _ _ e => ⟨_, e, Chg.refl _ _, fun _ => ⟨q, kV, rfl⟩⟩
         ·intro nB bf cP kY kZ
          have k0 := kY [(8, .map d), (23, .pointer (some (⟨m, 0, none⟩ : Addr))), (116, Sl.v b), (117, .int .i64 (b.n : Int)), (118, .int .i64 k)] ⟨rfl, rfl, rfl, rfl, rfl, trivial⟩ (by kernel_rfl)
          obtain ⟨q, k1, k2⟩ := kZ 10 rfl 16 rfl
          have k3 := k0.add k2
          have f4 := kQ.ext cP
          have nC : Chg [] a2 bf := cP
          have k4 := kU bf q cP k1
          refine PR_end (by kernel_rfl) ?_
          have f5 := k3.kp [(8, .map d), (16, Sl.v q), (23, .pointer (some (⟨m, 0, none⟩ : Addr))), (116, Sl.v b), (117, .int .i64 (b.n : Int)), (118, .int .i64 k)] rfl
          refine then_normal (wp_seq (wp_seq (wp_region_lit ?_)))
          refine sqv f5 rfl (r_loadN (cs := [.int .i64 ab, .int .i64 ad, .int .i64 ax, .int .i64 ay, .int .i64 az, .string (Bs aA), .string (Bs aB)]) Tryz.underlying59 rfl ti_59 (f5.get rfl) (f4.part 0 _ rfl)) fun _ f6 => ?_
          refine sq (opk_call f6 rfl (r_call (args := #[.agg #[.int .i64 ab, .int .i64 ad, .int .i64 ax, .int .i64 ay, .int .i64 az, .string (Bs aA), .string (Bs aB)]]) Tryz.func29 (by decide) rfl (map_arr (ml_cons (f6.get rfl) ml_nil)) rfl) k4 fun nD nF ch f7 _ k5 nG k6 => ?_)
          obtain ⟨x, rfl, k7⟩ := k6
          have k8 := f4.kept k5 (.head _)
          refine sqv f7 rfl (r_len (f7.get rfl) tU44) fun _ k9 => sqv k9 rfl (r_move rfl) fun _ la => sq_end ?_
          have lb := la.kp [(8, .map d), (16, Sl.v q), (23, .pointer (some (⟨m, 0, none⟩ : Addr))), (116, Sl.v b), (117, .int .i64 (b.n : Int)), (118, .int .i64 k), (133, Sl.v x), (134, .int .i64 (x.n : Int)), (135, .int .i64 0)] rfl
          refine then_normal (wp_block ?_)
          obtain ⟨bu, bR, lc, ld⟩ := k7
          refine wp_loop_st (σ := Sl × Int × World) (fun s a w => Ag 167 a [(8, .map d), (16, Sl.v s.1), (23, .pointer (some (⟨m, 0, none⟩ : Addr))), (116, Sl.v b), (117, .int .i64 (b.n : Int)), (118, .int .i64 k), (133, Sl.v x), (134, .int .i64 (x.n : Int)), (135, .int .i64 s.2.1)] ∧ Box w m 59 [.int .i64 ab, .int .i64 ad, .int .i64 ax, .int .i64 ay, .int .i64 az, .string (Bs aA), .string (Bs aB)] ∧ w = s.2.2 ∧ bu s.1 s.2.1 s.2.2) (fun s => bR s.1 s.2.1 s.2.2) (q, 0, ch) ⟨lb.kp [(8, .map d), (16, Sl.v q), (23, .pointer (some (⟨m, 0, none⟩ : Addr))), (116, Sl.v b), (117, .int .i64 (b.n : Int)), (118, .int .i64 k), (133, Sl.v x), (134, .int .i64 (x.n : Int)), (135, .int .i64 0)] rfl, k8, rfl, lc⟩ ?_
          rintro ⟨aq, af, a4⟩ nH w_ ⟨cQ, cR, hw_, lf⟩
          have hw_ : a4 = w_ := hw_.symm
          subst hw_
          have f8 := ld aq af _ lf
          refine wp_seq (wp_region_lit ?_)
          refine sqv cQ rfl (r_lss (cQ.get rfl) (cQ.get rfl)) fun _ lg => sq_end ?_
          have bI := lg.kp [(8, .map d), (16, Sl.v aq), (23, .pointer (some (⟨m, 0, none⟩ : Addr))), (116, Sl.v b), (117, .int .i64 (b.n : Int)), (118, .int .i64 k), (133, Sl.v x), (134, .int .i64 (x.n : Int)), (135, .int .i64 af), (136, .bool (decide (af < (x.n : Int))))] rfl
          refine then_normal (wp_seq ?_)
          refine wp_cond_split (bI.get rfl) (fun hc => ?_) (fun hc => ?_)
          ·have lh := f8.1 (of_decide_eq_true hc)
           clear hc
           refine wp_skip ?_
           refine then_normal (wp_seq (wp_block (wp_seq (wp_region_lit ?_))))
           obtain ⟨li, ci, lj, lk⟩ := lh
           refine sqv bI rfl (r_indexAddr (bI.get rfl) (bI.get rfl) tU44 ti_3 li lj) fun _ f9 => ?_
           obtain ⟨bv, ll, lm⟩ := lk
           refine sqv f9 rfl (r_load1 tU3 rfl (f9.get rfl) ll) fun _ ga => sqv ga rfl (r_assign (ga.get rfl)) fun _ ln => sq_end ?_
           have gb := ln.kp [(8, .map d), (16, Sl.v aq), (23, .pointer (some (⟨m, 0, none⟩ : Addr))), (25, .int .i64 bv), (116, Sl.v b), (117, .int .i64 (b.n : Int)), (118, .int .i64 k), (133, Sl.v x), (134, .int .i64 (x.n : Int)), (135, .int .i64 af)] rfl
           refine then_normal (wp_region_lit ?_)
           refine sqv gb rfl (r_move (gb.get rfl)) fun _ gc => sqv gc rfl (r_move (gc.get rfl)) fun _ gd => sqv gd rfl (r_conv (gd.get rfl) rfl tU22) fun _ cS => ?_
           refine sq (opk_call cS rfl (r_call (args := #[Sl.v aq, .int .u64 (IntKind.u64.wrap bv)]) Tryz.func27 (by decide) rfl (map_arr (ml_cons (cS.get rfl) (ml_cons (cS.get rfl) ml_nil))) rfl) lm fun nI nJ bS gf _ lo nK lp => ?_)
           obtain ⟨aU, rfl, lq⟩ := lp
           have lr := cR.kept lo (.head _)
           refine sqv gf rfl (r_assign (gf.get rfl)) fun _ ls => sq_end ?_
           have gg := ls.kp [(8, .map d), (16, Sl.v aU), (23, .pointer (some (⟨m, 0, none⟩ : Addr))), (116, Sl.v b), (117, .int .i64 (b.n : Int)), (118, .int .i64 k), (133, Sl.v x), (134, .int .i64 (x.n : Int)), (135, .int .i64 af)] rfl
           refine block_normal ?_
           refine then_normal (wp_region_lit ?_)
           obtain ⟨lu, gh⟩ := lq
           refine sqv gg rfl (r_addI (gg.get rfl) rfl lu) fun _ gi => sqv gi rfl (r_move (gi.get rfl)) fun _ lv => sq_end ?_
           have lx := lv.kp [(8, .map d), (16, Sl.v aU), (23, .pointer (some (⟨m, 0, none⟩ : Addr))), (116, Sl.v b), (117, .int .i64 (b.n : Int)), (118, .int .i64 k), (133, Sl.v x), (134, .int .i64 (x.n : Int)), (135, .int .i64 (af + 1))] rfl
           have ly := lx.kp [(8, .map d), (16, Sl.v aU), (23, .pointer (some (⟨m, 0, none⟩ : Addr))), (116, Sl.v b), (117, .int .i64 (b.n : Int)), (118, .int .i64 k), (133, Sl.v x), (134, .int .i64 (x.n : Int)), (135, .int .i64 (af + 1))] rfl
           exact then_normal ⟨(aU, af + 1, bS), ⟨ly, lr, rfl, gh.1⟩, gh.2⟩
          ·have lz := f8.2 (of_decide_eq_false hc)
           clear hc
           refine wp_exit ?_
           refine then_exit ?_
           refine then_exit ?_
           refine block_hit ?_
           have gj := bI.kp [(8, .map d), (16, Sl.v aq), (23, .pointer (some (⟨m, 0, none⟩ : Addr))), (116, Sl.v b), (117, .int .i64 (b.n : Int)), (118, .int .i64 k)] rfl
           refine then_normal (wp_seq (wp_region_lit ?_))
           refine sqv gj rfl (r_loadN (cs := [.int .i64 ab, .int .i64 ad, .int .i64 ax, .int .i64 ay, .int .i64 az, .string (Bs aA), .string (Bs aB)]) Tryz.underlying59 rfl ti_59 (gj.get rfl) (cR.part 0 _ rfl)) fun _ gk => ?_
           refine sq (opk_call gk rfl (r_call (args := #[.agg #[.int .i64 ab, .int .i64 ad, .int .i64 ax, .int .i64 ay, .int .i64 az, .string (Bs aA), .string (Bs aB)]]) Tryz.func25 (by decide) rfl (map_arr (ml_cons (gk.get rfl) ml_nil)) rfl) lz fun nL nM cj gl _ lA nN lB => ?_)
           obtain ⟨y, rfl, lC⟩ := lB
           have nO := cR.kept lA (.head _)
           refine sqv gl rfl (r_len (gl.get rfl) tU61) fun _ lD => sqv lD rfl (r_move rfl) fun _ lF => sq_end ?_
           have lG := lF.kp [(8, .map d), (16, Sl.v aq), (116, Sl.v b), (117, .int .i64 (b.n : Int)), (118, .int .i64 k), (145, Sl.v y), (146, .int .i64 (y.n : Int)), (147, .int .i64 0)] rfl
           refine then_normal (wp_block ?_)
           obtain ⟨bx, bT, lH, lI⟩ := lC
           refine wp_loop_st (σ := Sl × Int × World) (fun s a w => Ag 167 a [(8, .map d), (16, Sl.v s.1), (116, Sl.v b), (117, .int .i64 (b.n : Int)), (118, .int .i64 k), (145, Sl.v y), (146, .int .i64 (y.n : Int)), (147, .int .i64 s.2.1)] ∧ w = s.2.2 ∧ bx s.1 s.2.1 s.2.2) (fun s => bT s.1 s.2.1 s.2.2) (aq, 0, cj) ⟨lG.kp [(8, .map d), (16, Sl.v aq), (116, Sl.v b), (117, .int .i64 (b.n : Int)), (118, .int .i64 k), (145, Sl.v y), (146, .int .i64 (y.n : Int)), (147, .int .i64 0)] rfl, rfl, lH⟩ ?_
           rintro ⟨am, ah, aC⟩ nP w_ ⟨cT, hw_, lJ⟩
           have hw_ : aC = w_ := hw_.symm
           subst hw_
           have gm := lI am ah _ lJ
           refine wp_seq (wp_region_lit ?_)
           refine sqv cT rfl (r_lss (cT.get rfl) (cT.get rfl)) fun _ lK => sq_end ?_
           have bJ := lK.kp [(8, .map d), (16, Sl.v am), (116, Sl.v b), (117, .int .i64 (b.n : Int)), (118, .int .i64 k), (145, Sl.v y), (146, .int .i64 (y.n : Int)), (147, .int .i64 ah), (148, .bool (decide (ah < (y.n : Int))))] rfl
           refine then_normal (wp_seq ?_)
           refine wp_cond_split (bJ.get rfl) (fun hc => ?_) (fun hc => ?_)
           ·have lL := gm.1 (of_decide_eq_true hc)
            clear hc
            refine wp_skip ?_
            refine then_normal (wp_seq (wp_block (wp_seq (wp_region_lit ?_))))
            obtain ⟨lM, ck, lN, lO⟩ := lL
            refine sqv bJ rfl (r_indexAddr (bJ.get rfl) (bJ.get rfl) tU61 ti_9 lM lN) fun _ gn => ?_
            obtain ⟨bU, lP, lQ⟩ := lO
            refine sqv gn rfl (r_load1 tU9 rfl (gn.get rfl) lP) fun _ go => sqv go rfl (r_assign (go.get rfl)) fun _ lR => sq_end ?_
            have gp := lR.kp [(8, .map d), (16, Sl.v am), (27, .string (Bs bU)), (116, Sl.v b), (117, .int .i64 (b.n : Int)), (118, .int .i64 k), (145, Sl.v y), (146, .int .i64 (y.n : Int)), (147, .int .i64 ah)] rfl
            refine then_normal (wp_region_lit ?_)
            refine sqv gp rfl (r_move (gp.get rfl)) fun _ gq => sqv gq rfl (r_move (gq.get rfl)) fun _ gr => sqv gr rfl (r_move (gr.get rfl)) fun _ cU => ?_
            obtain ⟨bV, lS, lT⟩ := lQ
            refine sqv cU rfl (r_lookup (cU.get rfl) (cU.get rfl) lS) fun _ gs => sqv gs rfl (r_conv (gs.get rfl) rfl tU22) fun _ cX => ?_
            refine sq (opk_call cX rfl (r_call (args := #[Sl.v am, .int .u64 (IntKind.u64.wrap bV)]) Tryz.func27 (by decide) rfl (map_arr (ml_cons (cX.get rfl) (ml_cons (cX.get rfl) ml_nil))) rfl) lT fun nQ nR bX gu _ nS nT lU => ?_)
            obtain ⟨aV, rfl, lV⟩ := lU
            refine sqv gu rfl (r_assign (gu.get rfl)) fun _ lX => sq_end ?_
            have gx := lX.kp [(8, .map d), (16, Sl.v aV), (116, Sl.v b), (117, .int .i64 (b.n : Int)), (118, .int .i64 k), (145, Sl.v y), (146, .int .i64 (y.n : Int)), (147, .int .i64 ah)] rfl
            refine block_normal ?_
            refine then_normal (wp_region_lit ?_)
            obtain ⟨lY, gy⟩ := lV
            refine sqv gx rfl (r_addI (gx.get rfl) rfl lY) fun _ gz => sqv gz rfl (r_move (gz.get rfl)) fun _ lZ => sq_end ?_
            have l0 := lZ.kp [(8, .map d), (16, Sl.v aV), (116, Sl.v b), (117, .int .i64 (b.n : Int)), (118, .int .i64 k), (145, Sl.v y), (146, .int .i64 (y.n : Int)), (147, .int .i64 (ah + 1))] rfl
            have l1 := l0.kp [(8, .map d), (16, Sl.v aV), (116, Sl.v b), (117, .int .i64 (b.n : Int)), (118, .int .i64 k), (145, Sl.v y), (146, .int .i64 (y.n : Int)), (147, .int .i64 (ah + 1))] rfl
            exact then_normal ⟨(aV, ah + 1, bX), ⟨l1, rfl, gy.1⟩, gy.2⟩
           ·have l2 := gm.2 (of_decide_eq_false hc)
            clear hc
            refine wp_exit ?_
            refine then_exit ?_
            refine then_exit ?_
            refine block_hit ?_
            have gA := bJ.kp [(8, .map d), (16, Sl.v am), (116, Sl.v b), (117, .int .i64 (b.n : Int)), (118, .int .i64 k)] rfl
            refine block_normal ?_
            refine then_normal (wp_region_lit ?_)
            obtain ⟨l3, gB⟩ := l2
            refine sqv gA rfl (r_addI (gA.get rfl) rfl l3) fun _ gC => sqv gC rfl (r_move (gC.get rfl)) fun _ l4 => sq_end ?_
            have l5 := l4.kp [(8, .map d), (16, Sl.v am), (116, Sl.v b), (117, .int .i64 (b.n : Int)), (118, .int .i64 (k + 1))] rfl
            have l6 := l5.kp [(8, .map d), (16, Sl.v am), (116, Sl.v b), (117, .int .i64 (b.n : Int)), (118, .int .i64 (k + 1))] rfl
            exact then_normal ⟨(am, k + 1, aC), ⟨l6, rfl, gB.1⟩, gB.2⟩
     ·have l7 := fQ.2 (of_decide_eq_false hc)
      clear hc
      refine wp_exit ?_
      refine then_exit ?_
      refine then_exit ?_
      refine block_hit ?_
      have gD := bG.kp [(16, Sl.v t)] rfl
      refine then_normal (wp_seq (wp_seq (wp_region_lit ?_)))
      refine sqv gD rfl (r_move (gD.get rfl)) fun _ gF => sqv gF rfl (r_len (gF.get rfl) tU27) fun _ gG => ?_
      obtain ⟨l8, gH⟩ := l7
      refine sqv gG rfl (r_addI (gG.get rfl) rfl l8) fun _ gI => sqv gI rfl (r_gtr (gI.get rfl) rfl) fun _ l9 => sq_end ?_
      have b4 := l9.kp [(16, Sl.v t), (162, .bool (decide (65536 < ((t.n : Int) + 4))))] rfl
      refine then_normal ?_
      refine wp_cond_split (b4.get rfl) (fun hc => ?_) (fun hc => ?_)
      ·have ma := gH.1 (of_decide_eq_true hc)
       clear hc
       refine wp_seq (wp_region_lit ?_)
       refine sqv b4 rfl (r_assign rfl) fun _ mb => sqv mb rfl (r_assign rfl) fun _ mc => sq_end ?_
       have cY := mc.kp [(6, Sl.v Sl.nil), (7, .int .i64 2)] rfl
       refine then_normal ?_
       refine wp_ret ?_
       refine then_ret ?_
       exact res_all (vs := [Sl.v Sl.nil, .int .i64 2]) rfl cY ⟨res_of_tmp cY rfl, res_of_tmp cY rfl, trivial⟩ ma
      ·have md := gH.2 (of_decide_eq_false hc)
       clear hc
       refine wp_skip ?_
       refine then_normal (wp_seq (wp_region_lit ?_))
       refine sqv b4 rfl (r_move (b4.get rfl)) fun _ gJ => sqv gJ rfl (r_move (gJ.get rfl)) fun _ gK => ?_
       refine sq (opk_call gK rfl (r_call (args := #[Sl.v t]) Tryz.func30 (by decide) rfl (map_arr (ml_cons (gK.get rfl) ml_nil)) rfl) md fun nU nV c2 cZ _ nX nY mf => ?_)
       obtain ⟨cl, rfl, mg⟩ := mf
       refine sq (opk_run cZ rfl (fun _ _ hr => r_append (cZ.get rfl) (cZ.get rfl) hr) mg fun nZ n0 c3 gL _ n1 n2 mh => ?_)
       obtain ⟨bz, rfl, mi⟩ := mh
       refine sqv gL rfl (r_assign (gL.get rfl)) fun _ mj => sqv mj rfl (r_assign rfl) fun _ ml => sq_end ?_
       have c0 := ml.kp [(6, Sl.v bz), (7, .int .i64 0)] rfl
       refine then_normal ?_
       refine wp_ret ?_
       exact res_all (vs := [Sl.v bz, .int .i64 0]) rfl c0 ⟨res_of_tmp c0 rfl, res_of_tmp c0 rfl, trivial⟩ mi
def codec_Decode.vc (b : Sl) (R : Value → World → Prop) (w : World) : Prop :=
((65536 < (b.n : Int)) →
R (.tuple #[.int .u64 0, .int .u64 0, Sl.v Sl.nil, .int .i64 2]) w) ∧
((¬ (65536 < (b.n : Int))) →
(((b.n : Int) < 26) →
R (.tuple #[.int .u64 0, .int .u64 0, Sl.v Sl.nil, .int .i64 9]) w) ∧
((¬ ((b.n : Int) < 26)) →
∀ (r : World), Chg [] w r →
(I64 ((b.n : Int) - 4)) ∧
((0 : Int) ≤ (b.n : Int) - 4 ∧ (b.n : Int) - 4 ≤ (b.c : Int)) ∧
∃ ai : Sl → World → Prop, (∀ l : Sl, ∀ w' w'' : World, Ext w' w'' → ai l w' → ai l w'') ∧
(∀ w' : World, Ext r w' → Calls Tryz.prog 30 #[Sl.v (Sl.cut b 1 0 ((b.n : Int) - 4).toNat b.c)] w' (Ret fun v w'' => Ext w' w'' ∧ ∃ l : Sl, v = Sl.v l ∧ ai l w'')) ∧
∃ t : Str, (∀ l : Sl, ∀ w' : World, Ext r w' → ai l w' → (convert 27 9 (Sl.v l)).run Tryz.prog w' = .ok (.string (Bs t)) w') ∧
(I64 ((b.n : Int) - 4)) ∧
((0 : Int) ≤ (b.n : Int) - 4 ∧ (b.n : Int) - 4 ≤ (b.n : Int)) ∧
∃ u : Str, (∀ w' : World, Ext r w' → (convert 27 9 (Sl.v (Sl.cut b 1 ((b.n : Int) - 4).toNat b.n b.c))).run Tryz.prog w' = .ok (.string (Bs u)) w') ∧
((t ≠ u) →
∀ (ao : World), Chg [] r ao →
R (.tuple #[.int .u64 0, .int .u64 0, Sl.v Sl.nil, .int .i64 11]) ao) ∧
((¬ (t ≠ u)) →
(I64 ((b.n : Int) - 4)) ∧
((0 : Int) ≤ (b.n : Int) - 4 ∧ (b.n : Int) - 4 ≤ (b.c : Int)) ∧
∀ (aj : World) (d : Nat), New r d aj → Chg [] r aj →
∀ (_ : Box aj d 73 [Sl.v (Sl.cut b 1 0 ((b.n : Int) - 4).toNat b.c), .int .i64 4, .bool false]),
CallK Tryz.prog 31 #[.pointer (some (⟨d, 0, none⟩ : Addr))] aj [] (fun v bh => ∃ (f : Int), v = .int .u64 f ∧
CallK Tryz.prog 31 #[.pointer (some (⟨d, 0, none⟩ : Addr))] bh [] (fun v bi => ∃ (i : Int), v = .int .u64 i ∧
CallK Tryz.prog 32 #[.pointer (some (⟨d, 0, none⟩ : Addr))] bi [] (fun v a2 => ∃ (ak : Int), v = .int .u64 ak ∧
∃ (ap : Sl → Int → World → Prop) (aP : Sl → Int → World → Nat),
ap Sl.nil ak a2 ∧
(∀ (p : Sl) (k : Int) (af : World), ap p k af →
∃ (aq : Bool), (((0 < k)) → af.cell? ((⟨d, 0, none⟩ : Addr).add 2) = some (.bool aq)) ∧
(((0 < k) ∧ (aq = false)) →
CallK Tryz.prog 33 #[.pointer (some (⟨d, 0, none⟩ : Addr))] af [] (fun v ar => ∃ (au : Str), v = .string (Bs au) ∧
∀ (z : World) (al : Nat), New ar al z → Chg [] ar z →
∀ (_ : Box z al 9 [.string (Bs au)]),
RunK Tryz.prog (Builtin.append_ #[61, 61] 61 #[Sl.v p, Sl.v (Sl.mk (some ⟨al, 0, none⟩) 1 1)]) z [] (fun v aQ => ∃ (aa : Sl), v = Sl.v aa ∧
ap aa (IntKind.u64.wrap (k - 1)) aQ ∧ aP aa (IntKind.u64.wrap (k - 1)) aQ < aP p k af))) ∧
(((¬ (0 < k)) ∨ (aq = true)) →
CallK Tryz.prog 32 #[.pointer (some (⟨d, 0, none⟩ : Addr))] af [] (fun v a3 => ∃ (am : Int), v = .int .u64 am ∧
∃ (av : Sl → Int → World → Prop) (aR : Sl → Int → World → Nat),
av Sl.nil am a3 ∧
(∀ (m : Sl) (j : Int) (x : World), av m j x →
∃ (y : Bool), (((0 < j)) → x.cell? ((⟨d, 0, none⟩ : Addr).add 2) = some (.bool y)) ∧
((((0 < j) ∧ (y = false)) ∧ ((m.n : Int) ≤ 1500)) →
CallK Tryz.prog 34 #[.pointer (some (⟨d, 0, none⟩ : Addr)), Sl.v p] x [] (fun v ax => ∃ (ay : Int) (az : Int) (aA : Int) (aB : Int) (aC : Int) (aD : Str) (aF : Str), v = .agg #[.int .i64 ay, .int .i64 az, .int .i64 aA, .int .i64 aB, .int .i64 aC, .string (Bs aD), .string (Bs aF)] ∧
∀ (ab : World) (an : Nat), New ax an ab → Chg [] ax ab →
∀ (_ : Box ab an 59 [.int .i64 ay, .int .i64 az, .int .i64 aA, .int .i64 aB, .int .i64 aC, .string (Bs aD), .string (Bs aF)]),
RunK Tryz.prog (Builtin.append_ #[23, 23] 23 #[Sl.v m, Sl.v (Sl.mk (some ⟨an, 0, none⟩) 1 1)]) ab [] (fun v aS => ∃ (ad : Sl), v = Sl.v ad ∧
av ad (IntKind.u64.wrap (j - 1)) aS ∧ aR ad (IntKind.u64.wrap (j - 1)) aS < aR m j x))) ∧
((((¬ (0 < j)) ∨ (y = true)) ∨ (¬ ((m.n : Int) ≤ 1500))) →
∃ (aG : Bool), (x.cell? ((⟨d, 0, none⟩ : Addr).add 2) = some (.bool aG)) ∧
((aG = true) →
R (.tuple #[.int .u64 0, .int .u64 0, Sl.v Sl.nil, .int .i64 10]) x) ∧
((aG = false) →
CallK Tryz.prog 8 #[.int .u64 f, .int .u64 i, Sl.v m] x [] (fun v ah => ∃ (aT : Sl) (q : Int), v = .tuple #[Sl.v aT, .int .i64 q] ∧
∃ aH : Str, (((¬ (q ≠ 0))) → (convert 27 9 (Sl.v aT)).run Tryz.prog ah = .ok (.string (Bs aH)) ah) ∧
∃ aI : Str, (((¬ (q ≠ 0))) → (convert 27 9 (Sl.v b)).run Tryz.prog ah = .ok (.string (Bs aI)) ah) ∧
(((q ≠ 0) ∨ (aH ≠ aI)) →
R (.tuple #[.int .u64 0, .int .u64 0, Sl.v Sl.nil, .int .i64 10]) ah) ∧
(((¬ (q ≠ 0)) ∧ (¬ (aH ≠ aI))) →
R (.tuple #[.int .u64 f, .int .u64 i, Sl.v m, .int .i64 0]) ah))))))))))))))
theorem codec_Decode.ok (b : Sl) {R : Value → World → Prop} {w : World} (a4 : codec_Decode.vc b R w) : Calls Tryz.prog 11 #[Sl.v b] w (Ret R) := by
 refine enter [Sl.v b] Tryz.func11 rfl Tryz.ntmps11 rfl ?_
 intro a0 cT
 unfold codec_Decode.vc at a4
 refine wp_seq (wp_region_lit ?_)
 refine sqv cT rfl (r_assign rfl) fun _ cU => sqv cU rfl (r_assign rfl) fun _ cX => sqv cX rfl (r_assign rfl) fun _ cY => sqv cY rfl (r_assign rfl) fun _ cZ => sq_end ?_
 have bj := cZ.kp [(0, Sl.v b)] rfl
 refine then_normal (wp_seq (wp_block (wp_seq (wp_region_lit ?_))))
 refine sqv bj rfl (r_move (bj.get rfl)) fun _ bk => sqv bk rfl (r_len (bk.get rfl) tU27) fun _ bl => sqv bl rfl (r_gtr (bl.get rfl) rfl) fun _ bm => sqv bm rfl (r_assign (bm.get rfl)) fun _ c0 => sq_end ?_
 have aU := c0.kp [(0, Sl.v b), (15, .bool (decide (65536 < (b.n : Int))))] rfl
 refine then_normal ?_
 refine wp_cond_split (aU.get rfl) (fun hc => ?_) (fun hc => ?_)
 ·have c1 := a4.1 (of_decide_eq_true hc)
  clear hc
  refine wp_seq (wp_region_lit ?_)
  refine sqv aU rfl (r_assign rfl) fun _ c2 => sqv c2 rfl (r_assign rfl) fun _ c3 => sqv c3 rfl (r_assign rfl) fun _ c4 => sqv c4 rfl (r_assign rfl) fun _ c5 => sq_end ?_
  have aJ := c5.kp [(2, .int .u64 0), (3, .int .u64 0), (4, Sl.v Sl.nil), (5, .int .i64 2)] rfl
  refine then_normal ?_
  refine wp_ret ?_
  refine block_ret ?_
  refine then_ret ?_
  exact res_all (vs := [.int .u64 0, .int .u64 0, Sl.v Sl.nil, .int .i64 2]) rfl aJ ⟨res_of_tmp aJ rfl, res_of_tmp aJ rfl, res_of_tmp aJ rfl, res_of_tmp aJ rfl, trivial⟩ c1
 ·have bn := a4.2 (of_decide_eq_false hc)
  clear hc
  refine wp_seq (wp_region_lit ?_)
  refine sqv aU rfl (r_move (aU.get rfl)) fun _ bo => sqv bo rfl (r_len (bo.get rfl) tU27) fun _ bp => sqv bp rfl (r_lss (bp.get rfl) rfl) fun _ bq => sqv bq rfl (r_assign (bq.get rfl)) fun _ c6 => sq_end ?_
  have o := c6.kp [(0, Sl.v b), (19, .bool (decide ((b.n : Int) < 26)))] rfl
  refine then_normal ?_
  refine wp_cond_split (o.get rfl) (fun hc => ?_) (fun hc => ?_)
  ·have c7 := bn.1 (of_decide_eq_true hc)
   clear hc
   refine wp_seq (wp_region_lit ?_)
   refine sqv o rfl (r_assign rfl) fun _ c8 => sqv c8 rfl (r_assign rfl) fun _ c9 => sqv c9 rfl (r_assign rfl) fun _ da => sqv da rfl (r_assign rfl) fun _ db => sq_end ?_
   have aK := db.kp [(2, .int .u64 0), (3, .int .u64 0), (4, Sl.v Sl.nil), (5, .int .i64 9)] rfl
   refine then_normal ?_
   refine wp_ret ?_
   refine block_ret ?_
   refine then_ret ?_
   exact res_all (vs := [.int .u64 0, .int .u64 0, Sl.v Sl.nil, .int .i64 9]) rfl aK ⟨res_of_tmp aK rfl, res_of_tmp aK rfl, res_of_tmp aK rfl, res_of_tmp aK rfl, trivial⟩ c7
  ·have dc := bn.2 (of_decide_eq_false hc)
   clear hc
   refine wp_seq ?_
   refine draw' (by kernel_rfl) fun r dd => ?_
   have df : Chg [] w r := dd
   have dg := dc r    df
   obtain ⟨dh, di⟩ := dg
   obtain ⟨dj, dk⟩ := di
   obtain ⟨ai, dl, dm, dn⟩ := dk
   obtain ⟨t, dp, dq⟩ := dn
   obtain ⟨dr, ds⟩ := dq
   obtain ⟨dt, du⟩ := ds
   obtain ⟨u, dv, br⟩ := du
   refine par (D := [[], [], [1], [1, 2], [0, 1, 2, 3], [0, 1, 2, 3, 4], [0, 1, 2, 3, 4, 5], [], [], [8], [8, 9], [7, 8, 9, 10], [7, 8, 9, 10, 11], [0, 1, 2, 3, 4, 5, 6, 7, 8, 9, 10, 11, 12], [0, 1, 2, 3, 4, 5, 6, 7, 8, 9, 10, 11, 12, 13]]) (S := [0, 1, 2, 3, 4, 5, 6, 7, 8, 9, 10, 11, 12, 13, 14]) (F := []) (V := VL [(0, fun v _ => v = Sl.v b), (1, fun v _ => v = Sl.v b), (2, fun v _ => v = .int .i64 (b.n : Int)), (3, fun v _ => v = .int .i64 ((b.n : Int) - 4)), (4, fun v _ => v = Sl.v (Sl.cut b 1 0 ((b.n : Int) - 4).toNat b.c)), (5, fun v w' => ∃ l : Sl, ai l w' ∧ v = Sl.v l), (6, fun v _ => v = .string (Bs t)), (7, fun v _ => v = Sl.v b), (8, fun v _ => v = Sl.v b), (9, fun v _ => v = .int .i64 (b.n : Int)), (10, fun v _ => v = .int .i64 ((b.n : Int) - 4)), (11, fun v _ => v = Sl.v (Sl.cut b 1 ((b.n : Int) - 4).toNat b.n b.c)), (12, fun v _ => v = .string (Bs u)), (13, fun v _ => v = .bool (decide (t ≠ u))), (14, fun v _ => v = .bool (decide (t ≠ u)))]) o (by kernel_rfl) ⟨fun _ _ _ _ h => h, fun _ _ _ _ h => h, fun _ _ _ _ h => h, fun _ _ _ _ h => h, fun _ _ _ _ h => h, fun _ _ _ hE ⟨l, h0_, e⟩ => ⟨l, (dl l _ _ hE h0_), e⟩, fun _ _ _ _ h => h, fun _ _ _ _ h => h, fun _ _ _ _ h => h, fun _ _ _ _ h => h, fun _ _ _ _ h => h, fun _ _ _ _ h => h, fun _ _ _ _ h => h, fun _ _ _ _ h => h, fun _ _ _ _ h => h, trivial⟩ ⟨?_, ?_, ?_, ?_, ?_, ?_, ?_, ?_, ?_, ?_, ?_, ?_, ?_, ?_, ?_, trivial⟩ ?_
   ·intro a w hT
    have hAp := hT.ag o [(0, Sl.v b)] ⟨rfl, trivial⟩ (by kernel_rfl)
    exact ovr hAp rfl (r_move (hAp.get rfl)) fun _ => Eq.refl _
   ·intro a w hT
    have hAp := hT.ag o [(0, Sl.v b)] ⟨rfl, trivial⟩ (by kernel_rfl)
    exact ovr hAp rfl (r_move (hAp.get rfl)) fun _ => Eq.refl _
   ·intro a w hT
    have hAp := hT.ag o [] trivial (by kernel_rfl)
    have dx : a.tmps.getD 25 undef = Sl.v b := hT.vals 1 rfl 25 rfl
    have hAp := hAp.add dx
    exact ovr hAp rfl (r_len (hAp.get rfl) tU27) fun _ => Eq.refl _
   ·intro a w hT
    have hAp := hT.ag o [] trivial (by kernel_rfl)
    have dy : a.tmps.getD 26 undef = .int .i64 (b.n : Int) := hT.vals 2 rfl 26 rfl
    have hAp := hAp.add dy
    exact ovr hAp rfl (r_subI (hAp.get rfl) rfl dh) fun _ => Eq.refl _
   ·intro a w hT
    have hAp := hT.ag o [] trivial (by kernel_rfl)
    have dz : a.tmps.getD 24 undef = Sl.v b := hT.vals 0 rfl 24 rfl
    have hAp := hAp.add dz
    have dA : a.tmps.getD 27 undef = .int .i64 ((b.n : Int) - 4) := hT.vals 3 rfl 27 rfl
    have hAp := hAp.add dA
    exact ovr hAp rfl (r_sliceH (hAp.get rfl) (hAp.get rfl) tU27 ti_5 dj) fun _ => Eq.refl _
   ·intro a w hT
    have hAp := hT.ag o [] trivial (by kernel_rfl)
    have dB : a.tmps.getD 28 undef = Sl.v (Sl.cut b 1 0 ((b.n : Int) - 4).toNat b.c) := hT.vals 4 rfl 28 rfl
    have hAp := hAp.add dB
    exact opk_callX hAp rfl (r_call (args := #[Sl.v (Sl.cut b 1 0 ((b.n : Int) - 4).toNat b.c)]) Tryz.func30 (by decide) rfl (map_arr (ml_cons (hAp.get rfl) ml_nil)) rfl) (dm w hT.chg) fun _ _ _ _ e ⟨hE, l, he, hV⟩ => ⟨_, e, hE, fun _ => ⟨l, hV, he⟩⟩
   ·intro a w hT
    have hAp := hT.ag o [] trivial (by kernel_rfl)
    obtain ⟨l, dC, dD⟩ := hT.vals 5 rfl 29 rfl
    have hAp := hAp.add dD
    exact ovr hAp rfl (r_convR (hAp.get rfl) (dp l w hT.chg dC)) fun _ => Eq.refl _
   ·intro a w hT
    have hAp := hT.ag o [(0, Sl.v b)] ⟨rfl, trivial⟩ (by kernel_rfl)
    exact ovr hAp rfl (r_move (hAp.get rfl)) fun _ => Eq.refl _
   ·intro a w hT
    have hAp := hT.ag o [(0, Sl.v b)] ⟨rfl, trivial⟩ (by kernel_rfl)
    exact ovr hAp rfl (r_move (hAp.get rfl)) fun _ => Eq.refl _
   ·intro a w hT
    have hAp := hT.ag o [] trivial (by kernel_rfl)
    have dF : a.tmps.getD 32 undef = Sl.v b := hT.vals 8 rfl 32 rfl
    have hAp := hAp.add dF
    exact ovr hAp rfl (r_len (hAp.get rfl) tU27) fun _ => Eq.refl _
   ·intro a w hT
    have hAp := hT.ag o [] trivial (by kernel_rfl)
    have dG : a.tmps.getD 33 undef = .int .i64 (b.n : Int) := hT.vals 9 rfl 33 rfl
    have hAp := hAp.add dG
    exact ovr hAp rfl (r_subI (hAp.get rfl) rfl dr) fun _ => Eq.refl _
   ·intro a w hT
    have hAp := hT.ag o [] trivial (by kernel_rfl)
    have dH : a.tmps.getD 31 undef = Sl.v b := hT.vals 7 rfl 31 rfl
    have hAp := hAp.add dH
    have dI : a.tmps.getD 34 undef = .int .i64 ((b.n : Int) - 4) := hT.vals 10 rfl 34 rfl
    have hAp := hAp.add dI
    exact ovr hAp rfl (r_sliceL (hAp.get rfl) (hAp.get rfl) tU27 ti_5 dt) fun _ => Eq.refl _
   ·intro a w hT
    have hAp := hT.ag o [] trivial (by kernel_rfl)
    have dJ : a.tmps.getD 35 undef = Sl.v (Sl.cut b 1 ((b.n : Int) - 4).toNat b.n b.c) := hT.vals 11 rfl 35 rfl
    have hAp := hAp.add dJ
    exact ovr hAp rfl (r_convR (hAp.get rfl) (dv w hT.chg)) fun _ => Eq.refl _
   ·intro a w hT
    have hAp := hT.ag o [] trivial (by kernel_rfl)
    have dK : a.tmps.getD 30 undef = .string (Bs t) := hT.vals 6 rfl 30 rfl
    have hAp := hAp.add dK
    have dL : a.tmps.getD 36 undef = .string (Bs u) := hT.vals 12 rfl 36 rfl
    have hAp := hAp.add dL
    exact ovr hAp rfl (r_sneq (hAp.get rfl) (hAp.get rfl)) fun _ => Eq.refl _
   ·intro a w hT
    have hAp := hT.ag o [] trivial (by kernel_rfl)
    have dM : a.tmps.getD 37 undef = .bool (decide (t ≠ u)) := hT.vals 13 rfl 37 rfl
    have hAp := hAp.add dM
    exact ovr hAp rfl (r_assign (hAp.get rfl)) fun _ => Eq.refl _
   ·intro dN ao dO dP dQ
    have dR := dP [(0, Sl.v b)] ⟨rfl, trivial⟩ (by kernel_rfl)
    have dS : dN.tmps.getD 23 undef = .bool (decide (t ≠ u)) := dQ 14 rfl 23 rfl
    have dT := dR.add dS
    have a5 : Chg [] r ao := dO
    refine PR_end (by kernel_rfl) ?_
    have aV := dT.kp [(0, Sl.v b), (23, .bool (decide (t ≠ u)))] rfl
    refine then_normal ?_
    refine wp_cond_split (aV.get rfl) (fun hc => ?_) (fun hc => ?_)
    ·have dU := br.1 (of_decide_eq_true hc)
     clear hc
     refine wp_seq (wp_region_lit ?_)
     refine sqv aV rfl (r_assign rfl) fun _ dV => sqv dV rfl (r_assign rfl) fun _ dX => sqv dX rfl (r_assign rfl) fun _ dY => sqv dY rfl (r_assign rfl) fun _ dZ => sq_end ?_
     have aL := dZ.kp [(2, .int .u64 0), (3, .int .u64 0), (4, Sl.v Sl.nil), (5, .int .i64 11)] rfl
     refine then_normal ?_
     refine wp_ret ?_
     refine block_ret ?_
     refine then_ret ?_
     have d0 := dU ao    a5
     exact res_all (vs := [.int .u64 0, .int .u64 0, Sl.v Sl.nil, .int .i64 11]) rfl aL ⟨res_of_tmp aL rfl, res_of_tmp aL rfl, res_of_tmp aL rfl, res_of_tmp aL rfl, trivial⟩ d0
    ·have d1 := br.2 (of_decide_eq_false hc)
     clear hc
     refine wp_skip ?_
     refine block_normal ?_
     refine then_normal (wp_seq (wp_region_lit ?_))
     refine sqv aV rfl (r_move (aV.get rfl)) fun _ bs => sqv bs rfl (r_move (bs.get rfl)) fun _ bt => sqv bt rfl (r_len (bt.get rfl) tU27) fun _ bu => ?_
     obtain ⟨d2, d3⟩ := d1
     refine sqv bu rfl (r_subI (bu.get rfl) rfl d2) fun _ a6 => ?_
     obtain ⟨d4, d5⟩ := d3
     refine sqv a6 rfl (r_sliceH (a6.get rfl) (a6.get rfl) tU27 ti_5 d4) fun _ bv => sqv bv rfl (r_build (vs := #[(0, Sl.v (Sl.cut b 1 0 ((b.n : Int) - 4).toNat b.c)), (1, .int .i64 4)]) (cells := #[Sl.v (Sl.cut b 1 0 ((b.n : Int) - 4).toNat b.c), .int .i64 4, .bool false]) (map_arr2 (ml2_cons (bv.get rfl) (ml2_cons rfl (ml2_nil)))) ti_73 Tryz.underlying73 pl_73 (by kernel_rfl)) fun _ bx => ?_
     refine sq (opk_new (fun B => .pointer (some ⟨B, 0, none⟩)) bx rfl (r_box (cs := [Sl.v (Sl.cut b 1 0 ((b.n : Int) - 4).toNat b.c), .int .i64 4, .bool false]) (bx.get rfl) rfl) fun gK aj d d6 d7 d8 bz _ => ?_)
     have d9 := New.of a5 d7
     have fa := a5.more d6
     refine sqv bz rfl (r_assign (bz.get rfl)) fun _ fb => sq_end ?_
     have bA := fb.kp [(0, Sl.v b), (6, .pointer (some (⟨d, 0, none⟩ : Addr)))] rfl
     refine then_normal (wp_seq (wp_region_lit ?_))
     refine sqv bA rfl (r_move (bA.get rfl)) fun _ bB => ?_
     have fc := d5 aj d d9  fa
     have fd := fc d8
     refine sq (opk_call bB rfl (r_call (args := #[.pointer (some (⟨d, 0, none⟩ : Addr))]) Tryz.func31 (by decide) rfl (map_arr (ml_cons (bB.get rfl) ml_nil)) rfl) fd fun gL gM bh bC _ gN gO ff => ?_)
     obtain ⟨f, rfl, fg⟩ := ff
     refine sqv bC rfl (r_move (bC.get rfl)) fun _ bD => ?_
     refine sq (opk_call bD rfl (r_call (args := #[.pointer (some (⟨d, 0, none⟩ : Addr))]) Tryz.func31 (by decide) rfl (map_arr (ml_cons (bD.get rfl) ml_nil)) rfl) fg fun gP gQ bi bF _ gR gS fh => ?_)
     obtain ⟨i, rfl, fi⟩ := fh
     refine sqv bF rfl (r_assign (bF.get rfl)) fun _ bG => sqv bG rfl (r_assign (bG.get rfl)) fun _ fj => sq_end ?_
     have fk := fj.kp [(0, Sl.v b), (6, .pointer (some (⟨d, 0, none⟩ : Addr))), (7, .int .u64 f), (8, .int .u64 i)] rfl
     refine then_normal (wp_seq (wp_region_lit ?_))
     refine sqv fk rfl (r_assign rfl) fun _ fl => sq_end ?_
     have bH := fl.kp [(0, Sl.v b), (6, .pointer (some (⟨d, 0, none⟩ : Addr))), (7, .int .u64 f), (8, .int .u64 i), (9, Sl.v Sl.nil)] rfl
     refine then_normal (wp_seq (wp_seq (wp_region_lit ?_)))
     refine sqv bH rfl (r_move (bH.get rfl)) fun _ bI => ?_
     refine sq (opk_call bI rfl (r_call (args := #[.pointer (some (⟨d, 0, none⟩ : Addr))]) Tryz.func32 (by decide) rfl (map_arr (ml_cons (bI.get rfl) ml_nil)) rfl) fi fun gT gU a2 bJ _ gV gX fm => ?_)
     obtain ⟨ak, rfl, fn⟩ := fm
     refine sqv bJ rfl (r_assign (bJ.get rfl)) fun _ fo => sq_end ?_
     have fp := fo.kp [(0, Sl.v b), (6, .pointer (some (⟨d, 0, none⟩ : Addr))), (7, .int .u64 f), (8, .int .u64 i), (9, Sl.v Sl.nil), (10, .int .u64 ak)] rfl
     refine then_normal (wp_block ?_)
     obtain ⟨ap, aP, fq, fr⟩ := fn
     refine wp_loop_st (σ := Sl × Int × World) (fun s a w => Ag 114 a [(0, Sl.v b), (6, .pointer (some (⟨d, 0, none⟩ : Addr))), (7, .int .u64 f), (8, .int .u64 i), (9, Sl.v s.1), (10, .int .u64 s.2.1)] ∧ w = s.2.2 ∧ ap s.1 s.2.1 s.2.2) (fun s => aP s.1 s.2.1 s.2.2) (Sl.nil, ak, a2) ⟨fp.kp [(0, Sl.v b), (6, .pointer (some (⟨d, 0, none⟩ : Addr))), (7, .int .u64 f), (8, .int .u64 i), (9, Sl.v Sl.nil), (10, .int .u64 ak)] rfl, rfl, fq⟩ ?_
     rintro ⟨p, k, af⟩ gY w_ ⟨bK, hw_, fs⟩
     have hw_ : af = w_ := hw_.symm
     subst hw_
     have ft := fr p k _ fs
     refine wp_seq (wp_seq (wp_region_lit ?_))
     refine sqv bK rfl (r_move (bK.get rfl)) fun _ bL => sqv bL rfl (r_gtr (bL.get rfl) rfl) fun _ bM => sqv bM rfl (r_move (bM.get rfl)) fun _ bN => ?_
     refine sq (opk_gval bN rfl rfl (g := true) (e := (decide (0 < k))) rfl (fun hg => r_move (bN.get rfl)) fun gZ bO _ => ?_)
     refine sq (opk_gval bO rfl rfl (g := true) (e := (decide (0 < k))) rfl (fun hg => r_nilCheck (cv_get (bO.get rfl) hg)) fun g0 bP _ => ?_)
     refine sq (opk_gval bP rfl rfl (g := true) (e := (decide (0 < k))) rfl (fun hg => r_fieldAddr (cv_get (bP.get rfl) hg) Tryz.underlying73 rfl ti_4 (by decide)) fun g1 bQ _ => ?_)
     obtain ⟨aq, fu, bR⟩ := ft
     refine sq (opk_gval bQ rfl rfl (g := true) (e := (decide (0 < k))) rfl (fun hg => r_load1 tU4 rfl (cv_get (bQ.get rfl) hg) (fu (of_decide_eq_true (g_t hg)))) fun g2 bS _ => ?_)
     refine sq (opk_gval bS rfl rfl (g := true) (e := (decide (0 < k))) rfl (fun hg => r_not (cv_get (bS.get rfl) hg)) fun g3 a7 _ => ?_)
     refine sqv a7 rfl (r_pick_and (g := (true && ((decide (0 < k)) == true))) (a7.get rfl) (a7.get rfl) (fun he => g_mkt rfl he)) fun _ fv => sq_end ?_
     have aX := fv.kp [(0, Sl.v b), (6, .pointer (some (⟨d, 0, none⟩ : Addr))), (7, .int .u64 f), (8, .int .u64 i), (9, Sl.v p), (10, .int .u64 k), (59, .bool ((decide (0 < k)) && (!aq)))] rfl
     refine then_normal ?_
     refine wp_cond_split (aX.get rfl) (fun hc => ?_) (fun hc => ?_)
     ·have fx := bR.1 ⟨(of_decide_eq_true (b_and_t hc).1), (b_not_t (b_and_t hc).2)⟩
      clear hc
      refine wp_skip ?_
      refine then_normal (wp_seq (wp_block (wp_region_lit ?_)))
      refine sqv aX rfl (r_move (aX.get rfl)) fun _ bT => sqv bT rfl (r_move (bT.get rfl)) fun _ bU => ?_
      refine sq (opk_call bU rfl (r_call (args := #[.pointer (some (⟨d, 0, none⟩ : Addr))]) Tryz.func33 (by decide) rfl (map_arr (ml_cons (bU.get rfl) ml_nil)) rfl) fx fun g4 g5 ar bV _ g6 g7 fy => ?_)
      obtain ⟨au, rfl, fz⟩ := fy
      refine sq (opk_new (fun B => .slice (some ⟨B, 0, none⟩) 1 1) bV rfl (r_buildSlice (vs := #[(0, .string (Bs au))]) (cs := [.string (Bs au)]) (map_arr2 (ml2_cons (bV.get rfl) (ml2_nil))) tU61 ti_9 rfl rfl (by kernel_rfl)) fun g8 z al fA fB fC a8 _ => ?_)
      have fD : New ar al z := fB
      have fF : Chg [] ar z := fA
      have fG := fz z al fD  fF
      have fH := fG fC
      refine sq (opk_run a8 rfl (fun _ _ hr => r_append (a8.get rfl) (a8.get rfl) hr) fH fun g9 ha aQ bX _ hb hf fI => ?_)
      obtain ⟨aa, rfl, bY⟩ := fI
      refine sqv bX rfl (r_assign (bX.get rfl)) fun _ fJ => sq_end ?_
      have bZ := fJ.kp [(0, Sl.v b), (6, .pointer (some (⟨d, 0, none⟩ : Addr))), (7, .int .u64 f), (8, .int .u64 i), (9, Sl.v aa), (10, .int .u64 k)] rfl
      refine block_normal ?_
      refine then_normal (wp_region_lit ?_)
      refine sqv bZ rfl (r_move (bZ.get rfl)) fun _ b0 => sqv b0 rfl (r_sub (b0.get rfl) rfl) fun _ b1 => sqv b1 rfl (r_assign (b1.get rfl)) fun _ fK => sq_end ?_
      have fL := fK.kp [(0, Sl.v b), (6, .pointer (some (⟨d, 0, none⟩ : Addr))), (7, .int .u64 f), (8, .int .u64 i), (9, Sl.v aa), (10, .int .u64 (IntKind.u64.wrap (k - 1)))] rfl
      have fM := fL.kp [(0, Sl.v b), (6, .pointer (some (⟨d, 0, none⟩ : Addr))), (7, .int .u64 f), (8, .int .u64 i), (9, Sl.v aa), (10, .int .u64 (IntKind.u64.wrap (k - 1)))] rfl
      exact then_normal ⟨(aa, IntKind.u64.wrap (k - 1), aQ), ⟨fM, rfl, bY.1⟩, bY.2⟩
     ·have fN := bR.2 ((b_and_f hc).imp (fun h => (of_decide_eq_false h)) (fun h => (b_not_f h)))
      clear hc
      refine wp_exit ?_
      refine then_exit ?_
      refine then_exit ?_
      refine block_hit ?_
      have fO := aX.kp [(0, Sl.v b), (6, .pointer (some (⟨d, 0, none⟩ : Addr))), (7, .int .u64 f), (8, .int .u64 i), (9, Sl.v p)] rfl
      refine then_normal (wp_seq (wp_region_lit ?_))
      refine sqv fO rfl (r_assign rfl) fun _ fP => sq_end ?_
      have b2 := fP.kp [(0, Sl.v b), (6, .pointer (some (⟨d, 0, none⟩ : Addr))), (7, .int .u64 f), (8, .int .u64 i), (9, Sl.v p), (11, Sl.v Sl.nil)] rfl
      refine then_normal (wp_seq (wp_seq (wp_region_lit ?_)))
      refine sqv b2 rfl (r_move (b2.get rfl)) fun _ b3 => ?_
      refine sq (opk_call b3 rfl (r_call (args := #[.pointer (some (⟨d, 0, none⟩ : Addr))]) Tryz.func32 (by decide) rfl (map_arr (ml_cons (b3.get rfl) ml_nil)) rfl) fN fun hh hi a3 b4 _ hj hk fQ => ?_)
      obtain ⟨am, rfl, fR⟩ := fQ
      refine sqv b4 rfl (r_assign (b4.get rfl)) fun _ fS => sq_end ?_
      have fT := fS.kp [(0, Sl.v b), (6, .pointer (some (⟨d, 0, none⟩ : Addr))), (7, .int .u64 f), (8, .int .u64 i), (9, Sl.v p), (11, Sl.v Sl.nil), (12, .int .u64 am)] rfl
      refine then_normal (wp_block ?_)
      obtain ⟨av, aR, fU, fV⟩ := fR
      refine wp_loop_st (σ := Sl × Int × World) (fun s a w => Ag 114 a [(0, Sl.v b), (6, .pointer (some (⟨d, 0, none⟩ : Addr))), (7, .int .u64 f), (8, .int .u64 i), (9, Sl.v p), (11, Sl.v s.1), (12, .int .u64 s.2.1)] ∧ w = s.2.2 ∧ av s.1 s.2.1 s.2.2) (fun s => aR s.1 s.2.1 s.2.2) (Sl.nil, am, a3) ⟨fT.kp [(0, Sl.v b), (6, .pointer (some (⟨d, 0, none⟩ : Addr))), (7, .int .u64 f), (8, .int .u64 i), (9, Sl.v p), (11, Sl.v Sl.nil), (12, .int .u64 am)] rfl, rfl, fU⟩ ?_
      rintro ⟨m, j, x⟩ hl w_ ⟨b5, hw_, fX⟩
      have hw_ : x = w_ := hw_.symm
      subst hw_
      have fY := fV m j _ fX
      refine wp_seq (wp_seq (wp_region_lit ?_))
      refine sqv b5 rfl (r_move (b5.get rfl)) fun _ b6 => sqv b6 rfl (r_gtr (b6.get rfl) rfl) fun _ b7 => sqv b7 rfl (r_move (b7.get rfl)) fun _ b8 => ?_
      refine sq (opk_gval b8 rfl rfl (g := true) (e := (decide (0 < j))) rfl (fun hg => r_move (b8.get rfl)) fun hm b9 _ => ?_)
      refine sq (opk_gval b9 rfl rfl (g := true) (e := (decide (0 < j))) rfl (fun hg => r_nilCheck (cv_get (b9.get rfl) hg)) fun hn ca _ => ?_)
      refine sq (opk_gval ca rfl rfl (g := true) (e := (decide (0 < j))) rfl (fun hg => r_fieldAddr (cv_get (ca.get rfl) hg) Tryz.underlying73 rfl ti_4 (by decide)) fun ho cb _ => ?_)
      obtain ⟨y, fZ, cc⟩ := fY
      refine sq (opk_gval cb rfl rfl (g := true) (e := (decide (0 < j))) rfl (fun hg => r_load1 tU4 rfl (cv_get (cb.get rfl) hg) (fZ (of_decide_eq_true (g_t hg)))) fun hp cd _ => ?_)
      refine sq (opk_gval cd rfl rfl (g := true) (e := (decide (0 < j))) rfl (fun hg => r_not (cv_get (cd.get rfl) hg)) fun hq a9 _ => ?_)
      refine sqv a9 rfl (r_pick_and (g := (true && ((decide (0 < j)) == true))) (a9.get rfl) (a9.get rfl) (fun he => g_mkt rfl he)) fun _ cf => sqv cf rfl (r_move (cf.get rfl)) fun _ cg => ?_
      refine sq (opk_gval cg rfl rfl (g := true) (e := ((decide (0 < j)) && (!y))) rfl (fun hg => r_move (cg.get rfl)) fun hs ch _ => ?_)
      refine sq (opk_gval ch rfl rfl (g := true) (e := ((decide (0 < j)) && (!y))) rfl (fun hg => r_len (cv_get (ch.get rfl) hg) tU23) fun ht ci _ => ?_)
      refine sq (opk_gval ci rfl rfl (g := true) (e := ((decide (0 < j)) && (!y))) rfl (fun hg => r_leq (cv_get (ci.get rfl) hg) rfl) fun hu ba _ => ?_)
      refine sqv ba rfl (r_pick_and (g := (true && (((decide (0 < j)) && (!y)) == true))) (ba.get rfl) (ba.get rfl) (fun he => g_mkt rfl he)) fun _ f0 => sq_end ?_
      have aY := f0.kp [(0, Sl.v b), (6, .pointer (some (⟨d, 0, none⟩ : Addr))), (7, .int .u64 f), (8, .int .u64 i), (9, Sl.v p), (11, Sl.v m), (12, .int .u64 j), (82, .bool (((decide (0 < j)) && (!y)) && (decide ((m.n : Int) ≤ 1500))))] rfl
      refine then_normal ?_
      refine wp_cond_split (aY.get rfl) (fun hc => ?_) (fun hc => ?_)
      ·have f1 := cc.1 ⟨⟨(of_decide_eq_true (b_and_t (b_and_t hc).1).1), (b_not_t (b_and_t (b_and_t hc).1).2)⟩, (of_decide_eq_true (b_and_t hc).2)⟩
       clear hc
       refine wp_skip ?_
       refine then_normal (wp_seq (wp_block (wp_region_lit ?_)))
       refine sqv aY rfl (r_move (aY.get rfl)) fun _ cj => sqv cj rfl (r_move (cj.get rfl)) fun _ ck => sqv ck rfl (r_move (ck.get rfl)) fun _ bb => ?_
       refine sq (opk_call bb rfl (r_call (args := #[.pointer (some (⟨d, 0, none⟩ : Addr)), Sl.v p]) Tryz.func34 (by decide) rfl (map_arr (ml_cons (bb.get rfl) (ml_cons (bb.get rfl) ml_nil))) rfl) f1 fun hv hx ax cl _ hy hz f2 => ?_)
       obtain ⟨ay, az, aA, aB, aC, aD, aF, rfl, f3⟩ := f2
       refine sq (opk_new (fun B => .slice (some ⟨B, 0, none⟩) 1 1) cl rfl (r_buildSlice (vs := #[(0, .agg #[.int .i64 ay, .int .i64 az, .int .i64 aA, .int .i64 aB, .int .i64 aC, .string (Bs aD), .string (Bs aF)])]) (cs := [.int .i64 ay, .int .i64 az, .int .i64 aA, .int .i64 aB, .int .i64 aC, .string (Bs aD), .string (Bs aF)]) (map_arr2 (ml2_cons (cl.get rfl) (ml2_nil))) tU23 ti_59 rfl rfl (by kernel_rfl)) fun hA ab an f4 f5 f6 bd _ => ?_)
       have f7 : New ax an ab := f5
       have f8 : Chg [] ax ab := f4
       have f9 := f3 ab an f7  f8
       have ga := f9 f6
       refine sq (opk_run bd rfl (fun _ _ hr => r_append (bd.get rfl) (bd.get rfl) hr) ga fun hB hC aS cm _ hD hF gb => ?_)
       obtain ⟨ad, rfl, cn⟩ := gb
       refine sqv cm rfl (r_assign (cm.get rfl)) fun _ gc => sq_end ?_
       have co := gc.kp [(0, Sl.v b), (6, .pointer (some (⟨d, 0, none⟩ : Addr))), (7, .int .u64 f), (8, .int .u64 i), (9, Sl.v p), (11, Sl.v ad), (12, .int .u64 j)] rfl
       refine block_normal ?_
       refine then_normal (wp_region_lit ?_)
       refine sqv co rfl (r_move (co.get rfl)) fun _ cp => sqv cp rfl (r_sub (cp.get rfl) rfl) fun _ cq => sqv cq rfl (r_assign (cq.get rfl)) fun _ gd => sq_end ?_
       have gf := gd.kp [(0, Sl.v b), (6, .pointer (some (⟨d, 0, none⟩ : Addr))), (7, .int .u64 f), (8, .int .u64 i), (9, Sl.v p), (11, Sl.v ad), (12, .int .u64 (IntKind.u64.wrap (j - 1)))] rfl
       have gg := gf.kp [(0, Sl.v b), (6, .pointer (some (⟨d, 0, none⟩ : Addr))), (7, .int .u64 f), (8, .int .u64 i), (9, Sl.v p), (11, Sl.v ad), (12, .int .u64 (IntKind.u64.wrap (j - 1)))] rfl
       exact then_normal ⟨(ad, IntKind.u64.wrap (j - 1), aS), ⟨gg, rfl, cn.1⟩, cn.2⟩
      ·have gh := cc.2 ((b_and_f hc).imp (fun h => ((b_and_f h).imp (fun h => (of_decide_eq_false h)) (fun h => (b_not_f h)))) (fun h => (of_decide_eq_false h)))
       clear hc
       refine wp_exit ?_
       refine then_exit ?_
       refine then_exit ?_
       refine block_hit ?_
       have cr := aY.kp [(0, Sl.v b), (6, .pointer (some (⟨d, 0, none⟩ : Addr))), (7, .int .u64 f), (8, .int .u64 i), (11, Sl.v m)] rfl
       refine then_normal (wp_seq (wp_seq (wp_region_lit ?_)))
       refine sqv cr rfl (r_move (cr.get rfl)) fun _ ct => sqv ct rfl (r_nilCheck (ct.get rfl)) fun _ cu => sqv cu rfl (r_fieldAddr (cu.get rfl) Tryz.underlying73 rfl ti_4 (by decide)) fun _ cv => ?_
       obtain ⟨aG, gi, cx⟩ := gh
       refine sqv cv rfl (r_load1 tU4 rfl (cv.get rfl) gi) fun _ gj => sq_end ?_
       have aZ := gj.kp [(0, Sl.v b), (7, .int .u64 f), (8, .int .u64 i), (11, Sl.v m), (94, .bool aG)] rfl
       refine then_normal ?_
       refine wp_cond_split (aZ.get rfl) (fun hc => ?_) (fun hc => ?_)
       ·have gk := cx.1 hc
        clear hc
        refine wp_seq (wp_region_lit ?_)
        refine sqv aZ rfl (r_assign rfl) fun _ gl => sqv gl rfl (r_assign rfl) fun _ gm => sqv gm rfl (r_assign rfl) fun _ gn => sqv gn rfl (r_assign rfl) fun _ go => sq_end ?_
        have aM := go.kp [(2, .int .u64 0), (3, .int .u64 0), (4, Sl.v Sl.nil), (5, .int .i64 10)] rfl
        refine then_normal ?_
        refine wp_ret ?_
        refine then_ret ?_
        exact res_all (vs := [.int .u64 0, .int .u64 0, Sl.v Sl.nil, .int .i64 10]) rfl aM ⟨res_of_tmp aM rfl, res_of_tmp aM rfl, res_of_tmp aM rfl, res_of_tmp aM rfl, trivial⟩ gk
       ·have gp := cx.2 hc
        clear hc
        refine wp_skip ?_
        refine then_normal (wp_seq (wp_seq (wp_region_lit ?_)))
        refine sqv aZ rfl (r_move (aZ.get rfl)) fun _ cy => sqv cy rfl (r_move (cy.get rfl)) fun _ cz => sqv cz rfl (r_move (cz.get rfl)) fun _ hA407 => ?_
        refine sq (opk_call hA407 rfl (r_call (args := #[.int .u64 f, .int .u64 i, Sl.v m]) Tryz.func8 (by decide) rfl (map_arr (ml_cons (hA407.get rfl) (ml_cons (hA407.get rfl) (ml_cons (hA407.get rfl) ml_nil)))) rfl) gp fun hG hH ah cA _ hI hJ gq => ?_)
        obtain ⟨aT, q, rfl, gr⟩ := gq
        refine sqv cA rfl (r_move (cA.get rfl)) fun _ cB => sqv cB rfl (r_extract (cB.get rfl) rfl) fun _ cC => sqv cC rfl (r_extract (cC.get rfl) rfl) fun _ cD => sqv cD rfl (r_assign (cD.get rfl)) fun _ cF => sqv cF rfl (r_assign (cF.get rfl)) fun _ gs => sq_end ?_
        have cG := gs.kp [(0, Sl.v b), (7, .int .u64 f), (8, .int .u64 i), (11, Sl.v m), (13, Sl.v aT), (14, .int .i64 q)] rfl
        refine then_normal (wp_seq (wp_region_lit ?_))
        refine sqv cG rfl (r_move (cG.get rfl)) fun _ cH => sqv cH rfl (r_neq (cH.get rfl) rfl) fun _ cI => sqv cI rfl (r_move (cI.get rfl)) fun _ cJ => ?_
        refine sq (opk_gval cJ rfl rfl (g := true) (e := (decide (q ≠ 0))) rfl (fun hg => r_move (cJ.get rfl)) fun hK cK _ => ?_)
        obtain ⟨aH, gu, gx⟩ := gr
        refine sq (opk_gval cK rfl rfl (g := true) (e := (decide (q ≠ 0))) rfl (fun hg => r_convR (cv_get (cK.get rfl) hg) (gu (of_decide_eq_false (g_f hg)))) fun hL cL _ => ?_)
        refine sq (opk_gval cL rfl rfl (g := true) (e := (decide (q ≠ 0))) rfl (fun hg => r_move (cL.get rfl)) fun hM cM _ => ?_)
        obtain ⟨aI, gy, cN⟩ := gx
        refine sq (opk_gval cM rfl rfl (g := true) (e := (decide (q ≠ 0))) rfl (fun hg => r_convR (cv_get (cM.get rfl) hg) (gy (of_decide_eq_false (g_f hg)))) fun hN bf _ => ?_)
        refine sq (opk_gval bf rfl rfl (g := true) (e := (decide (q ≠ 0))) rfl (fun hg => r_sneq (cv_get (bf.get rfl) hg) (cv_get (bf.get rfl) hg)) fun hO bg _ => ?_)
        refine sqv bg rfl (r_pick_or (g := (true && ((decide (q ≠ 0)) == false))) (bg.get rfl) (bg.get rfl) (fun he => g_mkf rfl he)) fun _ gz => sq_end ?_
        have a1 := gz.kp [(7, .int .u64 f), (8, .int .u64 i), (11, Sl.v m), (110, .bool ((decide (q ≠ 0)) || (decide (aH ≠ aI))))] rfl
        refine then_normal ?_
        refine wp_cond_split (a1.get rfl) (fun hc => ?_) (fun hc => ?_)
        ·have gA := cN.1 ((b_or_t hc).imp (fun h => (of_decide_eq_true h)) (fun h => (of_decide_eq_true h)))
         clear hc
         refine wp_seq (wp_region_lit ?_)
         refine sqv a1 rfl (r_assign rfl) fun _ gB => sqv gB rfl (r_assign rfl) fun _ gC => sqv gC rfl (r_assign rfl) fun _ gD => sqv gD rfl (r_assign rfl) fun _ gF => sq_end ?_
         have aN := gF.kp [(2, .int .u64 0), (3, .int .u64 0), (4, Sl.v Sl.nil), (5, .int .i64 10)] rfl
         refine then_normal ?_
         refine wp_ret ?_
         refine then_ret ?_
         exact res_all (vs := [.int .u64 0, .int .u64 0, Sl.v Sl.nil, .int .i64 10]) rfl aN ⟨res_of_tmp aN rfl, res_of_tmp aN rfl, res_of_tmp aN rfl, res_of_tmp aN rfl, trivial⟩ gA
        ·have gG := cN.2 ⟨(of_decide_eq_false (b_or_f hc).1), (of_decide_eq_false (b_or_f hc).2)⟩
         clear hc
         refine wp_skip ?_
         refine then_normal (wp_seq (wp_region_lit ?_))
         refine sqv a1 rfl (r_move (a1.get rfl)) fun _ cO => sqv cO rfl (r_move (cO.get rfl)) fun _ cP => sqv cP rfl (r_move (cP.get rfl)) fun _ cQ => sqv cQ rfl (r_assign (cQ.get rfl)) fun _ cR => sqv cR rfl (r_assign (cR.get rfl)) fun _ cS => sqv cS rfl (r_assign (cS.get rfl)) fun _ gH => sqv gH rfl (r_assign rfl) fun _ gI => sq_end ?_
         have aO := gI.kp [(2, .int .u64 f), (3, .int .u64 i), (4, Sl.v m), (5, .int .i64 0)] rfl
         refine then_normal ?_
         refine wp_ret ?_
         exact res_all (vs := [.int .u64 f, .int .u64 i, Sl.v m, .int .i64 0]) rfl aO ⟨res_of_tmp aO rfl, res_of_tmp aO rfl, res_of_tmp aO rfl, res_of_tmp aO rfl, trivial⟩ gG
end Go.Proofs.YteacalmdpoblpaaGreat
