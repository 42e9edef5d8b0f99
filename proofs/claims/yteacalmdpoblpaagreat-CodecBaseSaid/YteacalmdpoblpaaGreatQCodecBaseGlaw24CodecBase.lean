/-
  PRINTED BY PROGRAM: for each function its condition (vc), and that this suffices (ok).
-/
import Derived.Test.YteacalmdpoblpaaGreatQCodecBaseGT
namespace Go.Proofs.YteacalmdpoblpaaGreat
open Go.RowKit
set_option linter.unusedVariables false
set_option maxHeartbeats 1000000
set_option maxRecDepth 10000
def law24_CodecBase.vc (al : Sl) (k : Int) (m : Int) (R : Value → World → Prop) (w : World) : Prop :=
CallK Tryz.prog 15 #[Sl.v al] w [] (fun v w9 => ∃ (p : Int) (q : Str) (r : Str) (t : Sl) (u : Sl), v = .agg #[.int .i64 p, .string (Bs q), .string (Bs r), Sl.v t, Sl.v u] ∧
∀ (aJ : World) (o : Nat), New w9 o aJ → Chg [] w9 aJ →
CallK Tryz.prog 18 #[.agg #[.int .i64 p, .string (Bs q), .string (Bs r), Sl.v t, Sl.v u]] aJ [o] (fun v bJ => ∃ (b : Int), v = .int .u64 b ∧
CallK Tryz.prog 8 #[.int .u64 k, .int .u64 m, Sl.v Sl.nil] bJ [o] (fun v bK => ∃ (am : Sl) (f : Int), v = .tuple #[Sl.v am, .int .i64 f] ∧
CallK Tryz.prog 8 #[.int .u64 b, .int .u64 m, Sl.v Sl.nil] bK [o] (fun v bL => ∃ (an : Sl) (j : Int), v = .tuple #[Sl.v an, .int .i64 j] ∧
CallK Tryz.prog 8 #[.int .u64 b, .int .u64 b, Sl.v Sl.nil] bL [o] (fun v bM => ∃ (ao : Sl) (l : Int), v = .tuple #[Sl.v ao, .int .i64 l] ∧
CallK Tryz.prog 12 #[.agg #[.int .i64 p, .string (Bs q), .string (Bs r), Sl.v t, Sl.v u], Sl.v am] bM [o] (fun v aT => ∃ (ap : Int) (aq : Str) (ar : Str) (au : Sl) (av : Sl) (a : Int), v = .tuple #[.agg #[.int .i64 ap, .string (Bs aq), .string (Bs ar), Sl.v au, Sl.v av], .int .i64 a] ∧
∀ (aK : World) (y : Nat), New aT y aK → Chg [] aT aK →
CallK Tryz.prog 12 #[.agg #[.int .i64 p, .string (Bs q), .string (Bs r), Sl.v t, Sl.v u], Sl.v an] aK [o, y] (fun v aU => ∃ (ax : Int) (ay : Str) (az : Str) (aA : Sl) (aB : Sl) (c : Int), v = .tuple #[.agg #[.int .i64 ax, .string (Bs ay), .string (Bs az), Sl.v aA, Sl.v aB], .int .i64 c] ∧
∀ (aL : World) (ab : Nat), New aU ab aL → Chg [] aU aL →
CallK Tryz.prog 12 #[.agg #[.int .i64 p, .string (Bs q), .string (Bs r), Sl.v t, Sl.v u], Sl.v ao] aL [o, y, ab] (fun v aC => ∃ (aD : Int) (aF : Str) (aG : Str) (aH : Sl) (aI : Sl) (d : Int), v = .tuple #[.agg #[.int .i64 aD, .string (Bs aF), .string (Bs aG), Sl.v aH, Sl.v aI], .int .i64 d] ∧
(((((((f ≠ 0) ∨ (j ≠ 0)) ∨ (l ≠ 0)) ∨ (((decide (a = 12)) == (decide (k ≠ b))) = false)) ∨ (((decide (c = 0)) == (decide (m = b))) = false)) ∨ ((c ≠ 0) ∧ (c ≠ 11))) →
∀ (z : World) (aa : Nat), New aC aa z → Chg [] aC z →
R (.bool false) z) ∧
(((((((¬ (f ≠ 0)) ∧ (¬ (j ≠ 0))) ∧ (¬ (l ≠ 0))) ∧ (((decide (a = 12)) == (decide (k ≠ b))) = true)) ∧ (((decide (c = 0)) == (decide (m = b))) = true)) ∧ ((¬ (c ≠ 0)) ∨ (¬ (c ≠ 11)))) →
∀ (z : World) (aa : Nat), New aC aa z → Chg [] aC z →
∃ (i : Bool), (((d = 0)) → Calls Tryz.prog 13 #[.agg #[.int .i64 aD, .string (Bs aF), .string (Bs aG), Sl.v aH, Sl.v aI], .agg #[.int .i64 p, .string (Bs q), .string (Bs r), Sl.v t, Sl.v u]] z (Ret fun v w' => Ext z w' ∧ v = .bool i)) ∧
(∀ ag : World, Ext z ag →
∃ (n : Bool), ((((d = 0) ∧ (i = true)) ∧ (¬ (a = 0))) → Calls Tryz.prog 13 #[.agg #[.int .i64 ap, .string (Bs aq), .string (Bs ar), Sl.v au, Sl.v av], .agg #[.int .i64 0, .string (Bs []), .string (Bs []), Sl.v Sl.nil, Sl.v Sl.nil]] ag (Ret fun v w' => Ext ag w' ∧ v = .bool n)) ∧
(∀ ah : World, Ext ag ah →
∃ (x : Bool), (((((d = 0) ∧ (i = true)) ∧ ((a = 0) ∨ (n = true))) ∧ (¬ (c = 0))) → Calls Tryz.prog 13 #[.agg #[.int .i64 ax, .string (Bs ay), .string (Bs az), Sl.v aA, Sl.v aB], .agg #[.int .i64 0, .string (Bs []), .string (Bs []), Sl.v Sl.nil, Sl.v Sl.nil]] ah (Ret fun v w' => Ext ah w' ∧ v = .bool x)) ∧
(∀ ai : World, Ext ah ai →
∃ aZ : Sl → World → Prop, ((((((d = 0) ∧ (i = true)) ∧ ((a = 0) ∨ (n = true))) ∧ ((c = 0) ∨ (x = true)))) → Calls Tryz.prog 23 #[.int .u64 b] ai (Ret fun v w' => Ext ai w' ∧ ∃ ad : Sl, v = Sl.v ad ∧ aZ ad w')) ∧
(∀ (ad : Sl) (af : World), Ext ai af → ((((((d = 0) ∧ (i = true)) ∧ ((a = 0) ∨ (n = true))) ∧ ((c = 0) ∨ (x = true)))) → aZ ad af) →
∃ (aj : Int), ((((((d = 0) ∧ (i = true)) ∧ ((a = 0) ∨ (n = true))) ∧ ((c = 0) ∨ (x = true)))) → Calls Tryz.prog 22 #[Sl.v ad] af (Ret fun v w' => Ext af w' ∧ v = .int .u64 aj)) ∧
(∀ ak : World, Ext af ak →
∃ (aV : Bool), (((((((d = 0) ∧ (i = true)) ∧ ((a = 0) ∨ (n = true))) ∧ ((c = 0) ∨ (x = true))) ∧ (aj = b))) → Calls Tryz.prog 7 #[] ak (Ret fun v w' => Ext ak w' ∧ v = .bool aV)) ∧
(∀ aX : World, Ext ak aX →
R (.bool ((((((decide (d = 0)) && i) && ((decide (a = 0)) || n)) && ((decide (c = 0)) || x)) && (decide (aj = b))) && aV)) aX)))))))))))))))
theorem law24_CodecBase.ok (al : Sl) (k : Int) (m : Int) {R : Value → World → Prop} {w : World} (bN : law24_CodecBase.vc al k m R w) : Calls Tryz.prog 5 #[Sl.v al, .int .u64 k, .int .u64 m] w (Ret R) := by
 refine enter [Sl.v al, .int .u64 k, .int .u64 m] Tryz.func5 rfl Tryz.ntmps5 rfl ?_
 intro a0 dZ
 unfold law24_CodecBase.vc at bN
 refine wp_seq (wp_region_lit ?_)
 refine sqv dZ rfl (r_assign rfl) fun _ d0 => sq_end ?_
 have bO := d0.kp [(0, Sl.v al), (1, .int .u64 k), (2, .int .u64 m)] rfl
 refine then_normal (wp_seq (wp_region_lit ?_))
 refine sqv bO rfl (r_move (bO.get rfl)) fun _ bP => ?_
 refine sq (opk_call bP rfl (r_call (args := #[Sl.v al]) Tryz.func15 (by decide) rfl (map_arr (ml_cons (bP.get rfl) ml_nil)) rfl) bN fun a8 hb w9 d1 _ hf hh d2 => ?_)
 obtain ⟨p, q, r, t, u, rfl, d3⟩ := d2
 refine sq (opk_new (fun B => .pointer (some ⟨B, 0, none⟩)) d1 rfl (r_alloc (cs := [.int .i64 0, .string (Bs []), .string (Bs []), Sl.v Sl.nil, Sl.v Sl.nil]) ti_39 rfl) fun hi bQ o d4 d5 bR a4 _ => ?_)
 have bS : New w9 o bQ := d5
 have d6 : Chg [] w9 bQ := d4
 refine sq (opk_store a4 bR (r_store (vs := [.int .i64 p, .string (Bs q), .string (Bs r), Sl.v t, Sl.v u]) (a4.get rfl) (a4.get rfl) rfl ti_39 bR rfl (ones_all _ rfl)) fun hj aJ bT d7 d8 => ?_)
 have bU : Box aJ o 39 [.int .i64 p, .string (Bs q), .string (Bs r), Sl.v t, Sl.v u] := d7
 have d9 := d6.storeNew bS bT
 have fa := bS.up bT.size
 refine sq_end ?_
 have bV := d8.kp [(1, .int .u64 k), (2, .int .u64 m), (7, .pointer (some (⟨o, 0, none⟩ : Addr)))] rfl
 refine then_normal (wp_seq (wp_region_lit ?_))
 refine sqv bV rfl (r_loadN (cs := [.int .i64 p, .string (Bs q), .string (Bs r), Sl.v t, Sl.v u]) Tryz.underlying39 rfl ti_39 (bV.get rfl) (bU.part 0 _ rfl)) fun _ bX => ?_
 have fb := d3 aJ o fa  d9
 refine sq (opk_call bX rfl (r_call (args := #[.agg #[.int .i64 p, .string (Bs q), .string (Bs r), Sl.v t, Sl.v u]]) Tryz.func18 (by decide) rfl (map_arr (ml_cons (bX.get rfl) ml_nil)) rfl) fb fun hk hl bJ bY _ fc hm fd => ?_)
 obtain ⟨b, rfl, ff⟩ := fd
 have fg := bU.kept fc (.head _)
 refine sqv bY rfl (r_assign (bY.get rfl)) fun _ fh => sq_end ?_
 have bZ := fh.kp [(1, .int .u64 k), (2, .int .u64 m), (7, .pointer (some (⟨o, 0, none⟩ : Addr))), (8, .int .u64 b)] rfl
 refine then_normal (wp_seq (wp_region_lit ?_))
 refine sqv bZ rfl (r_move (bZ.get rfl)) fun _ b0 => sqv b0 rfl (r_move (b0.get rfl)) fun _ a5 => ?_
 refine sq (opk_call a5 rfl (r_call (args := #[.int .u64 k, .int .u64 m, Sl.v Sl.nil]) Tryz.func8 (by decide) rfl (map_arr (ml_cons (a5.get rfl) (ml_cons (a5.get rfl) (ml_cons rfl ml_nil)))) rfl) ff fun hn ho bK b1 _ fi hq fj => ?_)
 obtain ⟨am, f, rfl, fk⟩ := fj
 have fl := fg.kept fi (.head _)
 refine sqv b1 rfl (r_move (b1.get rfl)) fun _ b2 => sqv b2 rfl (r_extract (b2.get rfl) rfl) fun _ b3 => sqv b3 rfl (r_extract (b3.get rfl) rfl) fun _ b4 => sqv b4 rfl (r_assign (b4.get rfl)) fun _ b5 => sqv b5 rfl (r_assign (b5.get rfl)) fun _ fm => sq_end ?_
 have b6 := fm.kp [(1, .int .u64 k), (2, .int .u64 m), (7, .pointer (some (⟨o, 0, none⟩ : Addr))), (8, .int .u64 b), (9, Sl.v am), (10, .int .i64 f)] rfl
 refine then_normal (wp_seq (wp_region_lit ?_))
 refine sqv b6 rfl (r_move (b6.get rfl)) fun _ b7 => sqv b7 rfl (r_move (b7.get rfl)) fun _ a6 => ?_
 refine sq (opk_call a6 rfl (r_call (args := #[.int .u64 b, .int .u64 m, Sl.v Sl.nil]) Tryz.func8 (by decide) rfl (map_arr (ml_cons (a6.get rfl) (ml_cons (a6.get rfl) (ml_cons rfl ml_nil)))) rfl) fk fun hr hs bL b8 _ fn ht fo => ?_)
 obtain ⟨an, j, rfl, fp⟩ := fo
 have fq := fl.kept fn (.head _)
 refine sqv b8 rfl (r_move (b8.get rfl)) fun _ b9 => sqv b9 rfl (r_extract (b9.get rfl) rfl) fun _ ca => sqv ca rfl (r_extract (ca.get rfl) rfl) fun _ cb => sqv cb rfl (r_assign (cb.get rfl)) fun _ cc => sqv cc rfl (r_assign (cc.get rfl)) fun _ fr => sq_end ?_
 have cd := fr.kp [(1, .int .u64 k), (2, .int .u64 m), (7, .pointer (some (⟨o, 0, none⟩ : Addr))), (8, .int .u64 b), (9, Sl.v am), (10, .int .i64 f), (11, Sl.v an), (12, .int .i64 j)] rfl
 refine then_normal (wp_seq (wp_region_lit ?_))
 refine sqv cd rfl (r_move (cd.get rfl)) fun _ cf => sqv cf rfl (r_move (cf.get rfl)) fun _ a7 => ?_
 refine sq (opk_call a7 rfl (r_call (args := #[.int .u64 b, .int .u64 b, Sl.v Sl.nil]) Tryz.func8 (by decide) rfl (map_arr (ml_cons (a7.get rfl) (ml_cons (a7.get rfl) (ml_cons rfl ml_nil)))) rfl) fp fun hu hv bM cg _ fs hx ft => ?_)
 obtain ⟨ao, l, rfl, fu⟩ := ft
 have ch := fq.kept fs (.head _)
 refine sqv cg rfl (r_move (cg.get rfl)) fun _ ci => sqv ci rfl (r_extract (ci.get rfl) rfl) fun _ cj => sqv cj rfl (r_extract (cj.get rfl) rfl) fun _ ck => sqv ck rfl (r_assign (ck.get rfl)) fun _ cl => sqv cl rfl (r_assign (cl.get rfl)) fun _ fv => sq_end ?_
 have cm := fv.kp [(1, .int .u64 k), (2, .int .u64 m), (7, .pointer (some (⟨o, 0, none⟩ : Addr))), (8, .int .u64 b), (9, Sl.v am), (10, .int .i64 f), (11, Sl.v an), (12, .int .i64 j), (13, Sl.v ao), (14, .int .i64 l)] rfl
 refine then_normal (wp_seq (wp_region_lit ?_))
 refine sqv cm rfl (r_loadN (cs := [.int .i64 p, .string (Bs q), .string (Bs r), Sl.v t, Sl.v u]) Tryz.underlying39 rfl ti_39 (cm.get rfl) (ch.part 0 _ rfl)) fun _ cn => sqv cn rfl (r_move (cn.get rfl)) fun _ hA99 => ?_
 refine sq (opk_call hA99 rfl (r_call (args := #[.agg #[.int .i64 p, .string (Bs q), .string (Bs r), Sl.v t, Sl.v u], Sl.v am]) Tryz.func12 (by decide) rfl (map_arr (ml_cons (hA99.get rfl) (ml_cons (hA99.get rfl) ml_nil))) rfl) fu fun hy hz aT co _ fx hA fy => ?_)
 obtain ⟨ap, aq, ar, au, av, a, rfl, fz⟩ := fy
 have cp := ch.kept fx (.head _)
 refine sqv co rfl (r_move (co.get rfl)) fun _ cq => sqv cq rfl (r_extract (cq.get rfl) rfl) fun _ cr => sqv cr rfl (r_extract (cr.get rfl) rfl) fun _ fA => ?_
 refine sq (opk_new (fun B => .pointer (some ⟨B, 0, none⟩)) fA rfl (r_alloc (cs := [.int .i64 0, .string (Bs []), .string (Bs []), Sl.v Sl.nil, Sl.v Sl.nil]) ti_39 rfl) fun hB ct y cu cv cx a9 _ => ?_)
 have fB : o ≠ y := Nat.ne_of_lt (Nat.lt_of_lt_of_le cp.lt cv.ge)
 have cy : New aT y ct := cv
 have fC := cp.ext cu
 have fD : Chg [] aT ct := cu
 refine sq (opk_store a9 cx (r_store (vs := [.int .i64 ap, .string (Bs aq), .string (Bs ar), Sl.v au, Sl.v av]) (a9.get rfl) (a9.get rfl) rfl ti_39 cx rfl (ones_all _ rfl)) fun hC aK ba fF cz => ?_)
 have fG : Box aK y 39 [.int .i64 ap, .string (Bs aq), .string (Bs ar), Sl.v au, Sl.v av] := fF
 have cA := fC.keep ba (by simpa using fB)
 have fH := fD.storeNew cy ba
 have fI := cy.up ba.size
 refine sqv cz rfl (r_assign (cz.get rfl)) fun _ fJ => sq_end ?_
 have cB := fJ.kp [(1, .int .u64 k), (2, .int .u64 m), (7, .pointer (some (⟨o, 0, none⟩ : Addr))), (8, .int .u64 b), (10, .int .i64 f), (11, Sl.v an), (12, .int .i64 j), (13, Sl.v ao), (14, .int .i64 l), (15, .pointer (some (⟨y, 0, none⟩ : Addr))), (16, .int .i64 a)] rfl
 refine then_normal (wp_seq (wp_region_lit ?_))
 refine sqv cB rfl (r_loadN (cs := [.int .i64 p, .string (Bs q), .string (Bs r), Sl.v t, Sl.v u]) Tryz.underlying39 rfl ti_39 (cB.get rfl) (cA.part 0 _ rfl)) fun _ cC => sqv cC rfl (r_move (cC.get rfl)) fun _ bb => ?_
 have fK := fz aK y fI  fH
 refine sq (opk_call bb rfl (r_call (args := #[.agg #[.int .i64 p, .string (Bs q), .string (Bs r), Sl.v t, Sl.v u], Sl.v an]) Tryz.func12 (by decide) rfl (map_arr (ml_cons (bb.get rfl) (ml_cons (bb.get rfl) ml_nil))) rfl) fK fun hD hF aU cD _ cF hG fL => ?_)
 obtain ⟨ax, ay, az, aA, aB, c, rfl, fM⟩ := fL
 have cG := cA.kept cF (.head _)
 have cH := fG.kept cF (.tail _ (.head _))
 refine sqv cD rfl (r_move (cD.get rfl)) fun _ cI => sqv cI rfl (r_extract (cI.get rfl) rfl) fun _ cJ => sqv cJ rfl (r_extract (cJ.get rfl) rfl) fun _ fN => ?_
 refine sq (opk_new (fun B => .pointer (some ⟨B, 0, none⟩)) fN rfl (r_alloc (cs := [.int .i64 0, .string (Bs []), .string (Bs []), Sl.v Sl.nil, Sl.v Sl.nil]) ti_39 rfl) fun hH cK ab bd bf cL bg _ => ?_)
 have fO : o ≠ ab := Nat.ne_of_lt (Nat.lt_of_lt_of_le cG.lt bf.ge)
 have fP : y ≠ ab := Nat.ne_of_lt (Nat.lt_of_lt_of_le cH.lt bf.ge)
 have cM : New aU ab cK := bf
 have fQ := cG.ext bd
 have fR := cH.ext bd
 have fS : Chg [] aU cK := bd
 refine sq (opk_store bg cL (r_store (vs := [.int .i64 ax, .string (Bs ay), .string (Bs az), Sl.v aA, Sl.v aB]) (bg.get rfl) (bg.get rfl) rfl ti_39 cL rfl (ones_all _ rfl)) fun hI aL hS164 fT cN => ?_)
 have fU : Box aL ab 39 [.int .i64 ax, .string (Bs ay), .string (Bs az), Sl.v aA, Sl.v aB] := fT
 have cO := fQ.keep hS164 (by simpa using fO)
 have fV := fR.keep hS164 (by simpa using fP)
 have fX := fS.storeNew cM hS164
 have fY := cM.up hS164.size
 refine sqv cN rfl (r_assign (cN.get rfl)) fun _ fZ => sq_end ?_
 have cP := fZ.kp [(1, .int .u64 k), (2, .int .u64 m), (7, .pointer (some (⟨o, 0, none⟩ : Addr))), (8, .int .u64 b), (10, .int .i64 f), (12, .int .i64 j), (13, Sl.v ao), (14, .int .i64 l), (15, .pointer (some (⟨y, 0, none⟩ : Addr))), (16, .int .i64 a), (17, .pointer (some (⟨ab, 0, none⟩ : Addr))), (18, .int .i64 c)] rfl
 refine then_normal (wp_seq (wp_region_lit ?_))
 refine sqv cP rfl (r_loadN (cs := [.int .i64 p, .string (Bs q), .string (Bs r), Sl.v t, Sl.v u]) Tryz.underlying39 rfl ti_39 (cP.get rfl) (cO.part 0 _ rfl)) fun _ cQ => sqv cQ rfl (r_move (cQ.get rfl)) fun _ bh => ?_
 have f0 := fM aL ab fY  fX
 refine sq (opk_call bh rfl (r_call (args := #[.agg #[.int .i64 p, .string (Bs q), .string (Bs r), Sl.v t, Sl.v u], Sl.v ao]) Tryz.func12 (by decide) rfl (map_arr (ml_cons (bh.get rfl) (ml_cons (bh.get rfl) ml_nil))) rfl) f0 fun hJ hK aC cR _ bi hL f1 => ?_)
 obtain ⟨aD, aF, aG, aH, aI, d, rfl, cS⟩ := f1
 have cT := cO.kept bi (.head _)
 have cU := fV.kept bi (.tail _ (.head _))
 have cX := fU.kept bi (.tail _ (.tail _ (.head _)))
 refine sqv cR rfl (r_move (cR.get rfl)) fun _ cY => sqv cY rfl (r_extract (cY.get rfl) rfl) fun _ cZ => sqv cZ rfl (r_extract (cZ.get rfl) rfl) fun _ f2 => ?_
 refine sq (opk_new (fun B => .pointer (some ⟨B, 0, none⟩)) f2 rfl (r_alloc (cs := [.int .i64 0, .string (Bs []), .string (Bs []), Sl.v Sl.nil, Sl.v Sl.nil]) ti_39 rfl) fun hM c0 aa a1 a2 c1 bj _ => ?_)
 have f3 : o ≠ aa := Nat.ne_of_lt (Nat.lt_of_lt_of_le cT.lt a2.ge)
 have f4 : y ≠ aa := Nat.ne_of_lt (Nat.lt_of_lt_of_le cU.lt a2.ge)
 have f5 : ab ≠ aa := Nat.ne_of_lt (Nat.lt_of_lt_of_le cX.lt a2.ge)
 have c2 : New aC aa c0 := a2
 have f6 := cT.ext a1
 have f7 := cU.ext a1
 have f8 := cX.ext a1
 have f9 : Chg [] aC c0 := a1
 refine sq (opk_store bj c1 (r_store (vs := [.int .i64 aD, .string (Bs aF), .string (Bs aG), Sl.v aH, Sl.v aI]) (bj.get rfl) (bj.get rfl) rfl ti_39 c1 rfl (ones_all _ rfl)) fun hN z aY ga c3 => ?_)
 have c4 : Box z aa 39 [.int .i64 aD, .string (Bs aF), .string (Bs aG), Sl.v aH, Sl.v aI] := ga
 have c5 := f6.keep aY (by simpa using f3)
 have gb := f7.keep aY (by simpa using f4)
 have gc := f8.keep aY (by simpa using f5)
 have c6 := f9.storeNew c2 aY
 have c7 := c2.up aY.size
 refine sqv c3 rfl (r_assign (c3.get rfl)) fun _ gd => sq_end ?_
 have c8 := gd.kp [(1, .int .u64 k), (2, .int .u64 m), (7, .pointer (some (⟨o, 0, none⟩ : Addr))), (8, .int .u64 b), (10, .int .i64 f), (12, .int .i64 j), (14, .int .i64 l), (15, .pointer (some (⟨y, 0, none⟩ : Addr))), (16, .int .i64 a), (17, .pointer (some (⟨ab, 0, none⟩ : Addr))), (18, .int .i64 c), (19, .pointer (some (⟨aa, 0, none⟩ : Addr))), (20, .int .i64 d)] rfl
 refine then_normal (wp_seq (wp_seq (wp_region_lit ?_)))
 refine sqv c8 rfl (r_move (c8.get rfl)) fun _ c9 => sqv c9 rfl (r_neq (c9.get rfl) rfl) fun _ da => sqv da rfl (r_move (da.get rfl)) fun _ db => ?_
 refine sq (opk_gval db rfl rfl (g := true) (e := (decide (f ≠ 0))) rfl (fun hg => r_move (db.get rfl)) fun hO dc _ => ?_)
 refine sq (opk_gval dc rfl rfl (g := true) (e := (decide (f ≠ 0))) rfl (fun hg => r_neq (cv_get (dc.get rfl) hg) rfl) fun hP bk _ => ?_)
 refine sqv bk rfl (r_pick_or (g := (true && ((decide (f ≠ 0)) == false))) (bk.get rfl) (bk.get rfl) (fun he => g_mkf rfl he)) fun _ dd => sqv dd rfl (r_move (dd.get rfl)) fun _ df => ?_
 refine sq (opk_gval df rfl rfl (g := true) (e := ((decide (f ≠ 0)) || (decide (j ≠ 0)))) rfl (fun hg => r_move (df.get rfl)) fun hQ dg _ => ?_)
 refine sq (opk_gval dg rfl rfl (g := true) (e := ((decide (f ≠ 0)) || (decide (j ≠ 0)))) rfl (fun hg => r_neq (cv_get (dg.get rfl) hg) rfl) fun hR bl _ => ?_)
 refine sqv bl rfl (r_pick_or (g := (true && (((decide (f ≠ 0)) || (decide (j ≠ 0))) == false))) (bl.get rfl) (bl.get rfl) (fun he => g_mkf rfl he)) fun _ dh => sqv dh rfl (r_move (dh.get rfl)) fun _ di => ?_
 refine sq (opk_gval di rfl rfl (g := true) (e := (((decide (f ≠ 0)) || (decide (j ≠ 0))) || (decide (l ≠ 0)))) rfl (fun hg => r_move (di.get rfl)) fun hS dj _ => ?_)
 refine sq (opk_gval dj rfl rfl (g := true) (e := (((decide (f ≠ 0)) || (decide (j ≠ 0))) || (decide (l ≠ 0)))) rfl (fun hg => r_eql (cv_get (dj.get rfl) hg) rfl) fun hU dk _ => ?_)
 refine sq (opk_gval dk rfl rfl (g := true) (e := (((decide (f ≠ 0)) || (decide (j ≠ 0))) || (decide (l ≠ 0)))) rfl (fun hg => r_move (dk.get rfl)) fun hV dl _ => ?_)
 refine sq (opk_gval dl rfl rfl (g := true) (e := (((decide (f ≠ 0)) || (decide (j ≠ 0))) || (decide (l ≠ 0)))) rfl (fun hg => r_move (dl.get rfl)) fun hX bm _ => ?_)
 refine sq (opk_gval bm rfl rfl (g := true) (e := (((decide (f ≠ 0)) || (decide (j ≠ 0))) || (decide (l ≠ 0)))) rfl (fun hg => r_neq (cv_get (bm.get rfl) hg) (cv_get (bm.get rfl) hg)) fun hY bn _ => ?_)
 refine sq (opk_gval bn rfl rfl (g := true) (e := (((decide (f ≠ 0)) || (decide (j ≠ 0))) || (decide (l ≠ 0)))) rfl (fun hg => r_bneq (cv_get (bn.get rfl) hg) (cv_get (bn.get rfl) hg) tU4) fun hZ bo _ => ?_)
 refine sqv bo rfl (r_pick_or (g := (true && ((((decide (f ≠ 0)) || (decide (j ≠ 0))) || (decide (l ≠ 0))) == false))) (bo.get rfl) (bo.get rfl) (fun he => g_mkf rfl he)) fun _ dm => sqv dm rfl (r_move (dm.get rfl)) fun _ dn => ?_
 refine sq (opk_gval dn rfl rfl (g := true) (e := ((((decide (f ≠ 0)) || (decide (j ≠ 0))) || (decide (l ≠ 0))) || (!((decide (a = 12)) == (decide (k ≠ b)))))) rfl (fun hg => r_move (dn.get rfl)) fun h0 dp _ => ?_)
 refine sq (opk_gval dp rfl rfl (g := true) (e := ((((decide (f ≠ 0)) || (decide (j ≠ 0))) || (decide (l ≠ 0))) || (!((decide (a = 12)) == (decide (k ≠ b)))))) rfl (fun hg => r_eql (cv_get (dp.get rfl) hg) rfl) fun h3 dq _ => ?_)
 refine sq (opk_gval dq rfl rfl (g := true) (e := ((((decide (f ≠ 0)) || (decide (j ≠ 0))) || (decide (l ≠ 0))) || (!((decide (a = 12)) == (decide (k ≠ b)))))) rfl (fun hg => r_move (dq.get rfl)) fun h4 dr _ => ?_)
 refine sq (opk_gval dr rfl rfl (g := true) (e := ((((decide (f ≠ 0)) || (decide (j ≠ 0))) || (decide (l ≠ 0))) || (!((decide (a = 12)) == (decide (k ≠ b)))))) rfl (fun hg => r_move (dr.get rfl)) fun h5 bp _ => ?_)
 refine sq (opk_gval bp rfl rfl (g := true) (e := ((((decide (f ≠ 0)) || (decide (j ≠ 0))) || (decide (l ≠ 0))) || (!((decide (a = 12)) == (decide (k ≠ b)))))) rfl (fun hg => r_eql (cv_get (bp.get rfl) hg) (cv_get (bp.get rfl) hg)) fun h6 bq _ => ?_)
 refine sq (opk_gval bq rfl rfl (g := true) (e := ((((decide (f ≠ 0)) || (decide (j ≠ 0))) || (decide (l ≠ 0))) || (!((decide (a = 12)) == (decide (k ≠ b)))))) rfl (fun hg => r_bneq (cv_get (bq.get rfl) hg) (cv_get (bq.get rfl) hg) tU4) fun h7 br _ => ?_)
 refine sqv br rfl (r_pick_or (g := (true && (((((decide (f ≠ 0)) || (decide (j ≠ 0))) || (decide (l ≠ 0))) || (!((decide (a = 12)) == (decide (k ≠ b))))) == false))) (br.get rfl) (br.get rfl) (fun he => g_mkf rfl he)) fun _ ds => sqv ds rfl (r_move (ds.get rfl)) fun _ dt => ?_
 refine sq (opk_gval dt rfl rfl (g := true) (e := (((((decide (f ≠ 0)) || (decide (j ≠ 0))) || (decide (l ≠ 0))) || (!((decide (a = 12)) == (decide (k ≠ b))))) || (!((decide (c = 0)) == (decide (m = b)))))) rfl (fun hg => r_move (dt.get rfl)) fun h8 du _ => ?_)
 refine sq (opk_gval du rfl rfl (g := true) (e := (((((decide (f ≠ 0)) || (decide (j ≠ 0))) || (decide (l ≠ 0))) || (!((decide (a = 12)) == (decide (k ≠ b))))) || (!((decide (c = 0)) == (decide (m = b)))))) rfl (fun hg => r_neq (cv_get (du.get rfl) hg) rfl) fun h9 dv _ => ?_)
 refine sq (opk_gval dv rfl rfl (g := true) (e := (((((decide (f ≠ 0)) || (decide (j ≠ 0))) || (decide (l ≠ 0))) || (!((decide (a = 12)) == (decide (k ≠ b))))) || (!((decide (c = 0)) == (decide (m = b)))))) rfl (fun hg => r_move (cv_get (dv.get rfl) hg)) fun ia dx _ => ?_)
 refine sq (opk_gval dx rfl rfl (g := (true && ((((((decide (f ≠ 0)) || (decide (j ≠ 0))) || (decide (l ≠ 0))) || (!((decide (a = 12)) == (decide (k ≠ b))))) || (!((decide (c = 0)) == (decide (m = b))))) == false))) (e := (decide (c ≠ 0))) rfl (fun hg => r_move (dx.get rfl)) fun ib dy _ => ?_)
 refine sq (opk_gval dy rfl rfl (g := (true && ((((((decide (f ≠ 0)) || (decide (j ≠ 0))) || (decide (l ≠ 0))) || (!((decide (a = 12)) == (decide (k ≠ b))))) || (!((decide (c = 0)) == (decide (m = b))))) == false))) (e := (decide (c ≠ 0))) rfl (fun hg => r_neq (cv_get (dy.get rfl) hg) rfl) fun ig bs _ => ?_)
 refine sq (opk_gval bs rfl rfl (g := true) (e := (((((decide (f ≠ 0)) || (decide (j ≠ 0))) || (decide (l ≠ 0))) || (!((decide (a = 12)) == (decide (k ≠ b))))) || (!((decide (c = 0)) == (decide (m = b)))))) rfl (fun hg => r_pick_and (g := ((true && ((((((decide (f ≠ 0)) || (decide (j ≠ 0))) || (decide (l ≠ 0))) || (!((decide (a = 12)) == (decide (k ≠ b))))) || (!((decide (c = 0)) == (decide (m = b))))) == false)) && ((decide (c ≠ 0)) == true))) (cv_get (bs.get rfl) hg) (bs.get rfl) (fun he => g_mkt hg he)) fun ih bt _ => ?_)
 refine sqv bt rfl (r_pick_or (g := (true && ((((((decide (f ≠ 0)) || (decide (j ≠ 0))) || (decide (l ≠ 0))) || (!((decide (a = 12)) == (decide (k ≠ b))))) || (!((decide (c = 0)) == (decide (m = b))))) == false))) (bt.get rfl) (bt.get rfl) (fun he => g_mkf rfl he)) fun _ gf => sq_end ?_
 have a3 := gf.kp [(7, .pointer (some (⟨o, 0, none⟩ : Addr))), (8, .int .u64 b), (15, .pointer (some (⟨y, 0, none⟩ : Addr))), (16, .int .i64 a), (17, .pointer (some (⟨ab, 0, none⟩ : Addr))), (18, .int .i64 c), (19, .pointer (some (⟨aa, 0, none⟩ : Addr))), (20, .int .i64 d), (94, .bool ((((((decide (f ≠ 0)) || (decide (j ≠ 0))) || (decide (l ≠ 0))) || (!((decide (a = 12)) == (decide (k ≠ b))))) || (!((decide (c = 0)) == (decide (m = b))))) || ((decide (c ≠ 0)) && (decide (c ≠ 11)))))] rfl
 refine then_normal ?_
 refine wp_cond_split (a3.get rfl) (fun hc => ?_) (fun hc => ?_)
 ·have gg := cS.1 ((b_or_t hc).imp (fun h => ((b_or_t h).imp (fun h => ((b_or_t h).imp (fun h => ((b_or_t h).imp (fun h => ((b_or_t h).imp (fun h => (of_decide_eq_true h)) (fun h => (of_decide_eq_true h)))) (fun h => (of_decide_eq_true h)))) (fun h => (b_not_t h)))) (fun h => (b_not_t h)))) (fun h => ⟨(of_decide_eq_true (b_and_t h).1), (of_decide_eq_true (b_and_t h).2)⟩))
  clear hc
  refine wp_seq (wp_region_lit ?_)
  refine sqv a3 rfl (r_assign rfl) fun _ gh => sq_end ?_
  have dz := gh.kp [(6, .bool false)] rfl
  refine then_normal ?_
  refine wp_ret ?_
  refine then_ret ?_
  have gi := gg z aa c7  c6
  exact res_all (vs := [.bool false]) rfl dz ⟨res_of_tmp dz rfl, trivial⟩ gi
 ·have gj := cS.2 ⟨⟨⟨⟨⟨(of_decide_eq_false (b_or_f (b_or_f (b_or_f (b_or_f (b_or_f hc).1).1).1).1).1), (of_decide_eq_false (b_or_f (b_or_f (b_or_f (b_or_f (b_or_f hc).1).1).1).1).2)⟩, (of_decide_eq_false (b_or_f (b_or_f (b_or_f (b_or_f hc).1).1).1).2)⟩, (b_not_f (b_or_f (b_or_f (b_or_f hc).1).1).2)⟩, (b_not_f (b_or_f (b_or_f hc).1).2)⟩, ((b_and_f (b_or_f hc).2).imp (fun h => (of_decide_eq_false h)) (fun h => (of_decide_eq_false h)))⟩
  clear hc
  refine wp_skip ?_
  refine then_normal (wp_seq (wp_region_lit ?_))
  refine sqv a3 rfl (r_move (a3.get rfl)) fun _ dA => sqv dA rfl (r_eql (dA.get rfl) rfl) fun _ dB => sqv dB rfl (r_move (dB.get rfl)) fun _ dC => ?_
  refine sq (opk_gval dC rfl rfl (g := true) (e := (decide (d = 0))) rfl (fun hg => r_loadN (cs := [.int .i64 aD, .string (Bs aF), .string (Bs aG), Sl.v aH, Sl.v aI]) Tryz.underlying39 rfl ti_39 (dC.get rfl) (c4.part 0 _ rfl)) fun ii dD _ => ?_)
  refine sq (opk_gval dD rfl rfl (g := true) (e := (decide (d = 0))) rfl (fun hg => r_loadN (cs := [.int .i64 p, .string (Bs q), .string (Bs r), Sl.v t, Sl.v u]) Tryz.underlying39 rfl ti_39 (dD.get rfl) (c5.part 0 _ rfl)) fun ij bu _ => ?_)
  have gk := gj z aa c7  c6
  obtain ⟨i, gl, gm⟩ := gk
  refine sq (opk_gcall bu rfl rfl (g := true) (e := (decide (d = 0))) rfl (fun hg => r_call (args := #[.agg #[.int .i64 aD, .string (Bs aF), .string (Bs aG), Sl.v aH, Sl.v aI], .agg #[.int .i64 p, .string (Bs q), .string (Bs r), Sl.v t, Sl.v u]]) Tryz.func13 (by decide) rfl (map_arr (ml_cons (cv_get (bu.get rfl) hg) (ml_cons (cv_get (bu.get rfl) hg) ml_nil))) rfl) (fun hg => gl (of_decide_eq_true (g_t hg))) fun ik ag bv _ aM => ?_)
  have gn := c5.ext aM
  have dF := gb.ext aM
  have go := gc.ext aM
  have gp := c4.ext aM
  have il : Chg [] z ag := aM
  have gq := gm ag aM
  refine sqv bv rfl (r_pick_and (g := (true && ((decide (d = 0)) == true))) (bv.get rfl) (bv.get rfl) (fun he => g_mkt rfl he)) fun _ dG => sqv dG rfl (r_move (dG.get rfl)) fun _ dH => ?_
  refine sq (opk_gval dH rfl rfl (g := true) (e := ((decide (d = 0)) && i)) rfl (fun hg => r_move (dH.get rfl)) fun im dI _ => ?_)
  refine sq (opk_gval dI rfl rfl (g := true) (e := ((decide (d = 0)) && i)) rfl (fun hg => r_eql (cv_get (dI.get rfl) hg) rfl) fun io dJ _ => ?_)
  refine sq (opk_gval dJ rfl rfl (g := true) (e := ((decide (d = 0)) && i)) rfl (fun hg => r_move (cv_get (dJ.get rfl) hg)) fun ip dK _ => ?_)
  refine sq (opk_gval dK rfl rfl (g := (true && (((decide (d = 0)) && i) == true))) (e := (decide (a = 0))) rfl (fun hg => r_loadN (cs := [.int .i64 ap, .string (Bs aq), .string (Bs ar), Sl.v au, Sl.v av]) Tryz.underlying39 rfl ti_39 (dK.get rfl) (dF.part 0 _ rfl)) fun iq gr _ => ?_)
  refine sq (opk_gval gr rfl rfl (g := (true && (((decide (d = 0)) && i) == true))) (e := (decide (a = 0))) rfl (fun hg => r_build (vs := #[]) (cells := #[.int .i64 0, .string (Bs []), .string (Bs []), Sl.v Sl.nil, Sl.v Sl.nil]) (map_arr2 ml2_nil) ti_39 Tryz.underlying39 pl_39 (by kernel_rfl)) fun ir bx _ => ?_)
  obtain ⟨n, gs, gu⟩ := gq
  refine sq (opk_gcall bx rfl rfl (g := (true && (((decide (d = 0)) && i) == true))) (e := (decide (a = 0))) rfl (fun hg => r_call (args := #[.agg #[.int .i64 ap, .string (Bs aq), .string (Bs ar), Sl.v au, Sl.v av], .agg #[.int .i64 0, .string (Bs []), .string (Bs []), Sl.v Sl.nil, Sl.v Sl.nil]]) Tryz.func13 (by decide) rfl (map_arr (ml_cons (cv_get (bx.get rfl) hg) (ml_cons (cv_get (bx.get rfl) hg) ml_nil))) rfl) (fun hg => gs ⟨⟨(of_decide_eq_true (b_and_t (g_t (g_up hg))).1), (b_and_t (g_t (g_up hg))).2⟩, (of_decide_eq_false (g_f hg))⟩) fun it ah bz _ aN => ?_)
  have gx := gn.ext aN
  have gy := dF.ext aN
  have dL := go.ext aN
  have gz := gp.ext aN
  have iu : Chg [] ag ah := aN
  have gA := gu ah aN
  refine sq (opk_gval bz rfl rfl (g := true) (e := ((decide (d = 0)) && i)) rfl (fun hg => r_pick_or (g := ((true && (((decide (d = 0)) && i) == true)) && ((decide (a = 0)) == false))) (cv_get (bz.get rfl) hg) (bz.get rfl) (fun he => g_mkf hg he)) fun iv bA _ => ?_)
  refine sqv bA rfl (r_pick_and (g := (true && (((decide (d = 0)) && i) == true))) (bA.get rfl) (bA.get rfl) (fun he => g_mkt rfl he)) fun _ dM => sqv dM rfl (r_move (dM.get rfl)) fun _ dN => ?_
  refine sq (opk_gval dN rfl rfl (g := true) (e := (((decide (d = 0)) && i) && ((decide (a = 0)) || n))) rfl (fun hg => r_move (dN.get rfl)) fun ix dO _ => ?_)
  refine sq (opk_gval dO rfl rfl (g := true) (e := (((decide (d = 0)) && i) && ((decide (a = 0)) || n))) rfl (fun hg => r_eql (cv_get (dO.get rfl) hg) rfl) fun iy dP _ => ?_)
  refine sq (opk_gval dP rfl rfl (g := true) (e := (((decide (d = 0)) && i) && ((decide (a = 0)) || n))) rfl (fun hg => r_move (cv_get (dP.get rfl) hg)) fun iz dQ _ => ?_)
  refine sq (opk_gval dQ rfl rfl (g := (true && ((((decide (d = 0)) && i) && ((decide (a = 0)) || n)) == true))) (e := (decide (c = 0))) rfl (fun hg => r_loadN (cs := [.int .i64 ax, .string (Bs ay), .string (Bs az), Sl.v aA, Sl.v aB]) Tryz.underlying39 rfl ti_39 (dQ.get rfl) (dL.part 0 _ rfl)) fun iA gB _ => ?_)
  refine sq (opk_gval gB rfl rfl (g := (true && ((((decide (d = 0)) && i) && ((decide (a = 0)) || n)) == true))) (e := (decide (c = 0))) rfl (fun hg => r_build (vs := #[]) (cells := #[.int .i64 0, .string (Bs []), .string (Bs []), Sl.v Sl.nil, Sl.v Sl.nil]) (map_arr2 ml2_nil) ti_39 Tryz.underlying39 pl_39 (by kernel_rfl)) fun iB bB _ => ?_)
  obtain ⟨x, gC, gD⟩ := gA
  refine sq (opk_gcall bB rfl rfl (g := (true && ((((decide (d = 0)) && i) && ((decide (a = 0)) || n)) == true))) (e := (decide (c = 0))) rfl (fun hg => r_call (args := #[.agg #[.int .i64 ax, .string (Bs ay), .string (Bs az), Sl.v aA, Sl.v aB], .agg #[.int .i64 0, .string (Bs []), .string (Bs []), Sl.v Sl.nil, Sl.v Sl.nil]]) Tryz.func13 (by decide) rfl (map_arr (ml_cons (cv_get (bB.get rfl) hg) (ml_cons (cv_get (bB.get rfl) hg) ml_nil))) rfl) (fun hg => gC ⟨⟨⟨(of_decide_eq_true (b_and_t (b_and_t (g_t (g_up hg))).1).1), (b_and_t (b_and_t (g_t (g_up hg))).1).2⟩, ((b_or_t (b_and_t (g_t (g_up hg))).2).imp (fun h => (of_decide_eq_true h)) (fun h => h))⟩, (of_decide_eq_false (g_f hg))⟩) fun iC ai bC _ aO => ?_)
  have gF := gx.ext aO
  have gG := gy.ext aO
  have gH := dL.ext aO
  have gI := gz.ext aO
  have iD : Chg [] ah ai := aO
  have gJ := gD ai aO
  refine sq (opk_gval bC rfl rfl (g := true) (e := (((decide (d = 0)) && i) && ((decide (a = 0)) || n))) rfl (fun hg => r_pick_or (g := ((true && ((((decide (d = 0)) && i) && ((decide (a = 0)) || n)) == true)) && ((decide (c = 0)) == false))) (cv_get (bC.get rfl) hg) (bC.get rfl) (fun he => g_mkf hg he)) fun iF bD _ => ?_)
  refine sqv bD rfl (r_pick_and (g := (true && ((((decide (d = 0)) && i) && ((decide (a = 0)) || n)) == true))) (bD.get rfl) (bD.get rfl) (fun he => g_mkt rfl he)) fun _ dR => sqv dR rfl (r_move (dR.get rfl)) fun _ dS => ?_
  refine sq (opk_gval dS rfl rfl (g := true) (e := ((((decide (d = 0)) && i) && ((decide (a = 0)) || n)) && ((decide (c = 0)) || x))) rfl (fun hg => r_move (dS.get rfl)) fun iG dT _ => ?_)
  obtain ⟨aZ, gK, gL⟩ := gJ
  refine sq (opk_gcallM dT rfl rfl (g := true) (e := ((((decide (d = 0)) && i) && ((decide (a = 0)) || n)) && ((decide (c = 0)) || x))) rfl (fun hg => r_call (args := #[.int .u64 b]) Tryz.func23 (by decide) rfl (map_arr (ml_cons (cv_get (dT.get rfl) hg) ml_nil)) rfl) (fun hg => gK ⟨⟨⟨(of_decide_eq_true (b_and_t (b_and_t (b_and_t (g_t hg)).1).1).1), (b_and_t (b_and_t (b_and_t (g_t hg)).1).1).2⟩, ((b_or_t (b_and_t (b_and_t (g_t hg)).1).2).imp (fun h => (of_decide_eq_true h)) (fun h => h))⟩, ((b_or_t (b_and_t (g_t hg)).2).imp (fun h => (of_decide_eq_true h)) (fun h => h))⟩) fun iH iI af bF _ aP gM => ?_)
  obtain ⟨ad, gN, gO⟩ := cvty (α := Sl) (fun s => Sl.v s) (fun s w => aZ s w) (fun hg => by obtain ⟨ad, h1, h2⟩ := gM hg; exact ⟨ad, h1, h2⟩)
  rw [gN] at bF
  have gR := gF.ext aP
  have gS := gG.ext aP
  have gT := gH.ext aP
  have gU := gI.ext aP
  have iJ : Chg [] ai af := aP
  have gV := gL ad af aP (fun hp => gO (g_mkt rfl (b_and_mk ⟨(b_and_mk ⟨(b_and_mk ⟨(decide_eq_true hp.1.1.1), hp.1.1.2⟩), (b_or_mk (Or.imp (fun h => (decide_eq_true h)) (fun h => h) hp.1.2))⟩), (b_or_mk (Or.imp (fun h => (decide_eq_true h)) (fun h => h) hp.2))⟩)))
  obtain ⟨aj, gX, gY⟩ := gV
  refine sq (opk_gcall bF rfl rfl (g := true) (e := ((((decide (d = 0)) && i) && ((decide (a = 0)) || n)) && ((decide (c = 0)) || x))) rfl (fun hg => r_call (args := #[Sl.v ad]) Tryz.func22 (by decide) rfl (map_arr (ml_cons (cv_get (bF.get rfl) hg) ml_nil)) rfl) (fun hg => gX ⟨⟨⟨(of_decide_eq_true (b_and_t (b_and_t (b_and_t (g_t hg)).1).1).1), (b_and_t (b_and_t (b_and_t (g_t hg)).1).1).2⟩, ((b_or_t (b_and_t (b_and_t (g_t hg)).1).2).imp (fun h => (of_decide_eq_true h)) (fun h => h))⟩, ((b_or_t (b_and_t (g_t hg)).2).imp (fun h => (of_decide_eq_true h)) (fun h => h))⟩) fun iK ak dU _ aQ => ?_)
  have gZ := gR.ext aQ
  have g0 := gS.ext aQ
  have g1 := gT.ext aQ
  have g2 := gU.ext aQ
  have iL : Chg [] af ak := aQ
  have g3 := gY ak aQ
  refine sq (opk_gval dU rfl rfl (g := true) (e := ((((decide (d = 0)) && i) && ((decide (a = 0)) || n)) && ((decide (c = 0)) || x))) rfl (fun hg => r_move (dU.get rfl)) fun iM bG _ => ?_)
  refine sq (opk_gval bG rfl rfl (g := true) (e := ((((decide (d = 0)) && i) && ((decide (a = 0)) || n)) && ((decide (c = 0)) || x))) rfl (fun hg => r_eql (cv_get (bG.get rfl) hg) (cv_get (bG.get rfl) hg)) fun iN bH _ => ?_)
  refine sqv bH rfl (r_pick_and (g := (true && (((((decide (d = 0)) && i) && ((decide (a = 0)) || n)) && ((decide (c = 0)) || x)) == true))) (bH.get rfl) (bH.get rfl) (fun he => g_mkt rfl he)) fun _ dV => sqv dV rfl (r_move (dV.get rfl)) fun _ g4 => ?_
  obtain ⟨aV, g5, g6⟩ := g3
  refine sq (opk_gcall g4 rfl rfl (g := true) (e := (((((decide (d = 0)) && i) && ((decide (a = 0)) || n)) && ((decide (c = 0)) || x)) && (decide (aj = b)))) rfl (fun hg => r_call (args := #[]) Tryz.func7 (by decide) rfl (map_arr ml_nil) rfl) (fun hg => g5 ⟨⟨⟨⟨(of_decide_eq_true (b_and_t (b_and_t (b_and_t (b_and_t (g_t hg)).1).1).1).1), (b_and_t (b_and_t (b_and_t (b_and_t (g_t hg)).1).1).1).2⟩, ((b_or_t (b_and_t (b_and_t (b_and_t (g_t hg)).1).1).2).imp (fun h => (of_decide_eq_true h)) (fun h => h))⟩, ((b_or_t (b_and_t (b_and_t (g_t hg)).1).2).imp (fun h => (of_decide_eq_true h)) (fun h => h))⟩, (of_decide_eq_true (b_and_t (g_t hg)).2)⟩) fun iO aX bI _ aR => ?_)
  have iP := gZ.ext aR
  have iQ := g0.ext aR
  have iR := g1.ext aR
  have iS := g2.ext aR
  have iT : Chg [] ak aX := aR
  have g7 := g6 aX aR
  refine sqv bI rfl (r_pick_and (g := (true && ((((((decide (d = 0)) && i) && ((decide (a = 0)) || n)) && ((decide (c = 0)) || x)) && (decide (aj = b))) == true))) (bI.get rfl) (bI.get rfl) (fun he => g_mkt rfl he)) fun _ dX => sqv dX rfl (r_assign (dX.get rfl)) fun _ g8 => sq_end ?_
  have dY := g8.kp [(6, .bool ((((((decide (d = 0)) && i) && ((decide (a = 0)) || n)) && ((decide (c = 0)) || x)) && (decide (aj = b))) && aV))] rfl
  refine then_normal ?_
  refine wp_ret ?_
  exact res_all (vs := [.bool ((((((decide (d = 0)) && i) && ((decide (a = 0)) || n)) && ((decide (c = 0)) || x)) && (decide (aj = b))) && aV)]) rfl dY ⟨res_of_tmp dY rfl, trivial⟩ g7
end Go.Proofs.YteacalmdpoblpaaGreat
