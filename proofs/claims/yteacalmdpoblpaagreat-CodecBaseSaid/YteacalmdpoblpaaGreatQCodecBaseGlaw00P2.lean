/-
  PRINTED BY PROGRAM: for each function its condition (vc), and that this suffices (ok).
-/
import Derived.Test.YteacalmdpoblpaaGreatQCodecBaseGT
namespace Go.Proofs.YteacalmdpoblpaaGreat
open Go.RowKit
set_option linter.unusedVariables false
set_option maxHeartbeats 1000000
set_option maxRecDepth 10000
def law00_grown.vc (n : Sl) (o : Addr) (m : Addr) (k : Int) (R : Value → World → Prop) (w : World) : Prop :=
∀ (w6 : World) (j : Nat), New w j w6 → Chg [] w w6 →
∃ (aL : Int), (w6.cell? m = some (.int .i64 aL)) ∧
(I64 (aL + 1)) ∧
∃ (aC aZ : Nat) (a8 : TypeId) (cs_32 : List Value), m = ⟨aC, aZ, none⟩ ∧ Box w6 aC a8 cs_32 ∧ aZ + 1 ≤ cs_32.length ∧ (∀ b ∈ [j], b ≠ aC) ∧
(∀ aM : World, Chg [aC] w6 aM → Box aM aC a8 (putAt cs_32 aZ [.int .i64 (aL + 1)]) →
CallK Tryz.prog 41 #[Sl.v n, .pointer (some o)] aM [j] (fun v af => ∃ (d : Int), v = .int .i64 d ∧
(((d.tmod 7) = 0) →
(I64 (d.tdiv 7)) ∧
((0 : Int) ≤ (d.tdiv 7).tmod 4 ∧ (d.tdiv 7).tmod 4 ≤ (([120, 121, 122] : Str).length : Int)) ∧
∀ (aD : World), Chg [j] af aD →
R (.agg #[.int .i64 4, .string (Bs []), .string (Bs (List.take ((d.tdiv 7).tmod 4).toNat ([120, 121, 122] : Str))), Sl.v Sl.nil, Sl.v Sl.nil]) aD) ∧
((¬ ((d.tmod 7) = 0)) →
((((d.tmod 7) < 3) ∨ (5 < k)) →
(I64 (d.tdiv 7)) ∧
(I64 (d.tdiv 7)) ∧
(I64 (((d.tdiv 7).tmod 6) + 1)) ∧
((0 : Int) ≤ (d.tdiv 7).tmod 6 ∧ ((d.tdiv 7).tmod 6 : Int) ≤ ((d.tdiv 7).tmod 6) + 1 ∧ ((d.tdiv 7).tmod 6) + 1 ≤ (([97, 98, 99, 100, 101, 102] : Str).length : Int)) ∧
∀ (aF : World), Chg [j] af aF →
R (.agg #[.int .i64 3, .string (Bs []), .string (Bs ((List.drop ((d.tdiv 7).tmod 6).toNat ([97, 98, 99, 100, 101, 102] : Str)).take ((((d.tdiv 7).tmod 6) + 1).toNat - ((d.tdiv 7).tmod 6).toNat))), Sl.v Sl.nil, Sl.v Sl.nil]) aF) ∧
(((¬ ((d.tmod 7) < 3)) ∧ (¬ (5 < k))) →
(I64 (d.tdiv 7)) ∧
((0 : Int) ≤ (d.tdiv 7).tmod 4 ∧ (d.tdiv 7).tmod 4 < 4) ∧
(I64 (d.tdiv 28)) ∧
∀ (aj : World) (f : Nat), New af f aj → Chg [] af aj →
∃ aN : Sl → World → Prop,
(((((d.tdiv 28).tmod 3) = 0) →
∀ (ak : World), Chg [] aj ak →
(I64 (d.tdiv 84)) ∧
(I64 (d.tdiv 84)) ∧
(I64 (((d.tdiv 84).tmod 4) + 1)) ∧
((0 : Int) ≤ (d.tdiv 84).tmod 4 ∧ ((d.tdiv 84).tmod 4 : Int) ≤ ((d.tdiv 84).tmod 4) + 1 ∧ ((d.tdiv 84).tmod 4) + 1 ≤ (([48, 49, 50, 51] : Str).length : Int)) ∧
∀ (av : World) (r : Nat), Ext ak av → ak.heap.size ≤ r → Box av r 91 [.string (Bs ([105, 100] : Str)), .string (Bs ((List.drop ((d.tdiv 84).tmod 4).toNat ([48, 49, 50, 51] : Str)).take ((((d.tdiv 84).tmod 4) + 1).toNat - ((d.tdiv 84).tmod 4).toNat)))] → 
∀ (_ : Box av r 91 [.string (Bs ([105, 100] : Str)), .string (Bs ((List.drop ((d.tdiv 84).tmod 4).toNat ([48, 49, 50, 51] : Str)).take ((((d.tdiv 84).tmod 4) + 1).toNat - ((d.tdiv 84).tmod 4).toNat)))]),
RunK Tryz.prog (Builtin.append_ #[36, 36] 36 #[Sl.v Sl.nil, Sl.v (Sl.mk (some ⟨r, 0, none⟩) 1 1)]) av [j, f] (fun v a9 => ∃ (ax : Sl), v = Sl.v ax ∧
∀ (aO : World), Chg [f] a9 aO →
aN ax aO)) ∧
((¬ (((d.tdiv 28).tmod 3) = 0)) →
aN Sl.nil aj)) ∧
(∀ (z : Sl) (aG : World), aN z aG →
(I64 (d.tdiv 28)) ∧
∃ aP : Sl → World → Prop,
(((((d.tdiv 28).tmod 5) = 0) →
∀ (al : World), Chg [] aG al →
(I64 (d.tdiv 84)) ∧
((0 : Int) ≤ (d.tdiv 84).tmod 3 ∧ (d.tdiv 84).tmod 3 ≤ (([117, 118] : Str).length : Int)) ∧
∀ (ay : World) (t : Nat), Ext al ay → al.heap.size ≤ t → Box ay t 91 [.string (Bs ([120] : Str)), .string (Bs (List.take ((d.tdiv 84).tmod 3).toNat ([117, 118] : Str)))] → 
∀ (_ : Box ay t 91 [.string (Bs ([120] : Str)), .string (Bs (List.take ((d.tdiv 84).tmod 3).toNat ([117, 118] : Str)))]),
RunK Tryz.prog (Builtin.append_ #[36, 36] 36 #[Sl.v z, Sl.v (Sl.mk (some ⟨t, 0, none⟩) 1 1)]) ay [j, f] (fun v ba => ∃ (az : Sl), v = Sl.v az ∧
∀ (aQ : World), Chg [f] ba aQ →
aP az aQ)) ∧
((¬ (((d.tdiv 28).tmod 5) = 0)) →
aP z aG)) ∧
(∀ (x : Sl) (aR : World), aP x aR →
(I64 (d.tdiv 512)) ∧
∃ (aS : Int → Sl → World → Prop) (a1 : Int → Sl → World → Nat),
aS ((d.tdiv 512).tmod 4) Sl.nil aR ∧
(∀ (p : Int) (y : Sl) (ah : World), aS p y ah →
∃ (aH : Int), (((0 < p)) → ah.cell? m = some (.int .i64 aH)) ∧
(((0 < p) ∧ (aH < 40)) →
∀ (aT : World), Chg [] ah aT →
(I64 (k + 1)) ∧
CallK Tryz.prog 42 #[Sl.v n, .pointer (some o), .pointer (some m), .int .i64 (k + 1)] aT [j, f] (fun v aU => ∃ (am : Int) (an : Str) (ao : Str) (ap : Sl) (aq : Sl), v = .agg #[.int .i64 am, .string (Bs an), .string (Bs ao), Sl.v ap, Sl.v aq] ∧
∀ (aA : World) (q : Nat), Ext aU aA → aU.heap.size ≤ q → Box aA q 39 [.int .i64 am, .string (Bs an), .string (Bs ao), Sl.v ap, Sl.v aq] → 
∀ (aI : World), Chg [] aA aI →
∀ (_ : Box aI q 39 [.int .i64 am, .string (Bs an), .string (Bs ao), Sl.v ap, Sl.v aq]),
RunK Tryz.prog (Builtin.append_ #[37, 37] 37 #[Sl.v y, Sl.v (Sl.mk (some ⟨q, 0, none⟩) 1 1)]) aI [j, f] (fun v bb => ∃ (ar : Sl), v = Sl.v ar ∧
(I64 (p - 1)) ∧
∀ (aB : World), Chg [f] bb aB →
aS (p - 1) ar aB ∧ a1 (p - 1) ar aB < a1 p y ah))) ∧
(((¬ (0 < p)) ∨ (¬ (aH < 40))) →
∀ (aJ : World), Chg [j] ah aJ →
R (.agg #[.int .i64 2, .string (Bs (([([98] : Str), ([112] : Str), ([100, 105, 118] : Str), ([108, 105] : Str)] : List Str).getD ((d.tdiv 7).tmod 4).toNat [])), .string (Bs []), Sl.v x, Sl.v y]) aJ))))))))
theorem law00_grown.ok (n : Sl) (o : Addr) (m : Addr) (k : Int) {R : Value → World → Prop} {w : World} (bN : law00_grown.vc n o m k R w) : Calls Tryz.prog 42 #[Sl.v n, .pointer (some o), .pointer (some m), .int .i64 k] w (Ret R) := by
 refine enter [Sl.v n, .pointer (some o), .pointer (some m), .int .i64 k] Tryz.func42 rfl Tryz.ntmps42 rfl ?_
 intro a0 dA
 unfold law00_grown.vc at bN
 refine wp_seq (wp_region_lit ?_)
 refine sq (opk_new (fun B => .pointer (some ⟨B, 0, none⟩)) dA rfl (r_alloc (cs := [.int .i64 0, .string (Bs []), .string (Bs []), Sl.v Sl.nil, Sl.v Sl.nil]) ti_39 rfl) fun a7 w6 j dB dC dD dF _ => ?_)
 have dG : New w j w6 := dC
 have dH : Chg [] w w6 := dB
 refine sq_end ?_
 have bO := dF.kp [(0, Sl.v n), (1, .pointer (some o)), (2, .pointer (some m)), (3, .int .i64 k), (8, .pointer (some (⟨j, 0, none⟩ : Addr)))] rfl
 refine then_normal (wp_seq (wp_region_lit ?_))
 refine sqv bO rfl (r_move (bO.get rfl)) fun _ bP => sqv bP rfl (r_nilCheck (bP.get rfl)) fun _ bQ => ?_
 have dI := bN w6 j dG  dH
 obtain ⟨aL, dJ, dK⟩ := dI
 refine sqv bQ rfl (r_load1 tU3 rfl (bQ.get rfl) dJ) fun _ bR => ?_
 obtain ⟨dL, dM⟩ := dK
 refine sqv bR rfl (r_addI (bR.get rfl) rfl dL) fun _ bS => sqv bS rfl (r_nilCheck (bS.get rfl)) fun _ bd => ?_
 obtain ⟨aC, aZ, a8, cs_32, dN, bT, dO, dP, dQ⟩ := dM
 refine sq (opk_store bd bT (r_store (vs := [.int .i64 (aL + 1)]) (((bd.get rfl)).trans (congrArg (fun a => Value.pointer (some a)) dN)) (bd.get rfl) rfl ti_3 bT (Nat.ble_eq_true_of_le dO) (ones_all _ rfl)) fun jm aM bU dR dS => ?_)
 have dT := dD.keep bU (by have := dP j (by simp); simpa using this)
 have dU := dQ aM bU dR
 refine sq_end ?_
 have bV := dS.kp [(0, Sl.v n), (1, .pointer (some o)), (2, .pointer (some m)), (3, .int .i64 k), (8, .pointer (some (⟨j, 0, none⟩ : Addr)))] rfl
 refine then_normal (wp_seq (wp_region_lit ?_))
 refine sqv bV rfl (r_move (bV.get rfl)) fun _ bX => sqv bX rfl (r_move (bX.get rfl)) fun _ bf => ?_
 refine sq (opk_call bf rfl (r_call (args := #[Sl.v n, .pointer (some o)]) Tryz.func41 (by decide) rfl (map_arr (ml_cons (bf.get rfl) (ml_cons (bf.get rfl) ml_nil))) rfl) dU fun jn jo af bY _ dV jp dX => ?_)
 obtain ⟨d, rfl, bZ⟩ := dX
 have aK := dT.kept dV (.head _)
 refine sqv bY rfl (r_assign (bY.get rfl)) fun _ dY => sq_end ?_
 have b0 := dY.kp [(0, Sl.v n), (1, .pointer (some o)), (2, .pointer (some m)), (3, .int .i64 k), (8, .pointer (some (⟨j, 0, none⟩ : Addr))), (9, .int .i64 d)] rfl
 refine then_normal (wp_seq (wp_block (wp_seq (wp_region_lit ?_))))
 refine sqv b0 rfl (r_move (b0.get rfl)) fun _ b1 => sqv b1 rfl (r_rem (b1.get rfl) rfl (by decide)) fun _ b2 => sqv b2 rfl (r_eql (b2.get rfl) rfl) fun _ b3 => sqv b3 rfl (r_assign (b3.get rfl)) fun _ dZ => sq_end ?_
 have aV := dZ.kp [(0, Sl.v n), (1, .pointer (some o)), (2, .pointer (some m)), (3, .int .i64 k), (8, .pointer (some (⟨j, 0, none⟩ : Addr))), (9, .int .i64 d), (20, .bool (decide ((d.tmod 7) = 0)))] rfl
 refine then_normal ?_
 refine wp_cond_split (aV.get rfl) (fun hc => ?_) (fun hc => ?_)
 ·have d0 := bZ.1 (of_decide_eq_true hc)
  clear hc
  refine wp_seq (wp_region_lit ?_)
  refine sqv aV rfl (r_move (aV.get rfl)) fun _ b4 => ?_
  obtain ⟨d1, d2⟩ := d0
  refine sqv b4 rfl (r_quoI (b4.get rfl) rfl (by decide) d1) fun _ b5 => sqv b5 rfl (r_rem (b5.get rfl) rfl (by decide)) fun _ b6 => ?_
  obtain ⟨d3, d4⟩ := d2
  refine sqv b6 rfl (r_ssliceH rfl (b6.get rfl) tU9 d3) fun _ b7 => sqv b7 rfl (r_build (vs := #[(0, .int .i64 4), (2, .string (Bs (List.take ((d.tdiv 7).tmod 4).toNat ([120, 121, 122] : Str))))]) (cells := #[.int .i64 4, .string (Bs []), .string (Bs (List.take ((d.tdiv 7).tmod 4).toNat ([120, 121, 122] : Str))), Sl.v Sl.nil, Sl.v Sl.nil]) (map_arr2 (ml2_cons rfl (ml2_cons (b7.get rfl) (ml2_nil)))) ti_39 Tryz.underlying39 pl_39 (by kernel_rfl)) fun _ bg => ?_
  refine sq (opk_store bg aK (r_store (vs := [.int .i64 4, .string (Bs []), .string (Bs (List.take ((d.tdiv 7).tmod 4).toNat ([120, 121, 122] : Str))), Sl.v Sl.nil, Sl.v Sl.nil]) (bg.get rfl) (bg.get rfl) rfl ti_39 aK rfl (ones_all _ rfl)) fun jq aD d5 d6 d7 => ?_)
  have d8 : Box aD j 39 [.int .i64 4, .string (Bs []), .string (Bs (List.take ((d.tdiv 7).tmod 4).toNat ([120, 121, 122] : Str))), Sl.v Sl.nil, Sl.v Sl.nil] := d6
  have d9 : Chg [j] af aD := d5
  refine sq_end ?_
  have b8 := d7.kp [(8, .pointer (some (⟨j, 0, none⟩ : Addr)))] rfl
  refine then_normal ?_
  refine wp_ret ?_
  refine block_ret ?_
  refine then_ret ?_
  have fa := d4 aD    d9
  exact res_all (vs := [.agg #[.int .i64 4, .string (Bs []), .string (Bs (List.take ((d.tdiv 7).tmod 4).toNat ([120, 121, 122] : Str))), Sl.v Sl.nil, Sl.v Sl.nil]]) rfl b8 ⟨res_of_cell b8 rfl d8 Tryz.underlying39 rfl ti_39, trivial⟩ fa
 ·have b9 := bZ.2 (of_decide_eq_false hc)
  clear hc
  refine wp_seq (wp_region_lit ?_)
  refine sqv aV rfl (r_move (aV.get rfl)) fun _ ca => sqv ca rfl (r_rem (ca.get rfl) rfl (by decide)) fun _ cb => sqv cb rfl (r_lss (cb.get rfl) rfl) fun _ cc => sqv cc rfl (r_move (cc.get rfl)) fun _ cd => ?_
  refine sq (opk_gval cd rfl rfl (g := true) (e := (decide ((d.tmod 7) < 3))) rfl (fun hg => r_move (cd.get rfl)) fun jr cf _ => ?_)
  refine sq (opk_gval cf rfl rfl (g := true) (e := (decide ((d.tmod 7) < 3))) rfl (fun hg => r_gtr (cv_get (cf.get rfl) hg) rfl) fun js bh _ => ?_)
  refine sqv bh rfl (r_pick_or (g := (true && ((decide ((d.tmod 7) < 3)) == false))) (bh.get rfl) (bh.get rfl) (fun he => g_mkf rfl he)) fun _ cg => sqv cg rfl (r_assign (cg.get rfl)) fun _ fb => sq_end ?_
  have a2 := fb.kp [(0, Sl.v n), (1, .pointer (some o)), (2, .pointer (some m)), (3, .int .i64 k), (8, .pointer (some (⟨j, 0, none⟩ : Addr))), (9, .int .i64 d), (29, .bool ((decide ((d.tmod 7) < 3)) || (decide (5 < k))))] rfl
  refine then_normal ?_
  refine wp_cond_split (a2.get rfl) (fun hc => ?_) (fun hc => ?_)
  ·have fc := b9.1 ((b_or_t hc).imp (fun h => (of_decide_eq_true h)) (fun h => (of_decide_eq_true h)))
   clear hc
   refine wp_seq (wp_region_lit ?_)
   refine sqv a2 rfl (r_move (a2.get rfl)) fun _ ch => ?_
   obtain ⟨fd, ff⟩ := fc
   refine sqv ch rfl (r_quoI (ch.get rfl) rfl (by decide) fd) fun _ ci => sqv ci rfl (r_rem (ci.get rfl) rfl (by decide)) fun _ cj => sqv cj rfl (r_move (cj.get rfl)) fun _ ck => ?_
   obtain ⟨fg, fh⟩ := ff
   refine sqv ck rfl (r_quoI (ck.get rfl) rfl (by decide) fg) fun _ cl => sqv cl rfl (r_rem (cl.get rfl) rfl (by decide)) fun _ cm => ?_
   obtain ⟨fi, fj⟩ := fh
   refine sqv cm rfl (r_addI (cm.get rfl) rfl fi) fun _ bi => ?_
   obtain ⟨fk, fl⟩ := fj
   refine sqv bi rfl (r_sslice2 rfl (bi.get rfl) (bi.get rfl) tU9 fk) fun _ cn => sqv cn rfl (r_build (vs := #[(0, .int .i64 3), (2, .string (Bs ((List.drop ((d.tdiv 7).tmod 6).toNat ([97, 98, 99, 100, 101, 102] : Str)).take ((((d.tdiv 7).tmod 6) + 1).toNat - ((d.tdiv 7).tmod 6).toNat))))]) (cells := #[.int .i64 3, .string (Bs []), .string (Bs ((List.drop ((d.tdiv 7).tmod 6).toNat ([97, 98, 99, 100, 101, 102] : Str)).take ((((d.tdiv 7).tmod 6) + 1).toNat - ((d.tdiv 7).tmod 6).toNat))), Sl.v Sl.nil, Sl.v Sl.nil]) (map_arr2 (ml2_cons rfl (ml2_cons (cn.get rfl) (ml2_nil)))) ti_39 Tryz.underlying39 pl_39 (by kernel_rfl)) fun _ bj => ?_
   refine sq (opk_store bj aK (r_store (vs := [.int .i64 3, .string (Bs []), .string (Bs ((List.drop ((d.tdiv 7).tmod 6).toNat ([97, 98, 99, 100, 101, 102] : Str)).take ((((d.tdiv 7).tmod 6) + 1).toNat - ((d.tdiv 7).tmod 6).toNat))), Sl.v Sl.nil, Sl.v Sl.nil]) (bj.get rfl) (bj.get rfl) rfl ti_39 aK rfl (ones_all _ rfl)) fun jt aF fm fn fo => ?_)
   have fp : Box aF j 39 [.int .i64 3, .string (Bs []), .string (Bs ((List.drop ((d.tdiv 7).tmod 6).toNat ([97, 98, 99, 100, 101, 102] : Str)).take ((((d.tdiv 7).tmod 6) + 1).toNat - ((d.tdiv 7).tmod 6).toNat))), Sl.v Sl.nil, Sl.v Sl.nil] := fn
   have fq : Chg [j] af aF := fm
   refine sq_end ?_
   have co := fo.kp [(8, .pointer (some (⟨j, 0, none⟩ : Addr)))] rfl
   refine then_normal ?_
   refine wp_ret ?_
   refine block_ret ?_
   refine then_ret ?_
   have fr := fl aF    fq
   exact res_all (vs := [.agg #[.int .i64 3, .string (Bs []), .string (Bs ((List.drop ((d.tdiv 7).tmod 6).toNat ([97, 98, 99, 100, 101, 102] : Str)).take ((((d.tdiv 7).tmod 6) + 1).toNat - ((d.tdiv 7).tmod 6).toNat))), Sl.v Sl.nil, Sl.v Sl.nil]]) rfl co ⟨res_of_cell co rfl fp Tryz.underlying39 rfl ti_39, trivial⟩ fr
  ·have fs := b9.2 ⟨(of_decide_eq_false (b_or_f hc).1), (of_decide_eq_false (b_or_f hc).2)⟩
   clear hc
   refine wp_skip ?_
   refine block_normal ?_
   refine then_normal (wp_seq (wp_region_lit ?_))
   refine sqv a2 rfl (r_buildA (vs := #[(0, .string (Bs ([98] : Str))), (1, .string (Bs ([112] : Str))), (2, .string (Bs ([100, 105, 118] : Str))), (3, .string (Bs ([108, 105] : Str)))]) (cells := #[.string (Bs ([98] : Str)), .string (Bs ([112] : Str)), .string (Bs ([100, 105, 118] : Str)), .string (Bs ([108, 105] : Str))]) (map_arr2 (ml2_cons rfl (ml2_cons rfl (ml2_cons rfl (ml2_cons rfl (ml2_nil)))))) ti_117 Tryz.underlying117 ti_9 (by kernel_rfl)) fun _ cp => sqv cp rfl (r_move (cp.get rfl)) fun _ cq => ?_
   obtain ⟨ft, fu⟩ := fs
   refine sqv cq rfl (r_quoI (cq.get rfl) rfl (by decide) ft) fun _ cr => sqv cr rfl (r_rem (cr.get rfl) rfl (by decide)) fun _ bk => ?_
   obtain ⟨fv, fx⟩ := fu
   refine sqv bk rfl (r_aindexS (l := ([([98] : Str), ([112] : Str), ([100, 105, 118] : Str), ([108, 105] : Str)] : List Str)) (bk.get rfl) rfl (bk.get rfl) Tryz.underlying117 tU9 ti_9 rfl fv) fun _ ct => sqv ct rfl (r_build (vs := #[(0, .int .i64 2), (1, .string (Bs (([([98] : Str), ([112] : Str), ([100, 105, 118] : Str), ([108, 105] : Str)] : List Str).getD ((d.tdiv 7).tmod 4).toNat [])))]) (cells := #[.int .i64 2, .string (Bs (([([98] : Str), ([112] : Str), ([100, 105, 118] : Str), ([108, 105] : Str)] : List Str).getD ((d.tdiv 7).tmod 4).toNat [])), .string (Bs []), Sl.v Sl.nil, Sl.v Sl.nil]) (map_arr2 (ml2_cons rfl (ml2_cons (ct.get rfl) (ml2_nil)))) ti_39 Tryz.underlying39 pl_39 (by kernel_rfl)) fun _ fy => ?_
   refine sq (opk_new (fun B => .pointer (some ⟨B, 0, none⟩)) fy rfl (r_alloc (cs := [.int .i64 0, .string (Bs []), .string (Bs []), Sl.v Sl.nil, Sl.v Sl.nil]) ti_39 rfl) fun ju cu f cv cx cy bl _ => ?_)
   have aX : j ≠ f := Nat.ne_of_lt (Nat.lt_of_lt_of_le aK.lt cx.ge)
   have cz : New af f cu := cx
   have fz := aK.ext cv
   have fA : Chg [] af cu := cv
   refine sq (opk_store bl cy (r_store (vs := [.int .i64 2, .string (Bs (([([98] : Str), ([112] : Str), ([100, 105, 118] : Str), ([108, 105] : Str)] : List Str).getD ((d.tdiv 7).tmod 4).toNat [])), .string (Bs []), Sl.v Sl.nil, Sl.v Sl.nil]) (bl.get rfl) (bl.get rfl) rfl ti_39 cy rfl (ones_all _ rfl)) fun jv aj bm fB fC => ?_)
   have cA : Box aj f 39 [.int .i64 2, .string (Bs (([([98] : Str), ([112] : Str), ([100, 105, 118] : Str), ([108, 105] : Str)] : List Str).getD ((d.tdiv 7).tmod 4).toNat [])), .string (Bs []), Sl.v Sl.nil, Sl.v Sl.nil] := fB
   have cB := fz.keep bm (by simpa using aX)
   have fD := fA.storeNew cz bm
   have fF := cz.up bm.size
   refine sq_end ?_
   have cC := fC.kp [(0, Sl.v n), (1, .pointer (some o)), (2, .pointer (some m)), (3, .int .i64 k), (8, .pointer (some (⟨j, 0, none⟩ : Addr))), (9, .int .i64 d), (10, .pointer (some (⟨f, 0, none⟩ : Addr)))] rfl
   refine then_normal (wp_seq (wp_seq (wp_region_lit ?_)))
   refine sqv cC rfl (r_move (cC.get rfl)) fun _ cD => ?_
   obtain ⟨fG, fH⟩ := fx
   refine sqv cD rfl (r_quoI (cD.get rfl) rfl (by decide) fG) fun _ cF => sqv cF rfl (r_rem (cF.get rfl) rfl (by decide)) fun _ cG => sqv cG rfl (r_eql (cG.get rfl) rfl) fun _ fI => sq_end ?_
   have u := fI.kp [(0, Sl.v n), (1, .pointer (some o)), (2, .pointer (some m)), (3, .int .i64 k), (8, .pointer (some (⟨j, 0, none⟩ : Addr))), (9, .int .i64 d), (10, .pointer (some (⟨f, 0, none⟩ : Addr))), (55, .bool (decide (((d.tdiv 28).tmod 3) = 0)))] rfl
   refine then_normal ?_
   have fJ := fH aj f fF  fD
   obtain ⟨aN, cH, fK⟩ := fJ
   refine wp_meet (fun a w => ∃ z : Sl, Ag 109 a [(0, Sl.v n), (1, .pointer (some o)), (2, .pointer (some m)), (3, .int .i64 k), (8, .pointer (some (⟨j, 0, none⟩ : Addr))), (9, .int .i64 d), (10, .pointer (some (⟨f, 0, none⟩ : Addr)))] ∧ Box w j 39 [.int .i64 0, .string (Bs []), .string (Bs []), Sl.v Sl.nil, Sl.v Sl.nil] ∧ Box w f 39 [.int .i64 2, .string (Bs (([([98] : Str), ([112] : Str), ([100, 105, 118] : Str), ([108, 105] : Str)] : List Str).getD ((d.tdiv 7).tmod 4).toNat [])), .string (Bs []), Sl.v z, Sl.v Sl.nil] ∧ aN z w) ?_ ?_
   ·refine wp_cond_split (u.get rfl) (fun hc => ?_) (fun hc => ?_)
    ·have fL := cH.1 (of_decide_eq_true hc)
     clear hc
     refine draw' (by kernel_rfl) fun ak bn => ?_
     have cI := cB.ext bn
     have bo := cA.ext bn
     have fM : Chg [] aj ak := bn
     have fN := fL ak    fM
     obtain ⟨fO, fP⟩ := fN
     obtain ⟨fQ, fR⟩ := fP
     obtain ⟨fS, fT⟩ := fR
     obtain ⟨fU, fV⟩ := fT
     refine par (D := [[], [0], [], [2], [2, 3], [], [5], [5, 6], [5, 6, 7], [2, 3, 4, 5, 6, 7, 8], [2, 3, 4, 5, 6, 7, 8, 9], [2, 3, 4, 5, 6, 7, 8, 9, 10], [0, 1, 2, 3, 4, 5, 6, 7, 8, 9, 10, 11], [0, 1, 2, 3, 4, 5, 6, 7, 8, 9, 10, 11, 12], [0, 1, 2, 3, 4, 5, 6, 7, 8, 9, 10, 11, 12, 13]]) (S := [0, 1, 2, 3, 4, 5, 6, 7, 8, 9, 10, 11]) (F := []) (V := VL [(0, fun v _ => v = .pointer (some (⟨f, 3, none⟩ : Addr))), (1, fun v _ => v = Sl.v Sl.nil), (2, fun v _ => v = .int .i64 d), (3, fun v _ => v = .int .i64 (d.tdiv 84)), (4, fun v _ => v = .int .i64 ((d.tdiv 84).tmod 4)), (5, fun v _ => v = .int .i64 d), (6, fun v _ => v = .int .i64 (d.tdiv 84)), (7, fun v _ => v = .int .i64 ((d.tdiv 84).tmod 4)), (8, fun v _ => v = .int .i64 (((d.tdiv 84).tmod 4) + 1)), (9, fun v _ => v = .string (Bs ((List.drop ((d.tdiv 84).tmod 4).toNat ([48, 49, 50, 51] : Str)).take ((((d.tdiv 84).tmod 4) + 1).toNat - ((d.tdiv 84).tmod 4).toNat)))), (10, fun v _ => v = .agg #[.string (Bs ([105, 100] : Str)), .string (Bs ((List.drop ((d.tdiv 84).tmod 4).toNat ([48, 49, 50, 51] : Str)).take ((((d.tdiv 84).tmod 4) + 1).toNat - ((d.tdiv 84).tmod 4).toNat)))]), (11, fun v w' => ∃ r : Nat, ak.heap.size ≤ r ∧ Box w' r 91 [.string (Bs ([105, 100] : Str)), .string (Bs ((List.drop ((d.tdiv 84).tmod 4).toNat ([48, 49, 50, 51] : Str)).take ((((d.tdiv 84).tmod 4) + 1).toNat - ((d.tdiv 84).tmod 4).toNat)))] ∧ v = Sl.v (Sl.mk (some ⟨r, 0, none⟩) 1 1))]) u (by kernel_rfl) ⟨fun _ _ _ _ h => h, fun _ _ _ _ h => h, fun _ _ _ _ h => h, fun _ _ _ _ h => h, fun _ _ _ _ h => h, fun _ _ _ _ h => h, fun _ _ _ _ h => h, fun _ _ _ _ h => h, fun _ _ _ _ h => h, fun _ _ _ _ h => h, fun _ _ _ _ h => h, fun _ _ _ hE ⟨r, h0_, h1_, e⟩ => ⟨r, h0_, (h1_.ext hE), e⟩, trivial⟩ ⟨?_, ?_, ?_, ?_, ?_, ?_, ?_, ?_, ?_, ?_, ?_, ?_, trivial⟩ ?_
     ·intro a w hT
      have hAp := hT.ag u [(10, .pointer (some (⟨f, 0, none⟩ : Addr)))] ⟨rfl, trivial⟩ (by kernel_rfl)
      exact ovr hAp rfl (r_fieldAddr (hAp.get rfl) Tryz.underlying39 rfl ti_36 (by decide)) fun _ => Eq.refl _
     ·intro a w hT
      have hAp := hT.ag u [] trivial (by kernel_rfl)
      have fX : a.tmps.getD 56 undef = .pointer (some (⟨f, 3, none⟩ : Addr)) := hT.vals 0 rfl 56 rfl
      have hAp := hAp.add fX
      exact ovr hAp rfl (r_load1 tU36 rfl (hAp.get rfl) ((bo.ext hT.chg).cell 3 _ rfl)) fun _ => Eq.refl _
     ·intro a w hT
      have hAp := hT.ag u [(9, .int .i64 d)] ⟨rfl, trivial⟩ (by kernel_rfl)
      exact ovr hAp rfl (r_move (hAp.get rfl)) fun _ => Eq.refl _
     ·intro a w hT
      have hAp := hT.ag u [] trivial (by kernel_rfl)
      have fY : a.tmps.getD 58 undef = .int .i64 d := hT.vals 2 rfl 58 rfl
      have hAp := hAp.add fY
      exact ovr hAp rfl (r_quoI (hAp.get rfl) rfl (by decide) fO) fun _ => Eq.refl _
     ·intro a w hT
      have hAp := hT.ag u [] trivial (by kernel_rfl)
      have fZ : a.tmps.getD 59 undef = .int .i64 (d.tdiv 84) := hT.vals 3 rfl 59 rfl
      have hAp := hAp.add fZ
      exact ovr hAp rfl (r_rem (hAp.get rfl) rfl (by decide)) fun _ => Eq.refl _
     ·intro a w hT
      have hAp := hT.ag u [(9, .int .i64 d)] ⟨rfl, trivial⟩ (by kernel_rfl)
      exact ovr hAp rfl (r_move (hAp.get rfl)) fun _ => Eq.refl _
     ·intro a w hT
      have hAp := hT.ag u [] trivial (by kernel_rfl)
      have f0 : a.tmps.getD 61 undef = .int .i64 d := hT.vals 5 rfl 61 rfl
      have hAp := hAp.add f0
      exact ovr hAp rfl (r_quoI (hAp.get rfl) rfl (by decide) fQ) fun _ => Eq.refl _
     ·intro a w hT
      have hAp := hT.ag u [] trivial (by kernel_rfl)
      have f1 : a.tmps.getD 62 undef = .int .i64 (d.tdiv 84) := hT.vals 6 rfl 62 rfl
      have hAp := hAp.add f1
      exact ovr hAp rfl (r_rem (hAp.get rfl) rfl (by decide)) fun _ => Eq.refl _
     ·intro a w hT
      have hAp := hT.ag u [] trivial (by kernel_rfl)
      have f2 : a.tmps.getD 63 undef = .int .i64 ((d.tdiv 84).tmod 4) := hT.vals 7 rfl 63 rfl
      have hAp := hAp.add f2
      exact ovr hAp rfl (r_addI (hAp.get rfl) rfl fS) fun _ => Eq.refl _
     ·intro a w hT
      have hAp := hT.ag u [] trivial (by kernel_rfl)
      have f3 : a.tmps.getD 60 undef = .int .i64 ((d.tdiv 84).tmod 4) := hT.vals 4 rfl 60 rfl
      have hAp := hAp.add f3
      have f4 : a.tmps.getD 64 undef = .int .i64 (((d.tdiv 84).tmod 4) + 1) := hT.vals 8 rfl 64 rfl
      have hAp := hAp.add f4
      exact ovr hAp rfl (r_sslice2 rfl (hAp.get rfl) (hAp.get rfl) tU9 fU) fun _ => Eq.refl _
     ·intro a w hT
      have hAp := hT.ag u [] trivial (by kernel_rfl)
      have f5 : a.tmps.getD 65 undef = .string (Bs ((List.drop ((d.tdiv 84).tmod 4).toNat ([48, 49, 50, 51] : Str)).take ((((d.tdiv 84).tmod 4) + 1).toNat - ((d.tdiv 84).tmod 4).toNat))) := hT.vals 9 rfl 65 rfl
      have hAp := hAp.add f5
      exact ovr hAp rfl (r_build (vs := #[(0, .string (Bs ([105, 100] : Str))), (1, .string (Bs ((List.drop ((d.tdiv 84).tmod 4).toNat ([48, 49, 50, 51] : Str)).take ((((d.tdiv 84).tmod 4) + 1).toNat - ((d.tdiv 84).tmod 4).toNat))))]) (cells := #[.string (Bs ([105, 100] : Str)), .string (Bs ((List.drop ((d.tdiv 84).tmod 4).toNat ([48, 49, 50, 51] : Str)).take ((((d.tdiv 84).tmod 4) + 1).toNat - ((d.tdiv 84).tmod 4).toNat)))]) (map_arr2 (ml2_cons rfl (ml2_cons (hAp.get rfl) (ml2_nil)))) ti_91 Tryz.underlying91 pl_91 (by kernel_rfl)) fun _ => Eq.refl _
     ·intro a w hT
      have hAp := hT.ag u [] trivial (by kernel_rfl)
      have f6 : a.tmps.getD 66 undef = .agg #[.string (Bs ([105, 100] : Str)), .string (Bs ((List.drop ((d.tdiv 84).tmod 4).toNat ([48, 49, 50, 51] : Str)).take ((((d.tdiv 84).tmod 4) + 1).toNat - ((d.tdiv 84).tmod 4).toNat)))] := hT.vals 10 rfl 66 rfl
      have hAp := hAp.add f6
      exact opk_new (fun B => .slice (some ⟨B, 0, none⟩) 1 1) hAp rfl (r_buildSlice (vs := #[(0, .agg #[.string (Bs ([105, 100] : Str)), .string (Bs ((List.drop ((d.tdiv 84).tmod 4).toNat ([48, 49, 50, 51] : Str)).take ((((d.tdiv 84).tmod 4) + 1).toNat - ((d.tdiv 84).tmod 4).toNat)))])]) (cs := [.string (Bs ([105, 100] : Str)), .string (Bs ((List.drop ((d.tdiv 84).tmod 4).toNat ([48, 49, 50, 51] : Str)).take ((((d.tdiv 84).tmod 4) + 1).toNat - ((d.tdiv 84).tmod 4).toNat)))]) (map_arr2 (ml2_cons (hAp.get rfl) (ml2_nil))) tU36 ti_91 rfl rfl (by kernel_rfl)) fun _ jx r f7 f8 f9 _ e => ⟨_, e, f7, fun _ => ⟨r, Nat.le_trans hT.chg.size f8.ge, f9, rfl⟩⟩
     ·intro ga av a3 gb cJ
      have gc := gb [(0, Sl.v n), (1, .pointer (some o)), (2, .pointer (some m)), (3, .int .i64 k), (8, .pointer (some (⟨j, 0, none⟩ : Addr))), (9, .int .i64 d), (10, .pointer (some (⟨f, 0, none⟩ : Addr)))] ⟨rfl, rfl, rfl, rfl, rfl, rfl, rfl, trivial⟩ (by kernel_rfl)
      have gd : ga.tmps.getD 57 undef = Sl.v Sl.nil := cJ 1 rfl 57 rfl
      have gf := gc.add gd
      obtain ⟨r, bp, cK, gg⟩ := cJ 11 rfl 67 rfl
      have bq := gf.add gg
      have gh := cI.ext a3
      have gi := bo.ext a3
      have jy : Chg [] ak av := a3
      have gj := fV av r a3 bp cK
      have jz : j ≠ r := Nat.ne_of_lt (Nat.lt_of_lt_of_le cI.lt bp)
      have jA : f ≠ r := Nat.ne_of_lt (Nat.lt_of_lt_of_le bo.lt bp)
      have gk := gj cK
      refine one (D := [[], [0], [], [2], [2, 3], [], [5], [5, 6], [5, 6, 7], [2, 3, 4, 5, 6, 7, 8], [2, 3, 4, 5, 6, 7, 8, 9], [2, 3, 4, 5, 6, 7, 8, 9, 10], [0, 1, 2, 3, 4, 5, 6, 7, 8, 9, 10, 11], [0, 1, 2, 3, 4, 5, 6, 7, 8, 9, 10, 11, 12], [0, 1, 2, 3, 4, 5, 6, 7, 8, 9, 10, 11, 12, 13]]) (i := 12) rfl (by kernel_rfl) (opk_run bq rfl (fun _ _ hr => r_append (bq.get rfl) (bq.get rfl) hr) gk fun jB jC a9 cL _ cM jD gl => ?_)
      obtain ⟨ax, rfl, gm⟩ := gl
      have gn := gh.kept cM (.head _)
      have go := gi.kept cM (.tail _ (.head _))
      refine par (D := [[], [0], [], [2], [2, 3], [], [5], [5, 6], [5, 6, 7], [2, 3, 4, 5, 6, 7, 8], [2, 3, 4, 5, 6, 7, 8, 9], [2, 3, 4, 5, 6, 7, 8, 9, 10], [0, 1, 2, 3, 4, 5, 6, 7, 8, 9, 10, 11], [0, 1, 2, 3, 4, 5, 6, 7, 8, 9, 10, 11, 12], [0, 1, 2, 3, 4, 5, 6, 7, 8, 9, 10, 11, 12, 13]]) (S := [13]) (F := []) (V := VL [(13, fun v _ => v = .pointer (some (⟨f, 3, none⟩ : Addr)))]) cL (by kernel_rfl) ⟨fun _ _ _ _ h => h, trivial⟩ ⟨?_, trivial⟩ ?_
      ·intro a w hT
       have hAp := hT.ag cL [(10, .pointer (some (⟨f, 0, none⟩ : Addr)))] ⟨rfl, trivial⟩ (by kernel_rfl)
       exact ovr hAp rfl (r_fieldAddr (hAp.get rfl) Tryz.underlying39 rfl ti_36 (by decide)) fun _ => Eq.refl _
      ·intro gp gq br gr gs
       have gu := gr [(0, Sl.v n), (1, .pointer (some o)), (2, .pointer (some m)), (3, .int .i64 k), (8, .pointer (some (⟨j, 0, none⟩ : Addr))), (9, .int .i64 d), (10, .pointer (some (⟨f, 0, none⟩ : Addr))), (68, Sl.v ax)] ⟨rfl, rfl, rfl, rfl, rfl, rfl, rfl, rfl, trivial⟩ (by kernel_rfl)
       have gx : gp.tmps.getD 69 undef = .pointer (some (⟨f, 3, none⟩ : Addr)) := gs 13 rfl 69 rfl
       have bs := gu.add gx
       have gy := gn.ext br
       have cN := go.ext br
       have gz : Chg [] a9 gq := br
       refine one (D := [[], [0], [], [2], [2, 3], [], [5], [5, 6], [5, 6, 7], [2, 3, 4, 5, 6, 7, 8], [2, 3, 4, 5, 6, 7, 8, 9], [2, 3, 4, 5, 6, 7, 8, 9, 10], [0, 1, 2, 3, 4, 5, 6, 7, 8, 9, 10, 11], [0, 1, 2, 3, 4, 5, 6, 7, 8, 9, 10, 11, 12], [0, 1, 2, 3, 4, 5, 6, 7, 8, 9, 10, 11, 12, 13]]) (i := 14) rfl (by kernel_rfl) (opk_store bs cN (r_store (vs := [Sl.v ax]) (bs.get rfl) (bs.get rfl) rfl ti_36 cN rfl (ones_all _ rfl)) fun jF aO cO gA gB => ?_)
       have gC : Box aO f 39 [.int .i64 2, .string (Bs (([([98] : Str), ([112] : Str), ([100, 105, 118] : Str), ([108, 105] : Str)] : List Str).getD ((d.tdiv 7).tmod 4).toNat [])), .string (Bs []), Sl.v ax, Sl.v Sl.nil] := gA
       have gD := gy.keep cO (by simpa using aX)
       have gF := gz.storeOld cO
       refine PR_end (by kernel_rfl) ?_
       have gG := gB.kp [(0, Sl.v n), (1, .pointer (some o)), (2, .pointer (some m)), (3, .int .i64 k), (8, .pointer (some (⟨j, 0, none⟩ : Addr))), (9, .int .i64 d), (10, .pointer (some (⟨f, 0, none⟩ : Addr)))] rfl
       have gH := gm aO    gF
       have gI := gG.kp [(0, Sl.v n), (1, .pointer (some o)), (2, .pointer (some m)), (3, .int .i64 k), (8, .pointer (some (⟨j, 0, none⟩ : Addr))), (9, .int .i64 d), (10, .pointer (some (⟨f, 0, none⟩ : Addr)))] rfl
       exact then_normal ⟨ax, gI, gD, gC, gH⟩
    ·have gJ := cH.2 (of_decide_eq_false hc)
     clear hc
     refine wp_skip ?_
     have gK := u.kp [(0, Sl.v n), (1, .pointer (some o)), (2, .pointer (some m)), (3, .int .i64 k), (8, .pointer (some (⟨j, 0, none⟩ : Addr))), (9, .int .i64 d), (10, .pointer (some (⟨f, 0, none⟩ : Addr)))] rfl
     exact then_normal ⟨Sl.nil, gK, cB, cA, gJ⟩
   ·intro jG aG hm
    obtain ⟨z, cP, cQ, cR, gL⟩ := hm
    have gM := fK z aG gL
    refine then_normal (wp_seq (wp_seq (wp_region_lit ?_)))
    refine sqv cP rfl (r_move (cP.get rfl)) fun _ cS => ?_
    obtain ⟨gN, gO⟩ := gM
    refine sqv cS rfl (r_quoI (cS.get rfl) rfl (by decide) gN) fun _ cT => sqv cT rfl (r_rem (cT.get rfl) rfl (by decide)) fun _ cU => sqv cU rfl (r_eql (cU.get rfl) rfl) fun _ gP => sq_end ?_
    have aa := gP.kp [(0, Sl.v n), (1, .pointer (some o)), (2, .pointer (some m)), (3, .int .i64 k), (8, .pointer (some (⟨j, 0, none⟩ : Addr))), (9, .int .i64 d), (10, .pointer (some (⟨f, 0, none⟩ : Addr))), (73, .bool (decide (((d.tdiv 28).tmod 5) = 0)))] rfl
    refine then_normal ?_
    obtain ⟨aP, cX, gQ⟩ := gO
    refine wp_meet (fun a w => ∃ x : Sl, Ag 109 a [(0, Sl.v n), (1, .pointer (some o)), (2, .pointer (some m)), (3, .int .i64 k), (8, .pointer (some (⟨j, 0, none⟩ : Addr))), (9, .int .i64 d), (10, .pointer (some (⟨f, 0, none⟩ : Addr)))] ∧ Box w j 39 [.int .i64 0, .string (Bs []), .string (Bs []), Sl.v Sl.nil, Sl.v Sl.nil] ∧ Box w f 39 [.int .i64 2, .string (Bs (([([98] : Str), ([112] : Str), ([100, 105, 118] : Str), ([108, 105] : Str)] : List Str).getD ((d.tdiv 7).tmod 4).toNat [])), .string (Bs []), Sl.v x, Sl.v Sl.nil] ∧ aP x w) ?_ ?_
    ·refine wp_cond_split (aa.get rfl) (fun hc => ?_) (fun hc => ?_)
     ·have gR := cX.1 (of_decide_eq_true hc)
      clear hc
      refine draw' (by kernel_rfl) fun al bt => ?_
      have cY := cQ.ext bt
      have bu := cR.ext bt
      have gS : Chg [] aG al := bt
      have gT := gR al    gS
      obtain ⟨gU, gV⟩ := gT
      obtain ⟨gX, gY⟩ := gV
      refine par (D := [[], [0], [], [2], [2, 3], [2, 3, 4], [2, 3, 4, 5], [2, 3, 4, 5, 6], [0, 1, 2, 3, 4, 5, 6, 7], [0, 1, 2, 3, 4, 5, 6, 7, 8], [0, 1, 2, 3, 4, 5, 6, 7, 8, 9]]) (S := [0, 1, 2, 3, 4, 5, 6, 7]) (F := []) (V := VL [(0, fun v _ => v = .pointer (some (⟨f, 3, none⟩ : Addr))), (1, fun v _ => v = Sl.v z), (2, fun v _ => v = .int .i64 d), (3, fun v _ => v = .int .i64 (d.tdiv 84)), (4, fun v _ => v = .int .i64 ((d.tdiv 84).tmod 3)), (5, fun v _ => v = .string (Bs (List.take ((d.tdiv 84).tmod 3).toNat ([117, 118] : Str)))), (6, fun v _ => v = .agg #[.string (Bs ([120] : Str)), .string (Bs (List.take ((d.tdiv 84).tmod 3).toNat ([117, 118] : Str)))]), (7, fun v w' => ∃ t : Nat, al.heap.size ≤ t ∧ Box w' t 91 [.string (Bs ([120] : Str)), .string (Bs (List.take ((d.tdiv 84).tmod 3).toNat ([117, 118] : Str)))] ∧ v = Sl.v (Sl.mk (some ⟨t, 0, none⟩) 1 1))]) aa (by kernel_rfl) ⟨fun _ _ _ _ h => h, fun _ _ _ _ h => h, fun _ _ _ _ h => h, fun _ _ _ _ h => h, fun _ _ _ _ h => h, fun _ _ _ _ h => h, fun _ _ _ _ h => h, fun _ _ _ hE ⟨t, h0_, h1_, e⟩ => ⟨t, h0_, (h1_.ext hE), e⟩, trivial⟩ ⟨?_, ?_, ?_, ?_, ?_, ?_, ?_, ?_, trivial⟩ ?_
      ·intro a w hT
       have hAp := hT.ag aa [(10, .pointer (some (⟨f, 0, none⟩ : Addr)))] ⟨rfl, trivial⟩ (by kernel_rfl)
       exact ovr hAp rfl (r_fieldAddr (hAp.get rfl) Tryz.underlying39 rfl ti_36 (by decide)) fun _ => Eq.refl _
      ·intro a w hT
       have hAp := hT.ag aa [] trivial (by kernel_rfl)
       have gZ : a.tmps.getD 74 undef = .pointer (some (⟨f, 3, none⟩ : Addr)) := hT.vals 0 rfl 74 rfl
       have hAp := hAp.add gZ
       exact ovr hAp rfl (r_load1 tU36 rfl (hAp.get rfl) ((bu.ext hT.chg).cell 3 _ rfl)) fun _ => Eq.refl _
      ·intro a w hT
       have hAp := hT.ag aa [(9, .int .i64 d)] ⟨rfl, trivial⟩ (by kernel_rfl)
       exact ovr hAp rfl (r_move (hAp.get rfl)) fun _ => Eq.refl _
      ·intro a w hT
       have hAp := hT.ag aa [] trivial (by kernel_rfl)
       have g0 : a.tmps.getD 76 undef = .int .i64 d := hT.vals 2 rfl 76 rfl
       have hAp := hAp.add g0
       exact ovr hAp rfl (r_quoI (hAp.get rfl) rfl (by decide) gU) fun _ => Eq.refl _
      ·intro a w hT
       have hAp := hT.ag aa [] trivial (by kernel_rfl)
       have g1 : a.tmps.getD 77 undef = .int .i64 (d.tdiv 84) := hT.vals 3 rfl 77 rfl
       have hAp := hAp.add g1
       exact ovr hAp rfl (r_rem (hAp.get rfl) rfl (by decide)) fun _ => Eq.refl _
      ·intro a w hT
       have hAp := hT.ag aa [] trivial (by kernel_rfl)
       have g2 : a.tmps.getD 78 undef = .int .i64 ((d.tdiv 84).tmod 3) := hT.vals 4 rfl 78 rfl
       have hAp := hAp.add g2
       exact ovr hAp rfl (r_ssliceH rfl (hAp.get rfl) tU9 gX) fun _ => Eq.refl _
      ·intro a w hT
       have hAp := hT.ag aa [] trivial (by kernel_rfl)
       have g3 : a.tmps.getD 79 undef = .string (Bs (List.take ((d.tdiv 84).tmod 3).toNat ([117, 118] : Str))) := hT.vals 5 rfl 79 rfl
       have hAp := hAp.add g3
       exact ovr hAp rfl (r_build (vs := #[(0, .string (Bs ([120] : Str))), (1, .string (Bs (List.take ((d.tdiv 84).tmod 3).toNat ([117, 118] : Str))))]) (cells := #[.string (Bs ([120] : Str)), .string (Bs (List.take ((d.tdiv 84).tmod 3).toNat ([117, 118] : Str)))]) (map_arr2 (ml2_cons rfl (ml2_cons (hAp.get rfl) (ml2_nil)))) ti_91 Tryz.underlying91 pl_91 (by kernel_rfl)) fun _ => Eq.refl _
      ·intro a w hT
       have hAp := hT.ag aa [] trivial (by kernel_rfl)
       have g4 : a.tmps.getD 80 undef = .agg #[.string (Bs ([120] : Str)), .string (Bs (List.take ((d.tdiv 84).tmod 3).toNat ([117, 118] : Str)))] := hT.vals 6 rfl 80 rfl
       have hAp := hAp.add g4
       exact opk_new (fun B => .slice (some ⟨B, 0, none⟩) 1 1) hAp rfl (r_buildSlice (vs := #[(0, .agg #[.string (Bs ([120] : Str)), .string (Bs (List.take ((d.tdiv 84).tmod 3).toNat ([117, 118] : Str)))])]) (cs := [.string (Bs ([120] : Str)), .string (Bs (List.take ((d.tdiv 84).tmod 3).toNat ([117, 118] : Str)))]) (map_arr2 (ml2_cons (hAp.get rfl) (ml2_nil))) tU36 ti_91 rfl rfl (by kernel_rfl)) fun _ jH t g5 g6 g7 _ e => ⟨_, e, g5, fun _ => ⟨t, Nat.le_trans hT.chg.size g6.ge, g7, rfl⟩⟩
      ·intro g8 ay a4 g9 cZ
       have ha := g9 [(0, Sl.v n), (1, .pointer (some o)), (2, .pointer (some m)), (3, .int .i64 k), (8, .pointer (some (⟨j, 0, none⟩ : Addr))), (9, .int .i64 d), (10, .pointer (some (⟨f, 0, none⟩ : Addr)))] ⟨rfl, rfl, rfl, rfl, rfl, rfl, rfl, trivial⟩ (by kernel_rfl)
       have hb : g8.tmps.getD 75 undef = Sl.v z := cZ 1 rfl 75 rfl
       have hf := ha.add hb
       obtain ⟨t, bv, c0, hh⟩ := cZ 7 rfl 81 rfl
       have bx := hf.add hh
       have hi := cY.ext a4
       have hj := bu.ext a4
       have jI : Chg [] al ay := a4
       have hk := gY ay t a4 bv c0
       have jJ : j ≠ t := Nat.ne_of_lt (Nat.lt_of_lt_of_le cY.lt bv)
       have jK : f ≠ t := Nat.ne_of_lt (Nat.lt_of_lt_of_le bu.lt bv)
       have hl := hk c0
       refine one (D := [[], [0], [], [2], [2, 3], [2, 3, 4], [2, 3, 4, 5], [2, 3, 4, 5, 6], [0, 1, 2, 3, 4, 5, 6, 7], [0, 1, 2, 3, 4, 5, 6, 7, 8], [0, 1, 2, 3, 4, 5, 6, 7, 8, 9]]) (i := 8) rfl (by kernel_rfl) (opk_run bx rfl (fun _ _ hr => r_append (bx.get rfl) (bx.get rfl) hr) hl fun jL jM ba c1 _ c2 jN hn => ?_)
       obtain ⟨az, rfl, ho⟩ := hn
       have hp := hi.kept c2 (.head _)
       have hq := hj.kept c2 (.tail _ (.head _))
       refine par (D := [[], [0], [], [2], [2, 3], [2, 3, 4], [2, 3, 4, 5], [2, 3, 4, 5, 6], [0, 1, 2, 3, 4, 5, 6, 7], [0, 1, 2, 3, 4, 5, 6, 7, 8], [0, 1, 2, 3, 4, 5, 6, 7, 8, 9]]) (S := [9]) (F := []) (V := VL [(9, fun v _ => v = .pointer (some (⟨f, 3, none⟩ : Addr)))]) c1 (by kernel_rfl) ⟨fun _ _ _ _ h => h, trivial⟩ ⟨?_, trivial⟩ ?_
       ·intro a w hT
        have hAp := hT.ag c1 [(10, .pointer (some (⟨f, 0, none⟩ : Addr)))] ⟨rfl, trivial⟩ (by kernel_rfl)
        exact ovr hAp rfl (r_fieldAddr (hAp.get rfl) Tryz.underlying39 rfl ti_36 (by decide)) fun _ => Eq.refl _
       ·intro hs ht bz hu hv
        have hx := hu [(0, Sl.v n), (1, .pointer (some o)), (2, .pointer (some m)), (3, .int .i64 k), (8, .pointer (some (⟨j, 0, none⟩ : Addr))), (9, .int .i64 d), (10, .pointer (some (⟨f, 0, none⟩ : Addr))), (82, Sl.v az)] ⟨rfl, rfl, rfl, rfl, rfl, rfl, rfl, rfl, trivial⟩ (by kernel_rfl)
        have hy : hs.tmps.getD 83 undef = .pointer (some (⟨f, 3, none⟩ : Addr)) := hv 9 rfl 83 rfl
        have bA := hx.add hy
        have hz := hp.ext bz
        have c3 := hq.ext bz
        have hA : Chg [] ba ht := bz
        refine one (D := [[], [0], [], [2], [2, 3], [2, 3, 4], [2, 3, 4, 5], [2, 3, 4, 5, 6], [0, 1, 2, 3, 4, 5, 6, 7], [0, 1, 2, 3, 4, 5, 6, 7, 8], [0, 1, 2, 3, 4, 5, 6, 7, 8, 9]]) (i := 10) rfl (by kernel_rfl) (opk_store bA c3 (r_store (vs := [Sl.v az]) (bA.get rfl) (bA.get rfl) rfl ti_36 c3 rfl (ones_all _ rfl)) fun jO aQ c4 hB hC => ?_)
        have hD : Box aQ f 39 [.int .i64 2, .string (Bs (([([98] : Str), ([112] : Str), ([100, 105, 118] : Str), ([108, 105] : Str)] : List Str).getD ((d.tdiv 7).tmod 4).toNat [])), .string (Bs []), Sl.v az, Sl.v Sl.nil] := hB
        have hF := hz.keep c4 (by simpa using aX)
        have hG := hA.storeOld c4
        refine PR_end (by kernel_rfl) ?_
        have hH := hC.kp [(0, Sl.v n), (1, .pointer (some o)), (2, .pointer (some m)), (3, .int .i64 k), (8, .pointer (some (⟨j, 0, none⟩ : Addr))), (9, .int .i64 d), (10, .pointer (some (⟨f, 0, none⟩ : Addr)))] rfl
        have hI := ho aQ    hG
        have hJ := hH.kp [(0, Sl.v n), (1, .pointer (some o)), (2, .pointer (some m)), (3, .int .i64 k), (8, .pointer (some (⟨j, 0, none⟩ : Addr))), (9, .int .i64 d), (10, .pointer (some (⟨f, 0, none⟩ : Addr)))] rfl
        exact then_normal ⟨az, hJ, hF, hD, hI⟩
     ·have hK := cX.2 (of_decide_eq_false hc)
      clear hc
      refine wp_skip ?_
      have hL := aa.kp [(0, Sl.v n), (1, .pointer (some o)), (2, .pointer (some m)), (3, .int .i64 k), (8, .pointer (some (⟨j, 0, none⟩ : Addr))), (9, .int .i64 d), (10, .pointer (some (⟨f, 0, none⟩ : Addr)))] rfl
      exact then_normal ⟨z, hL, cQ, cR, hK⟩
    ·intro jP aR hm
     obtain ⟨x, c5, hM, hN, hO⟩ := hm
     have hP := gQ x aR hO
     refine then_normal (wp_seq (wp_seq (wp_region_lit ?_)))
     refine sqv c5 rfl (r_move (c5.get rfl)) fun _ c6 => ?_
     obtain ⟨hQ, hR⟩ := hP
     refine sqv c6 rfl (r_quoI (c6.get rfl) rfl (by decide) hQ) fun _ c7 => sqv c7 rfl (r_rem (c7.get rfl) rfl (by decide)) fun _ c8 => sqv c8 rfl (r_assign (c8.get rfl)) fun _ hS => sq_end ?_
     have hU := hS.kp [(0, Sl.v n), (1, .pointer (some o)), (2, .pointer (some m)), (3, .int .i64 k), (8, .pointer (some (⟨j, 0, none⟩ : Addr))), (10, .pointer (some (⟨f, 0, none⟩ : Addr))), (11, .int .i64 ((d.tdiv 512).tmod 4))] rfl
     refine then_normal (wp_block ?_)
     obtain ⟨aS, a1, hV, hX⟩ := hR
     refine wp_loop_st (σ := Int × Sl × World) (fun s a w => Ag 109 a [(0, Sl.v n), (1, .pointer (some o)), (2, .pointer (some m)), (3, .int .i64 k), (8, .pointer (some (⟨j, 0, none⟩ : Addr))), (10, .pointer (some (⟨f, 0, none⟩ : Addr))), (11, .int .i64 s.1)] ∧ Box w j 39 [.int .i64 0, .string (Bs []), .string (Bs []), Sl.v Sl.nil, Sl.v Sl.nil] ∧ Box w f 39 [.int .i64 2, .string (Bs (([([98] : Str), ([112] : Str), ([100, 105, 118] : Str), ([108, 105] : Str)] : List Str).getD ((d.tdiv 7).tmod 4).toNat [])), .string (Bs []), Sl.v x, Sl.v s.2.1] ∧ w = s.2.2 ∧ aS s.1 s.2.1 s.2.2) (fun s => a1 s.1 s.2.1 s.2.2) ((d.tdiv 512).tmod 4, Sl.nil, aR) ⟨hU.kp [(0, Sl.v n), (1, .pointer (some o)), (2, .pointer (some m)), (3, .int .i64 k), (8, .pointer (some (⟨j, 0, none⟩ : Addr))), (10, .pointer (some (⟨f, 0, none⟩ : Addr))), (11, .int .i64 ((d.tdiv 512).tmod 4))] rfl, hM, hN, rfl, hV⟩ ?_
     rintro ⟨p, y, ah⟩ jQ w_ ⟨c9, bB, bC, hw_, hY⟩
     have hw_ : ah = w_ := hw_.symm
     subst hw_
     have hZ := hX p y _ hY
     refine wp_seq (wp_seq (wp_region_lit ?_))
     refine sqv c9 rfl (r_move (c9.get rfl)) fun _ da => sqv da rfl (r_gtr (da.get rfl) rfl) fun _ db => sqv db rfl (r_move (db.get rfl)) fun _ dc => ?_
     refine sq (opk_gval dc rfl rfl (g := true) (e := (decide (0 < p))) rfl (fun hg => r_move (dc.get rfl)) fun jR dd _ => ?_)
     refine sq (opk_gval dd rfl rfl (g := true) (e := (decide (0 < p))) rfl (fun hg => r_nilCheck (cv_get (dd.get rfl) hg)) fun jS df _ => ?_)
     obtain ⟨aH, h0, dg⟩ := hZ
     refine sq (opk_gval df rfl rfl (g := true) (e := (decide (0 < p))) rfl (fun hg => r_load1 tU3 rfl (cv_get (df.get rfl) hg) (h0 (of_decide_eq_true (g_t hg)))) fun jT dh _ => ?_)
     refine sq (opk_gval dh rfl rfl (g := true) (e := (decide (0 < p))) rfl (fun hg => r_lss (cv_get (dh.get rfl) hg) rfl) fun jU bD _ => ?_)
     refine sqv bD rfl (r_pick_and (g := (true && ((decide (0 < p)) == true))) (bD.get rfl) (bD.get rfl) (fun he => g_mkt rfl he)) fun _ h1 => sq_end ?_
     have ab := h1.kp [(0, Sl.v n), (1, .pointer (some o)), (2, .pointer (some m)), (3, .int .i64 k), (8, .pointer (some (⟨j, 0, none⟩ : Addr))), (10, .pointer (some (⟨f, 0, none⟩ : Addr))), (11, .int .i64 p), (94, .bool ((decide (0 < p)) && (decide (aH < 40))))] rfl
     refine then_normal ?_
     refine wp_cond_split (ab.get rfl) (fun hc => ?_) (fun hc => ?_)
     ·have h2 := dg.1 ⟨(of_decide_eq_true (b_and_t hc).1), (of_decide_eq_true (b_and_t hc).2)⟩
      clear hc
      refine wp_skip ?_
      refine then_normal (wp_seq (wp_block ?_))
      refine draw' (by kernel_rfl) fun aT bF => ?_
      have h3 := bB.ext bF
      have di := bC.ext bF
      have h4 : Chg [] ah aT := bF
      have h5 := h2 aT    h4
      obtain ⟨bG, h6⟩ := h5
      refine startF (D := [[], [0], [], [], [], [], [5], [2, 3, 4, 5, 6], [2, 3, 4, 5, 6, 7], [0, 1, 2, 3, 4, 5, 6, 7, 8], [0, 1, 2, 3, 4, 5, 6, 7, 8, 9], [0, 1, 2, 3, 4, 5, 6, 7, 8, 9, 10]]) (Fs := [0, 1, 2, 3, 4, 5, 6]) (Ef := [(0, fun v _ => v = .pointer (some (⟨f, 4, none⟩ : Addr))), (1, fun v _ => v = Sl.v y), (2, fun v _ => v = Sl.v n), (3, fun v _ => v = .pointer (some o)), (4, fun v _ => v = .pointer (some m)), (5, fun v _ => v = .int .i64 k), (6, fun v _ => v = .int .i64 (k + 1))]) (by kernel_rfl) ?_
      refine oneF (c := 7) ab rfl (by kernel_rfl) (constF ⟨fun _ _ _ h => h, fun _ _ _ h => h, fun _ _ _ h => h, fun _ _ _ h => h, fun _ _ _ h => h, fun _ _ _ h => h, fun _ _ _ h => h, trivial⟩) ⟨?_, ?_, ?_, ?_, ?_, ?_, ?_, trivial⟩ ?_
      ·intro a hT
       have hAp := hT.ag ab [(10, .pointer (some (⟨f, 0, none⟩ : Addr)))] ⟨rfl, trivial⟩ (by kernel_rfl)
       exact opk_val hAp rfl (r_fieldAddr (hAp.get rfl) Tryz.underlying39 rfl ti_37 (by decide)) fun _ _ e => ⟨_, e, rfl, fun _ => Eq.refl _⟩
      ·intro a hT
       have hAp := hT.ag ab [] trivial (by kernel_rfl)
       have h7 : a.tmps.getD 97 undef = .pointer (some (⟨f, 4, none⟩ : Addr)) := hT.vals 0 rfl 97 rfl
       have hAp := hAp.add h7
       exact opk_val hAp rfl (r_load1 tU37 rfl (hAp.get rfl) ((di.ext hT.chg).cell 4 _ rfl)) fun _ _ e => ⟨_, e, rfl, fun _ => Eq.refl _⟩
      ·intro a hT
       have hAp := hT.ag ab [(0, Sl.v n)] ⟨rfl, trivial⟩ (by kernel_rfl)
       exact opk_val hAp rfl (r_move (hAp.get rfl)) fun _ _ e => ⟨_, e, rfl, fun _ => Eq.refl _⟩
      ·intro a hT
       have hAp := hT.ag ab [(1, .pointer (some o))] ⟨rfl, trivial⟩ (by kernel_rfl)
       exact opk_val hAp rfl (r_move (hAp.get rfl)) fun _ _ e => ⟨_, e, rfl, fun _ => Eq.refl _⟩
      ·intro a hT
       have hAp := hT.ag ab [(2, .pointer (some m))] ⟨rfl, trivial⟩ (by kernel_rfl)
       exact opk_val hAp rfl (r_move (hAp.get rfl)) fun _ _ e => ⟨_, e, rfl, fun _ => Eq.refl _⟩
      ·intro a hT
       have hAp := hT.ag ab [(3, .int .i64 k)] ⟨rfl, trivial⟩ (by kernel_rfl)
       exact opk_val hAp rfl (r_move (hAp.get rfl)) fun _ _ e => ⟨_, e, rfl, fun _ => Eq.refl _⟩
      ·intro a hT
       have hAp := hT.ag ab [] trivial (by kernel_rfl)
       have h8 : a.tmps.getD 102 undef = .int .i64 k := hT.vals 5 rfl 102 rfl
       have hAp := hAp.add h8
       exact opk_val hAp rfl (r_addI (hAp.get rfl) rfl bG) fun _ _ e => ⟨_, e, rfl, fun _ => Eq.refl _⟩
      ·intro a5 hT
       have h9 := hT.ag ab [(0, Sl.v n), (1, .pointer (some o)), (2, .pointer (some m)), (3, .int .i64 k), (8, .pointer (some (⟨j, 0, none⟩ : Addr))), (10, .pointer (some (⟨f, 0, none⟩ : Addr))), (11, .int .i64 p), (94, .bool ((decide (0 < p)) && (decide (aH < 40))))] ⟨rfl, rfl, rfl, rfl, rfl, rfl, rfl, rfl, trivial⟩ (by kernel_rfl)
       have ia : a5.tmps.getD 99 undef = Sl.v n := hT.vals 2 rfl 99 rfl
       have ib := h9.add ia
       have ig : a5.tmps.getD 100 undef = .pointer (some o) := hT.vals 3 rfl 100 rfl
       have ih := ib.add ig
       have ii : a5.tmps.getD 101 undef = .pointer (some m) := hT.vals 4 rfl 101 rfl
       have ij := ih.add ii
       have ik : a5.tmps.getD 103 undef = .int .i64 (k + 1) := hT.vals 6 rfl 103 rfl
       have aY := ij.add ik
       refine (opk_call aY rfl (r_call (args := #[Sl.v n, .pointer (some o), .pointer (some m), .int .i64 (k + 1)]) Tryz.func42 (by decide) rfl (map_arr (ml_cons (aY.get rfl) (ml_cons (aY.get rfl) (ml_cons (aY.get rfl) (ml_cons (aY.get rfl) ml_nil))))) rfl) h6 fun jV jX aU ai il dj jY im => ?_)
       refine ⟨_, il, ?_⟩
       obtain ⟨am, an, ao, ap, aq, rfl, io⟩ := im
       have dk := h3.kept dj (.head _)
       have bH := di.kept dj (.tail _ (.head _))
       refine parF (D := [[], [0], [], [], [], [], [5], [2, 3, 4, 5, 6], [2, 3, 4, 5, 6, 7], [0, 1, 2, 3, 4, 5, 6, 7, 8], [0, 1, 2, 3, 4, 5, 6, 7, 8, 9], [0, 1, 2, 3, 4, 5, 6, 7, 8, 9, 10]]) (S := [8]) (F := []) (KE := [8]) (E := [(8, fun v w' => ∃ q : Nat, aU.heap.size ≤ q ∧ Box w' q 39 [.int .i64 am, .string (Bs an), .string (Bs ao), Sl.v ap, Sl.v aq] ∧ v = Sl.v (Sl.mk (some ⟨q, 0, none⟩) 1 1))]) ai rfl (by kernel_rfl) ⟨fun _ _ _ hE ⟨q, h0_, h1_, e⟩ => ⟨q, h0_, (h1_.ext hE), e⟩, fun _ _ _ _ h => h, fun _ _ _ _ h => h, fun _ _ _ _ h => h, fun _ _ _ _ h => h, fun _ _ _ _ h => h, fun _ _ _ _ h => h, fun _ _ _ _ h => h, trivial⟩ ⟨?_, ?_, ?_, ?_, ?_, ?_, ?_, ?_, trivial⟩ ?_
       ·intro a w hT
        have hAp := hT.ag ai [(104, .agg #[.int .i64 am, .string (Bs an), .string (Bs ao), Sl.v ap, Sl.v aq])] ⟨rfl, trivial⟩ (by kernel_rfl)
        exact opk_new (fun B => .slice (some ⟨B, 0, none⟩) 1 1) hAp rfl (r_buildSlice (vs := #[(0, .agg #[.int .i64 am, .string (Bs an), .string (Bs ao), Sl.v ap, Sl.v aq])]) (cs := [.int .i64 am, .string (Bs an), .string (Bs ao), Sl.v ap, Sl.v aq]) (map_arr2 (ml2_cons (hAp.get rfl) (ml2_nil))) tU37 ti_39 rfl rfl (by kernel_rfl)) fun _ jZ q ip iq ir _ e => ⟨_, e, ip, fun _ => ⟨q, Nat.le_trans hT.chg.size iq.ge, ir, rfl⟩⟩
       ·intro a w hT
        have hAp := hT.ag ai [(10, .pointer (some (⟨f, 0, none⟩ : Addr)))] ⟨rfl, trivial⟩ (by kernel_rfl)
        exact ovr hAp rfl (r_fieldAddr (hAp.get rfl) Tryz.underlying39 rfl ti_37 (by decide)) fun _ => Eq.refl _
       ·intro a w hT
        have hAp := hT.ag ai [] trivial (by kernel_rfl)
        have it : a.tmps.getD 97 undef = .pointer (some (⟨f, 4, none⟩ : Addr)) := hT.vals 0 rfl 97 rfl
        have hAp := hAp.add it
        exact ovr hAp rfl (r_load1 tU37 rfl (hAp.get rfl) ((bH.ext hT.chg).cell 4 _ rfl)) fun _ => Eq.refl _
       ·intro a w hT
        have hAp := hT.ag ai [(0, Sl.v n)] ⟨rfl, trivial⟩ (by kernel_rfl)
        exact ovr hAp rfl (r_move (hAp.get rfl)) fun _ => Eq.refl _
       ·intro a w hT
        have hAp := hT.ag ai [(1, .pointer (some o))] ⟨rfl, trivial⟩ (by kernel_rfl)
        exact ovr hAp rfl (r_move (hAp.get rfl)) fun _ => Eq.refl _
       ·intro a w hT
        have hAp := hT.ag ai [(2, .pointer (some m))] ⟨rfl, trivial⟩ (by kernel_rfl)
        exact ovr hAp rfl (r_move (hAp.get rfl)) fun _ => Eq.refl _
       ·intro a w hT
        have hAp := hT.ag ai [(3, .int .i64 k)] ⟨rfl, trivial⟩ (by kernel_rfl)
        exact ovr hAp rfl (r_move (hAp.get rfl)) fun _ => Eq.refl _
       ·intro a w hT
        have hAp := hT.ag ai [] trivial (by kernel_rfl)
        have iu : a.tmps.getD 102 undef = .int .i64 k := hT.vals 5 rfl 102 rfl
        have hAp := hAp.add iu
        exact ovr hAp rfl (r_addI (hAp.get rfl) rfl bG) fun _ => Eq.refl _
       ·intro j0 aA a6 iv ix
        have iy := iv [(0, Sl.v n), (1, .pointer (some o)), (2, .pointer (some m)), (3, .int .i64 k), (8, .pointer (some (⟨j, 0, none⟩ : Addr))), (10, .pointer (some (⟨f, 0, none⟩ : Addr))), (11, .int .i64 p)] ⟨rfl, rfl, rfl, rfl, rfl, rfl, rfl, trivial⟩ (by kernel_rfl)
        obtain ⟨q, bI, dl, iz⟩ := ix 8 rfl 105 rfl
        have au := iy.add iz
        have iA := dk.ext a6
        have dm := bH.ext a6
        have j1 : Chg [] aU aA := a6
        have iB := io aA q a6 bI dl
        have j2 : j ≠ q := Nat.ne_of_lt (Nat.lt_of_lt_of_le dk.lt bI)
        have j3 : f ≠ q := Nat.ne_of_lt (Nat.lt_of_lt_of_le bH.lt bI)
        refine joinF au (by kernel_rfl) ⟨fun _ _ _ _ h => h, fun _ _ _ _ h => h, fun _ _ _ _ h => h, fun _ _ _ _ h => h, fun _ _ _ _ h => h, fun _ _ _ _ h => h, fun _ _ _ _ h => h, trivial⟩ ⟨?_, ?_, ?_, ?_, ?_, ?_, ?_, trivial⟩ ?_
        ·intro a w hT
         have hAp := hT.ag au [(10, .pointer (some (⟨f, 0, none⟩ : Addr)))] ⟨rfl, trivial⟩ (by kernel_rfl)
         exact ovr hAp rfl (r_fieldAddr (hAp.get rfl) Tryz.underlying39 rfl ti_37 (by decide)) fun _ => Eq.refl _
        ·intro a w hT
         have hAp := hT.ag au [] trivial (by kernel_rfl)
         have iC : a.tmps.getD 97 undef = .pointer (some (⟨f, 4, none⟩ : Addr)) := hT.vals 0 rfl 97 rfl
         have hAp := hAp.add iC
         exact ovr hAp rfl (r_load1 tU37 rfl (hAp.get rfl) ((dm.ext hT.chg).cell 4 _ rfl)) fun _ => Eq.refl _
        ·intro a w hT
         have hAp := hT.ag au [(0, Sl.v n)] ⟨rfl, trivial⟩ (by kernel_rfl)
         exact ovr hAp rfl (r_move (hAp.get rfl)) fun _ => Eq.refl _
        ·intro a w hT
         have hAp := hT.ag au [(1, .pointer (some o))] ⟨rfl, trivial⟩ (by kernel_rfl)
         exact ovr hAp rfl (r_move (hAp.get rfl)) fun _ => Eq.refl _
        ·intro a w hT
         have hAp := hT.ag au [(2, .pointer (some m))] ⟨rfl, trivial⟩ (by kernel_rfl)
         exact ovr hAp rfl (r_move (hAp.get rfl)) fun _ => Eq.refl _
        ·intro a w hT
         have hAp := hT.ag au [(3, .int .i64 k)] ⟨rfl, trivial⟩ (by kernel_rfl)
         exact ovr hAp rfl (r_move (hAp.get rfl)) fun _ => Eq.refl _
        ·intro a w hT
         have hAp := hT.ag au [] trivial (by kernel_rfl)
         have iD : a.tmps.getD 102 undef = .int .i64 k := hT.vals 5 rfl 102 rfl
         have hAp := hAp.add iD
         exact ovr hAp rfl (r_addI (hAp.get rfl) rfl bG) fun _ => Eq.refl _
        ·intro iF aI hE815 iG iH
         have iI := iG [(0, Sl.v n), (1, .pointer (some o)), (2, .pointer (some m)), (3, .int .i64 k), (8, .pointer (some (⟨j, 0, none⟩ : Addr))), (10, .pointer (some (⟨f, 0, none⟩ : Addr))), (11, .int .i64 p), (105, Sl.v (Sl.mk (some ⟨q, 0, none⟩) 1 1))] ⟨rfl, rfl, rfl, rfl, rfl, rfl, rfl, rfl, trivial⟩ (by kernel_rfl)
         have iJ : iF.tmps.getD 98 undef = Sl.v y := iH 1 rfl 98 rfl
         have bJ := iI.add iJ
         have iK := iA.ext hE815
         have iL := dm.ext hE815
         have iM := dl.ext hE815
         have iN : Chg [] aA aI := hE815
         have iO := iB aI    iN
         have iP := iO iM
         refine one (D := [[], [0], [], [], [], [], [5], [2, 3, 4, 5, 6], [2, 3, 4, 5, 6, 7], [0, 1, 2, 3, 4, 5, 6, 7, 8], [0, 1, 2, 3, 4, 5, 6, 7, 8, 9], [0, 1, 2, 3, 4, 5, 6, 7, 8, 9, 10]]) (i := 9) rfl (by kernel_rfl) (opk_run bJ rfl (fun _ _ hr => r_append (bJ.get rfl) (bJ.get rfl) hr) iP fun j4 j5 bb dn _ dp j6 iQ => ?_)
         obtain ⟨ar, rfl, iR⟩ := iQ
         have iS := iK.kept dp (.head _)
         have iT := iL.kept dp (.tail _ (.head _))
         refine par (D := [[], [0], [], [], [], [], [5], [2, 3, 4, 5, 6], [2, 3, 4, 5, 6, 7], [0, 1, 2, 3, 4, 5, 6, 7, 8], [0, 1, 2, 3, 4, 5, 6, 7, 8, 9], [0, 1, 2, 3, 4, 5, 6, 7, 8, 9, 10]]) (S := [10]) (F := []) (V := VL [(10, fun v _ => v = .pointer (some (⟨f, 4, none⟩ : Addr)))]) dn (by kernel_rfl) ⟨fun _ _ _ _ h => h, trivial⟩ ⟨?_, trivial⟩ ?_
         ·intro a w hT
          have hAp := hT.ag dn [(10, .pointer (some (⟨f, 0, none⟩ : Addr)))] ⟨rfl, trivial⟩ (by kernel_rfl)
          exact ovr hAp rfl (r_fieldAddr (hAp.get rfl) Tryz.underlying39 rfl ti_37 (by decide)) fun _ => Eq.refl _
         ·intro iU iV bK iX iY
          have iZ := iX [(0, Sl.v n), (1, .pointer (some o)), (2, .pointer (some m)), (3, .int .i64 k), (8, .pointer (some (⟨j, 0, none⟩ : Addr))), (10, .pointer (some (⟨f, 0, none⟩ : Addr))), (11, .int .i64 p), (106, Sl.v ar)] ⟨rfl, rfl, rfl, rfl, rfl, rfl, rfl, rfl, trivial⟩ (by kernel_rfl)
          have i0 : iU.tmps.getD 107 undef = .pointer (some (⟨f, 4, none⟩ : Addr)) := iY 10 rfl 107 rfl
          have bL := iZ.add i0
          have i1 := iS.ext bK
          have dq := iT.ext bK
          have i2 : Chg [] bb iV := bK
          refine one (D := [[], [0], [], [], [], [], [5], [2, 3, 4, 5, 6], [2, 3, 4, 5, 6, 7], [0, 1, 2, 3, 4, 5, 6, 7, 8], [0, 1, 2, 3, 4, 5, 6, 7, 8, 9], [0, 1, 2, 3, 4, 5, 6, 7, 8, 9, 10]]) (i := 11) rfl (by kernel_rfl) (opk_store bL dq (r_store (vs := [Sl.v ar]) (bL.get rfl) (bL.get rfl) rfl ti_37 dq rfl (ones_all _ rfl)) fun j7 aB dr i3 i4 => ?_)
          have i5 : Box aB f 39 [.int .i64 2, .string (Bs (([([98] : Str), ([112] : Str), ([100, 105, 118] : Str), ([108, 105] : Str)] : List Str).getD ((d.tdiv 7).tmod 4).toNat [])), .string (Bs []), Sl.v x, Sl.v ar] := i3
          have i6 := i1.keep dr (by simpa using aX)
          have i7 := i2.storeOld dr
          refine PR_end (by kernel_rfl) ?_
          have ds := i4.kp [(0, Sl.v n), (1, .pointer (some o)), (2, .pointer (some m)), (3, .int .i64 k), (8, .pointer (some (⟨j, 0, none⟩ : Addr))), (10, .pointer (some (⟨f, 0, none⟩ : Addr))), (11, .int .i64 p)] rfl
          refine block_normal ?_
          refine then_normal (wp_region_lit ?_)
          refine sqv ds rfl (r_move (ds.get rfl)) fun _ dt => ?_
          obtain ⟨i8, i9⟩ := iR
          refine sqv dt rfl (r_subI (dt.get rfl) rfl i8) fun _ du => sqv du rfl (r_assign (du.get rfl)) fun _ ja => sq_end ?_
          have jb := ja.kp [(0, Sl.v n), (1, .pointer (some o)), (2, .pointer (some m)), (3, .int .i64 k), (8, .pointer (some (⟨j, 0, none⟩ : Addr))), (10, .pointer (some (⟨f, 0, none⟩ : Addr))), (11, .int .i64 (p - 1))] rfl
          have dv := i9 aB    i7
          have jc := jb.kp [(0, Sl.v n), (1, .pointer (some o)), (2, .pointer (some m)), (3, .int .i64 k), (8, .pointer (some (⟨j, 0, none⟩ : Addr))), (10, .pointer (some (⟨f, 0, none⟩ : Addr))), (11, .int .i64 (p - 1))] rfl
          exact then_normal ⟨(p - 1, ar, aB), ⟨jc, i6, i5, rfl, dv.1⟩, dv.2⟩
     ·have jd := dg.2 ((b_and_f hc).imp (fun h => (of_decide_eq_false h)) (fun h => (of_decide_eq_false h)))
      clear hc
      refine wp_exit ?_
      refine then_exit ?_
      refine then_exit ?_
      refine block_hit ?_
      have dx := ab.kp [(8, .pointer (some (⟨j, 0, none⟩ : Addr))), (10, .pointer (some (⟨f, 0, none⟩ : Addr)))] rfl
      refine then_normal (wp_seq (wp_region_lit ?_))
      refine sqv dx rfl (r_loadN (cs := [.int .i64 2, .string (Bs (([([98] : Str), ([112] : Str), ([100, 105, 118] : Str), ([108, 105] : Str)] : List Str).getD ((d.tdiv 7).tmod 4).toNat [])), .string (Bs []), Sl.v x, Sl.v y]) Tryz.underlying39 rfl ti_39 (dx.get rfl) (bC.part 0 _ rfl)) fun _ bM => ?_
      refine sq (opk_store bM bB (r_store (vs := [.int .i64 2, .string (Bs (([([98] : Str), ([112] : Str), ([100, 105, 118] : Str), ([108, 105] : Str)] : List Str).getD ((d.tdiv 7).tmod 4).toNat [])), .string (Bs []), Sl.v x, Sl.v y]) (bM.get rfl) (bM.get rfl) rfl ti_39 bB rfl (ones_all _ rfl)) fun j8 aJ dy jf jg => ?_)
      have jh : Box aJ j 39 [.int .i64 2, .string (Bs (([([98] : Str), ([112] : Str), ([100, 105, 118] : Str), ([108, 105] : Str)] : List Str).getD ((d.tdiv 7).tmod 4).toNat [])), .string (Bs []), Sl.v x, Sl.v y] := jf
      have j9 := bC.keep dy (by simpa using aX.symm)
      have ji : Chg [j] ah aJ := dy
      refine sq_end ?_
      have dz := jg.kp [(8, .pointer (some (⟨j, 0, none⟩ : Addr)))] rfl
      refine then_normal ?_
      refine wp_ret ?_
      have jj := jd aJ    ji
      exact res_all (vs := [.agg #[.int .i64 2, .string (Bs (([([98] : Str), ([112] : Str), ([100, 105, 118] : Str), ([108, 105] : Str)] : List Str).getD ((d.tdiv 7).tmod 4).toNat [])), .string (Bs []), Sl.v x, Sl.v y]]) rfl dz ⟨res_of_cell dz rfl jh Tryz.underlying39 rfl ti_39, trivial⟩ jj
end Go.Proofs.YteacalmdpoblpaaGreat
