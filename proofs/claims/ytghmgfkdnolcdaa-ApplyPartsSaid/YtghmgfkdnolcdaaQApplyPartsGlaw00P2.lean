/-
  PRINTED BY PROGRAM: for each function its condition (vc), and that this suffices (ok).
-/
import Derived.Test.YtghmgfkdnolcdaaQApplyPartsGT
namespace Go.Proofs.Ytghmgfkdnolcdaa
open Go.RowKit
set_option linter.unusedVariables false
set_option maxHeartbeats 1000000
set_option maxRecDepth 10000
def law00_grown.vc (n : Sl) (o : Addr) (m : Addr) (k : Int) (R : Value → World → Prop) (w : World) : Prop :=
∀ (w6 : World) (j : Nat), New w j w6 → Chg [] w w6 →
∃ (aC : Int), (w6.cell? m = some (.int .i64 aC)) ∧
(I64 (aC + 1)) ∧
∃ (aD aZ : Nat) (a8 : TypeId) (cs_32 : List Value), m = ⟨aD, aZ, none⟩ ∧ Box w6 aD a8 cs_32 ∧ aZ + 1 ≤ cs_32.length ∧ (∀ b ∈ [j], b ≠ aD) ∧
(∀ aM : World, Chg [aD] w6 aM → Box aM aD a8 (putAt cs_32 aZ [.int .i64 (aC + 1)]) →
CallK Try.prog 54 #[Sl.v n, .pointer (some o)] aM [j] (fun v af => ∃ (d : Int), v = .int .i64 d ∧
(((d.tmod 7) = 0) →
(I64 (d.tdiv 7)) ∧
((0 : Int) ≤ (d.tdiv 7).tmod 4 ∧ (d.tdiv 7).tmod 4 ≤ (([120, 121, 122] : Str).length : Int)) ∧
∀ (aF : World), Chg [j] af aF →
R (.agg #[.int .i64 4, .string (Bs ([] : Str)), .string (Bs (List.take ((d.tdiv 7).tmod 4).toNat ([120, 121, 122] : Str))), Sl.v Sl.nil, Sl.v Sl.nil]) aF) ∧
((¬ ((d.tmod 7) = 0)) →
((((d.tmod 7) < 3) ∨ (5 < k)) →
(I64 (d.tdiv 7)) ∧
(I64 (d.tdiv 7)) ∧
(I64 (((d.tdiv 7).tmod 6) + 1)) ∧
((0 : Int) ≤ (d.tdiv 7).tmod 6 ∧ ((d.tdiv 7).tmod 6 : Int) ≤ ((d.tdiv 7).tmod 6) + 1 ∧ ((d.tdiv 7).tmod 6) + 1 ≤ (([97, 98, 99, 100, 101, 102] : Str).length : Int)) ∧
∀ (aG : World), Chg [j] af aG →
R (.agg #[.int .i64 3, .string (Bs ([] : Str)), .string (Bs ((List.drop ((d.tdiv 7).tmod 6).toNat ([97, 98, 99, 100, 101, 102] : Str)).take ((((d.tdiv 7).tmod 6) + 1).toNat - ((d.tdiv 7).tmod 6).toNat))), Sl.v Sl.nil, Sl.v Sl.nil]) aG) ∧
(((¬ ((d.tmod 7) < 3)) ∧ (¬ (5 < k))) →
(I64 (d.tdiv 7)) ∧
((0 : Int) ≤ (d.tdiv 7).tmod 4 ∧ (d.tdiv 7).tmod 4 < 4) ∧
(I64 (d.tdiv 28)) ∧
∀ (ak : World) (f : Nat), New af f ak → Chg [] af ak →
∃ aN : Sl → World → Prop,
(((((d.tdiv 28).tmod 3) = 0) →
∀ (al : World), Chg [] ak al →
(I64 (d.tdiv 84)) ∧
(I64 (d.tdiv 84)) ∧
(I64 (((d.tdiv 84).tmod 4) + 1)) ∧
((0 : Int) ≤ (d.tdiv 84).tmod 4 ∧ ((d.tdiv 84).tmod 4 : Int) ≤ ((d.tdiv 84).tmod 4) + 1 ∧ ((d.tdiv 84).tmod 4) + 1 ≤ (([48, 49, 50, 51] : Str).length : Int)) ∧
∀ (ay : World) (r : Nat), Ext al ay → al.heap.size ≤ r → Box ay r 65 [.string (Bs ([105, 100] : Str)), .string (Bs ((List.drop ((d.tdiv 84).tmod 4).toNat ([48, 49, 50, 51] : Str)).take ((((d.tdiv 84).tmod 4) + 1).toNat - ((d.tdiv 84).tmod 4).toNat)))] → 
∀ (_ : Box ay r 65 [.string (Bs ([105, 100] : Str)), .string (Bs ((List.drop ((d.tdiv 84).tmod 4).toNat ([48, 49, 50, 51] : Str)).take ((((d.tdiv 84).tmod 4) + 1).toNat - ((d.tdiv 84).tmod 4).toNat)))]),
RunK Try.prog (Builtin.append_ #[26, 26] 26 #[Sl.v Sl.nil, Sl.v (Sl.mk (some ⟨r, 0, none⟩) 1 1)]) ay [j, f] (fun v a9 => ∃ (am : Sl), v = Sl.v am ∧
∀ (aO : World), Chg [f] a9 aO →
aN am aO)) ∧
((¬ (((d.tdiv 28).tmod 3) = 0)) →
aN Sl.nil ak)) ∧
(∀ (z : Sl) (aH : World), aN z aH →
(I64 (d.tdiv 28)) ∧
∃ aP : Sl → World → Prop,
(((((d.tdiv 28).tmod 5) = 0) →
∀ (an : World), Chg [] aH an →
(I64 (d.tdiv 84)) ∧
((0 : Int) ≤ (d.tdiv 84).tmod 3 ∧ (d.tdiv 84).tmod 3 ≤ (([117, 118] : Str).length : Int)) ∧
∀ (az : World) (t : Nat), Ext an az → an.heap.size ≤ t → Box az t 65 [.string (Bs ([120] : Str)), .string (Bs (List.take ((d.tdiv 84).tmod 3).toNat ([117, 118] : Str)))] → 
∀ (_ : Box az t 65 [.string (Bs ([120] : Str)), .string (Bs (List.take ((d.tdiv 84).tmod 3).toNat ([117, 118] : Str)))]),
RunK Try.prog (Builtin.append_ #[26, 26] 26 #[Sl.v z, Sl.v (Sl.mk (some ⟨t, 0, none⟩) 1 1)]) az [j, f] (fun v ba => ∃ (ao : Sl), v = Sl.v ao ∧
∀ (aQ : World), Chg [f] ba aQ →
aP ao aQ)) ∧
((¬ (((d.tdiv 28).tmod 5) = 0)) →
aP z aH)) ∧
(∀ (x : Sl) (aR : World), aP x aR →
(I64 (d.tdiv 512)) ∧
∃ (aS : Int → Sl → World → Prop) (a1 : Int → Sl → World → Nat),
aS ((d.tdiv 512).tmod 4) Sl.nil aR ∧
(∀ (p : Int) (y : Sl) (ah : World), aS p y ah →
∃ (aI : Int), (((0 < p)) → ah.cell? m = some (.int .i64 aI)) ∧
(((0 < p) ∧ (aI < 40)) →
∀ (aT : World), Chg [] ah aT →
(I64 (k + 1)) ∧
CallK Try.prog 55 #[Sl.v n, .pointer (some o), .pointer (some m), .int .i64 (k + 1)] aT [j, f] (fun v aU => ∃ (ap : Int) (aq : Str) (ar : Str) (au : Sl) (av : Sl), v = .agg #[.int .i64 ap, .string (Bs aq), .string (Bs ar), Sl.v au, Sl.v av] ∧
∀ (aA : World) (q : Nat), Ext aU aA → aU.heap.size ≤ q → Box aA q 29 [.int .i64 ap, .string (Bs aq), .string (Bs ar), Sl.v au, Sl.v av] → 
∀ (aJ : World), Chg [] aA aJ →
∀ (_ : Box aJ q 29 [.int .i64 ap, .string (Bs aq), .string (Bs ar), Sl.v au, Sl.v av]),
RunK Try.prog (Builtin.append_ #[27, 27] 27 #[Sl.v y, Sl.v (Sl.mk (some ⟨q, 0, none⟩) 1 1)]) aJ [j, f] (fun v bb => ∃ (ai : Sl), v = Sl.v ai ∧
(I64 (p - 1)) ∧
∀ (aB : World), Chg [f] bb aB →
aS (p - 1) ai aB ∧ a1 (p - 1) ai aB < a1 p y ah))) ∧
(((¬ (0 < p)) ∨ (¬ (aI < 40))) →
∀ (aK : World), Chg [j] ah aK →
R (.agg #[.int .i64 2, .string (Bs (([([98] : Str), ([112] : Str), ([100, 105, 118] : Str), ([108, 105] : Str)] : List Str).getD ((d.tdiv 7).tmod 4).toNat [])), .string (Bs ([] : Str)), Sl.v x, Sl.v y]) aK))))))))
theorem law00_grown.ok (n : Sl) (o : Addr) (m : Addr) (k : Int) {R : Value → World → Prop} {w : World} (bN : law00_grown.vc n o m k R w) : Calls Try.prog 55 #[Sl.v n, .pointer (some o), .pointer (some m), .int .i64 k] w (Ret R) := by
 refine enter [Sl.v n, .pointer (some o), .pointer (some m), .int .i64 k] Try.func55 rfl Try.ntmps55 rfl ?_
 intro a0 dA
 unfold law00_grown.vc at bN
 refine wp_seq (wp_region_lit ?_)
 refine sq (opk_new (fun B => .pointer (some ⟨B, 0, none⟩)) dA rfl (r_alloc (cs := [.int .i64 0, .string (Bs ([] : Str)), .string (Bs ([] : Str)), Sl.v Sl.nil, Sl.v Sl.nil]) ti_29 rfl) fun a7 w6 j dB dC dD dF _ => ?_)
 have dG : New w j w6 := dC
 have dH : Chg [] w w6 := dB
 refine sq_end ?_
 have bO := dF.keep [(0, Sl.v n), (1, .pointer (some o)), (2, .pointer (some m)), (3, .int .i64 k), (8, .pointer (some (⟨j, 0, none⟩ : Addr)))] ⟨rfl, rfl, rfl, rfl, rfl, trivial⟩
 refine then_normal (wp_seq (wp_region_lit ?_))
 refine sqv bO rfl (r_move (bO.get rfl)) fun _ bP => ?_
 refine sqv bP rfl (r_nilCheck (bP.get rfl)) fun _ bQ => ?_
 have dI := bN w6 j dG  dH
 obtain ⟨aC, dJ, dK⟩ := dI
 refine sqv bQ rfl (r_load1 Try.underlying3 rfl (bQ.get rfl) dJ) fun _ bR => ?_
 obtain ⟨dL, dM⟩ := dK
 refine sqv bR rfl (r_addI (bR.get rfl) rfl dL) fun _ bS => ?_
 refine sqv bS rfl (r_nilCheck (bS.get rfl)) fun _ bd => ?_
 obtain ⟨aD, aZ, a8, cs_32, dN, bT, dO, dP, dQ⟩ := dM
 refine sq (opk_store bd bT (r_store (vs := [.int .i64 (aC + 1)]) (((bd.get rfl)).trans (congrArg (fun a => Value.pointer (some a)) dN)) (bd.get rfl) rfl ti_3 bT (Nat.ble_eq_true_of_le dO) (ones_all [.int .i64 (aC + 1)] rfl)) fun jk aM bU dR dS => ?_)
 have dT := dD.keep bU (by have := dP j (by simp); simpa using this)
 have dU := dQ aM bU dR
 refine sq_end ?_
 have bV := dS.keep [(0, Sl.v n), (1, .pointer (some o)), (2, .pointer (some m)), (3, .int .i64 k), (8, .pointer (some (⟨j, 0, none⟩ : Addr)))] ⟨rfl, rfl, rfl, rfl, rfl, trivial⟩
 refine then_normal (wp_seq (wp_region_lit ?_))
 refine sqv bV rfl (r_move (bV.get rfl)) fun _ bX => ?_
 refine sqv bX rfl (r_move (bX.get rfl)) fun _ bf => ?_
 refine sq (opk_call bf rfl (r_call (args := #[Sl.v n, .pointer (some o)]) Try.func54 (by decide) rfl (map_arr (ml_cons (bf.get rfl) (ml_cons (bf.get rfl) ml_nil))) rfl) dU fun jl jm af bY _ dV jn dX => ?_)
 obtain ⟨d, rfl, bZ⟩ := dX
 have aL := dT.kept dV (.head _)
 refine sqv bY rfl (r_assign (bY.get rfl)) fun _ dY => ?_
 refine sq_end ?_
 have b0 := dY.keep [(0, Sl.v n), (1, .pointer (some o)), (2, .pointer (some m)), (3, .int .i64 k), (8, .pointer (some (⟨j, 0, none⟩ : Addr))), (9, .int .i64 d)] ⟨rfl, rfl, rfl, rfl, rfl, rfl, trivial⟩
 refine then_normal (wp_seq (wp_block (wp_seq (wp_region_lit ?_))))
 refine sqv b0 rfl (r_move (b0.get rfl)) fun _ b1 => ?_
 refine sqv b1 rfl (r_rem (b1.get rfl) rfl (by decide)) fun _ b2 => ?_
 refine sqv b2 rfl (r_eql (b2.get rfl) rfl) fun _ b3 => ?_
 refine sqv b3 rfl (r_assign (b3.get rfl)) fun _ dZ => ?_
 refine sq_end ?_
 have aV := dZ.keep [(0, Sl.v n), (1, .pointer (some o)), (2, .pointer (some m)), (3, .int .i64 k), (8, .pointer (some (⟨j, 0, none⟩ : Addr))), (9, .int .i64 d), (20, .bool (decide ((d.tmod 7) = 0)))] ⟨rfl, rfl, rfl, rfl, rfl, rfl, rfl, trivial⟩
 refine then_normal ?_
 refine wp_cond_split (aV.get rfl) (fun hc => ?_) (fun hc => ?_)
 ·have d0 := bZ.1 (of_decide_eq_true hc)
  clear hc
  refine wp_seq (wp_region_lit ?_)
  refine sqv aV rfl (r_move (aV.get rfl)) fun _ b4 => ?_
  obtain ⟨d1, d2⟩ := d0
  refine sqv b4 rfl (r_quoI (b4.get rfl) rfl (by decide) d1) fun _ b5 => ?_
  refine sqv b5 rfl (r_rem (b5.get rfl) rfl (by decide)) fun _ b6 => ?_
  obtain ⟨d3, d4⟩ := d2
  refine sqv b6 rfl (r_ssliceH rfl (b6.get rfl) Try.underlying9 d3) fun _ b7 => ?_
  refine sqv b7 rfl (r_build (vs := #[(0, .int .i64 4), (2, .string (Bs (List.take ((d.tdiv 7).tmod 4).toNat ([120, 121, 122] : Str))))]) (cells := #[.int .i64 4, .string (Bs ([] : Str)), .string (Bs (List.take ((d.tdiv 7).tmod 4).toNat ([120, 121, 122] : Str))), Sl.v Sl.nil, Sl.v Sl.nil]) (map_arr2 (ml2_cons rfl (ml2_cons (b7.get rfl) (ml2_nil)))) ti_29 Try.underlying29 pl_29 (by kernel_rfl)) fun _ bg => ?_
  refine sq (opk_store bg aL (r_store (vs := [.int .i64 4, .string (Bs ([] : Str)), .string (Bs (List.take ((d.tdiv 7).tmod 4).toNat ([120, 121, 122] : Str))), Sl.v Sl.nil, Sl.v Sl.nil]) (bg.get rfl) (bg.get rfl) rfl ti_29 aL rfl (ones_all [.int .i64 4, .string (Bs ([] : Str)), .string (Bs (List.take ((d.tdiv 7).tmod 4).toNat ([120, 121, 122] : Str))), Sl.v Sl.nil, Sl.v Sl.nil] rfl)) fun jo aF d5 d6 d7 => ?_)
  have d8 : Box aF j 29 [.int .i64 4, .string (Bs ([] : Str)), .string (Bs (List.take ((d.tdiv 7).tmod 4).toNat ([120, 121, 122] : Str))), Sl.v Sl.nil, Sl.v Sl.nil] := d6
  have d9 : Chg [j] af aF := d5
  refine sq_end ?_
  have b8 := d7.keep [(8, .pointer (some (⟨j, 0, none⟩ : Addr)))] ⟨rfl, trivial⟩
  refine then_normal ?_
  refine wp_ret ?_
  refine block_ret ?_
  refine then_ret ?_
  have fa := d4 aF    d9
  exact res_all (vs := [.agg #[.int .i64 4, .string (Bs ([] : Str)), .string (Bs (List.take ((d.tdiv 7).tmod 4).toNat ([120, 121, 122] : Str))), Sl.v Sl.nil, Sl.v Sl.nil]]) rfl b8 ⟨res_of_cell b8 rfl d8 Try.underlying29 rfl ti_29, trivial⟩ fa
 ·have b9 := bZ.2 (of_decide_eq_false hc)
  clear hc
  refine wp_seq (wp_region_lit ?_)
  refine sqv aV rfl (r_move (aV.get rfl)) fun _ ca => ?_
  refine sqv ca rfl (r_rem (ca.get rfl) rfl (by decide)) fun _ cb => ?_
  refine sqv cb rfl (r_lss (cb.get rfl) rfl) fun _ cc => ?_
  refine sqv cc rfl (r_move (cc.get rfl)) fun _ cd => ?_
  refine sq (opk_gval cd rfl rfl (g := true) (e := (decide ((d.tmod 7) < 3))) rfl (fun hg => r_move (cd.get rfl)) fun jp cf _ => ?_)
  refine sq (opk_gval cf rfl rfl (g := true) (e := (decide ((d.tmod 7) < 3))) rfl (fun hg => r_gtr (cv_get (cf.get rfl) hg) rfl) fun jq bh _ => ?_)
  refine sqv bh rfl (r_pick_or (g := (true && ((decide ((d.tmod 7) < 3)) == false))) (bh.get rfl) (bh.get rfl) (fun he => g_mkf rfl he)) fun _ cg => ?_
  refine sqv cg rfl (r_assign (cg.get rfl)) fun _ fb => ?_
  refine sq_end ?_
  have a2 := fb.keep [(0, Sl.v n), (1, .pointer (some o)), (2, .pointer (some m)), (3, .int .i64 k), (8, .pointer (some (⟨j, 0, none⟩ : Addr))), (9, .int .i64 d), (29, .bool ((decide ((d.tmod 7) < 3)) || (decide (5 < k))))] ⟨rfl, rfl, rfl, rfl, rfl, rfl, rfl, trivial⟩
  refine then_normal ?_
  refine wp_cond_split (a2.get rfl) (fun hc => ?_) (fun hc => ?_)
  ·have fc := b9.1 ((b_or_t hc).imp (fun h => (of_decide_eq_true h)) (fun h => (of_decide_eq_true h)))
   clear hc
   refine wp_seq (wp_region_lit ?_)
   refine sqv a2 rfl (r_move (a2.get rfl)) fun _ ch => ?_
   obtain ⟨fd, ff⟩ := fc
   refine sqv ch rfl (r_quoI (ch.get rfl) rfl (by decide) fd) fun _ ci => ?_
   refine sqv ci rfl (r_rem (ci.get rfl) rfl (by decide)) fun _ cj => ?_
   refine sqv cj rfl (r_move (cj.get rfl)) fun _ ck => ?_
   obtain ⟨fg, fh⟩ := ff
   refine sqv ck rfl (r_quoI (ck.get rfl) rfl (by decide) fg) fun _ cl => ?_
   refine sqv cl rfl (r_rem (cl.get rfl) rfl (by decide)) fun _ cm => ?_
   obtain ⟨fi, fj⟩ := fh
   refine sqv cm rfl (r_addI (cm.get rfl) rfl fi) fun _ bi => ?_
   obtain ⟨fk, fl⟩ := fj
   refine sqv bi rfl (r_sslice2 rfl (bi.get rfl) (bi.get rfl) Try.underlying9 fk) fun _ cn => ?_
   refine sqv cn rfl (r_build (vs := #[(0, .int .i64 3), (2, .string (Bs ((List.drop ((d.tdiv 7).tmod 6).toNat ([97, 98, 99, 100, 101, 102] : Str)).take ((((d.tdiv 7).tmod 6) + 1).toNat - ((d.tdiv 7).tmod 6).toNat))))]) (cells := #[.int .i64 3, .string (Bs ([] : Str)), .string (Bs ((List.drop ((d.tdiv 7).tmod 6).toNat ([97, 98, 99, 100, 101, 102] : Str)).take ((((d.tdiv 7).tmod 6) + 1).toNat - ((d.tdiv 7).tmod 6).toNat))), Sl.v Sl.nil, Sl.v Sl.nil]) (map_arr2 (ml2_cons rfl (ml2_cons (cn.get rfl) (ml2_nil)))) ti_29 Try.underlying29 pl_29 (by kernel_rfl)) fun _ bj => ?_
   refine sq (opk_store bj aL (r_store (vs := [.int .i64 3, .string (Bs ([] : Str)), .string (Bs ((List.drop ((d.tdiv 7).tmod 6).toNat ([97, 98, 99, 100, 101, 102] : Str)).take ((((d.tdiv 7).tmod 6) + 1).toNat - ((d.tdiv 7).tmod 6).toNat))), Sl.v Sl.nil, Sl.v Sl.nil]) (bj.get rfl) (bj.get rfl) rfl ti_29 aL rfl (ones_all [.int .i64 3, .string (Bs ([] : Str)), .string (Bs ((List.drop ((d.tdiv 7).tmod 6).toNat ([97, 98, 99, 100, 101, 102] : Str)).take ((((d.tdiv 7).tmod 6) + 1).toNat - ((d.tdiv 7).tmod 6).toNat))), Sl.v Sl.nil, Sl.v Sl.nil] rfl)) fun jr aG fm fn fo => ?_)
   have fp : Box aG j 29 [.int .i64 3, .string (Bs ([] : Str)), .string (Bs ((List.drop ((d.tdiv 7).tmod 6).toNat ([97, 98, 99, 100, 101, 102] : Str)).take ((((d.tdiv 7).tmod 6) + 1).toNat - ((d.tdiv 7).tmod 6).toNat))), Sl.v Sl.nil, Sl.v Sl.nil] := fn
   have fq : Chg [j] af aG := fm
   refine sq_end ?_
   have co := fo.keep [(8, .pointer (some (⟨j, 0, none⟩ : Addr)))] ⟨rfl, trivial⟩
   refine then_normal ?_
   refine wp_ret ?_
   refine block_ret ?_
   refine then_ret ?_
   have fr := fl aG    fq
   exact res_all (vs := [.agg #[.int .i64 3, .string (Bs ([] : Str)), .string (Bs ((List.drop ((d.tdiv 7).tmod 6).toNat ([97, 98, 99, 100, 101, 102] : Str)).take ((((d.tdiv 7).tmod 6) + 1).toNat - ((d.tdiv 7).tmod 6).toNat))), Sl.v Sl.nil, Sl.v Sl.nil]]) rfl co ⟨res_of_cell co rfl fp Try.underlying29 rfl ti_29, trivial⟩ fr
  ·have fs := b9.2 ⟨(of_decide_eq_false (b_or_f hc).1), (of_decide_eq_false (b_or_f hc).2)⟩
   clear hc
   refine wp_skip ?_
   refine block_normal ?_
   refine then_normal (wp_seq (wp_region_lit ?_))
   refine sqv a2 rfl (r_buildA (vs := #[(0, .string (Bs ([98] : Str))), (1, .string (Bs ([112] : Str))), (2, .string (Bs ([100, 105, 118] : Str))), (3, .string (Bs ([108, 105] : Str)))]) (cells := #[.string (Bs ([98] : Str)), .string (Bs ([112] : Str)), .string (Bs ([100, 105, 118] : Str)), .string (Bs ([108, 105] : Str))]) (map_arr2 (ml2_cons rfl (ml2_cons rfl (ml2_cons rfl (ml2_cons rfl (ml2_nil)))))) ti_107 Try.underlying107 ti_9 (by kernel_rfl)) fun _ cp => ?_
   refine sqv cp rfl (r_move (cp.get rfl)) fun _ cq => ?_
   obtain ⟨ft, fu⟩ := fs
   refine sqv cq rfl (r_quoI (cq.get rfl) rfl (by decide) ft) fun _ cr => ?_
   refine sqv cr rfl (r_rem (cr.get rfl) rfl (by decide)) fun _ bk => ?_
   obtain ⟨fv, fx⟩ := fu
   refine sqv bk rfl (r_aindexS (l := ([([98] : Str), ([112] : Str), ([100, 105, 118] : Str), ([108, 105] : Str)] : List Str)) (bk.get rfl) rfl (bk.get rfl) Try.underlying107 Try.underlying9 ti_9 rfl fv) fun _ ct => ?_
   refine sqv ct rfl (r_build (vs := #[(0, .int .i64 2), (1, .string (Bs (([([98] : Str), ([112] : Str), ([100, 105, 118] : Str), ([108, 105] : Str)] : List Str).getD ((d.tdiv 7).tmod 4).toNat [])))]) (cells := #[.int .i64 2, .string (Bs (([([98] : Str), ([112] : Str), ([100, 105, 118] : Str), ([108, 105] : Str)] : List Str).getD ((d.tdiv 7).tmod 4).toNat [])), .string (Bs ([] : Str)), Sl.v Sl.nil, Sl.v Sl.nil]) (map_arr2 (ml2_cons rfl (ml2_cons (ct.get rfl) (ml2_nil)))) ti_29 Try.underlying29 pl_29 (by kernel_rfl)) fun _ fy => ?_
   refine sq (opk_new (fun B => .pointer (some ⟨B, 0, none⟩)) fy rfl (r_alloc (cs := [.int .i64 0, .string (Bs ([] : Str)), .string (Bs ([] : Str)), Sl.v Sl.nil, Sl.v Sl.nil]) ti_29 rfl) fun js cu f cv cx cy bl _ => ?_)
   have aX : j ≠ f := Nat.ne_of_lt (Nat.lt_of_lt_of_le aL.lt cx.ge)
   have cz : New af f cu := cx
   have fz := aL.ext cv
   have fA : Chg [] af cu := cv
   refine sq (opk_store bl cy (r_store (vs := [.int .i64 2, .string (Bs (([([98] : Str), ([112] : Str), ([100, 105, 118] : Str), ([108, 105] : Str)] : List Str).getD ((d.tdiv 7).tmod 4).toNat [])), .string (Bs ([] : Str)), Sl.v Sl.nil, Sl.v Sl.nil]) (bl.get rfl) (bl.get rfl) rfl ti_29 cy rfl (ones_all [.int .i64 2, .string (Bs (([([98] : Str), ([112] : Str), ([100, 105, 118] : Str), ([108, 105] : Str)] : List Str).getD ((d.tdiv 7).tmod 4).toNat [])), .string (Bs ([] : Str)), Sl.v Sl.nil, Sl.v Sl.nil] rfl)) fun jt ak bm fB fC => ?_)
   have cA : Box ak f 29 [.int .i64 2, .string (Bs (([([98] : Str), ([112] : Str), ([100, 105, 118] : Str), ([108, 105] : Str)] : List Str).getD ((d.tdiv 7).tmod 4).toNat [])), .string (Bs ([] : Str)), Sl.v Sl.nil, Sl.v Sl.nil] := fB
   have cB := fz.keep bm (by simpa using aX)
   have fD := fA.storeNew cz bm
   have fF := cz.up bm.size
   refine sq_end ?_
   have cC := fC.keep [(0, Sl.v n), (1, .pointer (some o)), (2, .pointer (some m)), (3, .int .i64 k), (8, .pointer (some (⟨j, 0, none⟩ : Addr))), (9, .int .i64 d), (10, .pointer (some (⟨f, 0, none⟩ : Addr)))] ⟨rfl, rfl, rfl, rfl, rfl, rfl, rfl, trivial⟩
   refine then_normal (wp_seq (wp_seq (wp_region_lit ?_)))
   refine sqv cC rfl (r_move (cC.get rfl)) fun _ cD => ?_
   obtain ⟨fG, fH⟩ := fx
   refine sqv cD rfl (r_quoI (cD.get rfl) rfl (by decide) fG) fun _ cF => ?_
   refine sqv cF rfl (r_rem (cF.get rfl) rfl (by decide)) fun _ cG => ?_
   refine sqv cG rfl (r_eql (cG.get rfl) rfl) fun _ fI => ?_
   refine sq_end ?_
   have u := fI.keep [(0, Sl.v n), (1, .pointer (some o)), (2, .pointer (some m)), (3, .int .i64 k), (8, .pointer (some (⟨j, 0, none⟩ : Addr))), (9, .int .i64 d), (10, .pointer (some (⟨f, 0, none⟩ : Addr))), (55, .bool (decide (((d.tdiv 28).tmod 3) = 0)))] ⟨rfl, rfl, rfl, rfl, rfl, rfl, rfl, rfl, trivial⟩
   refine then_normal ?_
   have fJ := fH ak f fF  fD
   obtain ⟨aN, cH, fK⟩ := fJ
   refine wp_meet (fun a w => ∃ z : Sl, Ag 109 a [(0, Sl.v n), (1, .pointer (some o)), (2, .pointer (some m)), (3, .int .i64 k), (8, .pointer (some (⟨j, 0, none⟩ : Addr))), (9, .int .i64 d), (10, .pointer (some (⟨f, 0, none⟩ : Addr)))] ∧ Box w j 29 [.int .i64 0, .string (Bs ([] : Str)), .string (Bs ([] : Str)), Sl.v Sl.nil, Sl.v Sl.nil] ∧ Box w f 29 [.int .i64 2, .string (Bs (([([98] : Str), ([112] : Str), ([100, 105, 118] : Str), ([108, 105] : Str)] : List Str).getD ((d.tdiv 7).tmod 4).toNat [])), .string (Bs ([] : Str)), Sl.v z, Sl.v Sl.nil] ∧ aN z w) ?_ ?_
   ·refine wp_cond_split (u.get rfl) (fun hc => ?_) (fun hc => ?_)
    ·have fL := cH.1 (of_decide_eq_true hc)
     clear hc
     refine draw' (by kernel_rfl) fun al bn => ?_
     have cI := cB.ext bn
     have bo := cA.ext bn
     have fM : Chg [] ak al := bn
     have fN := fL al    fM
     obtain ⟨fO, fP⟩ := fN
     obtain ⟨fQ, fR⟩ := fP
     obtain ⟨fS, fT⟩ := fR
     obtain ⟨fU, fV⟩ := fT
     refine par (D := [[], [0], [], [2], [2, 3], [], [5], [5, 6], [5, 6, 7], [2, 3, 4, 5, 6, 7, 8], [2, 3, 4, 5, 6, 7, 8, 9], [2, 3, 4, 5, 6, 7, 8, 9, 10], [0, 1, 2, 3, 4, 5, 6, 7, 8, 9, 10, 11], [0, 1, 2, 3, 4, 5, 6, 7, 8, 9, 10, 11, 12], [0, 1, 2, 3, 4, 5, 6, 7, 8, 9, 10, 11, 12, 13]]) (S := [0, 1, 2, 3, 4, 5, 6, 7, 8, 9, 10, 11]) (F := []) (V := VL [(0, fun v _ => v = .pointer (some (⟨f, 3, none⟩ : Addr))), (1, fun v _ => v = Sl.v Sl.nil), (2, fun v _ => v = .int .i64 d), (3, fun v _ => v = .int .i64 (d.tdiv 84)), (4, fun v _ => v = .int .i64 ((d.tdiv 84).tmod 4)), (5, fun v _ => v = .int .i64 d), (6, fun v _ => v = .int .i64 (d.tdiv 84)), (7, fun v _ => v = .int .i64 ((d.tdiv 84).tmod 4)), (8, fun v _ => v = .int .i64 (((d.tdiv 84).tmod 4) + 1)), (9, fun v _ => v = .string (Bs ((List.drop ((d.tdiv 84).tmod 4).toNat ([48, 49, 50, 51] : Str)).take ((((d.tdiv 84).tmod 4) + 1).toNat - ((d.tdiv 84).tmod 4).toNat)))), (10, fun v _ => v = .agg #[.string (Bs ([105, 100] : Str)), .string (Bs ((List.drop ((d.tdiv 84).tmod 4).toNat ([48, 49, 50, 51] : Str)).take ((((d.tdiv 84).tmod 4) + 1).toNat - ((d.tdiv 84).tmod 4).toNat)))]), (11, fun v w' => ∃ r : Nat, al.heap.size ≤ r ∧ Box w' r 65 [.string (Bs ([105, 100] : Str)), .string (Bs ((List.drop ((d.tdiv 84).tmod 4).toNat ([48, 49, 50, 51] : Str)).take ((((d.tdiv 84).tmod 4) + 1).toNat - ((d.tdiv 84).tmod 4).toNat)))] ∧ v = Sl.v (Sl.mk (some ⟨r, 0, none⟩) 1 1))]) u (by kernel_rfl) ⟨fun _ _ _ _ h => h, fun _ _ _ _ h => h, fun _ _ _ _ h => h, fun _ _ _ _ h => h, fun _ _ _ _ h => h, fun _ _ _ _ h => h, fun _ _ _ _ h => h, fun _ _ _ _ h => h, fun _ _ _ _ h => h, fun _ _ _ _ h => h, fun _ _ _ _ h => h, fun _ _ _ hE ⟨r, h0_, h1_, e⟩ => ⟨r, h0_, (h1_.ext hE), e⟩, trivial⟩ ⟨?_, ?_, ?_, ?_, ?_, ?_, ?_, ?_, ?_, ?_, ?_, ?_, trivial⟩ ?_
     ·intro a w hT
      have hAp := hT.ag u [(10, .pointer (some (⟨f, 0, none⟩ : Addr)))] ⟨rfl, trivial⟩ (by kernel_rfl)
      exact ovr hAp rfl (r_fieldAddr (hAp.get rfl) Try.underlying29 rfl ti_26 (by decide)) fun _ => Eq.refl _
     ·intro a w hT
      have hAp := hT.ag u [] trivial (by kernel_rfl)
      have fX : a.tmps.getD 56 undef = .pointer (some (⟨f, 3, none⟩ : Addr)) := hT.vals 0 rfl 56 rfl
      have hAp := hAp.add fX
      exact ovr hAp rfl (r_load1 Try.underlying26 rfl (hAp.get rfl) ((bo.ext hT.chg).cell 3 _ rfl)) fun _ => Eq.refl _
     ·intro a w hT
      have hAp := hT.ag u [(9, .int .i64 d)] ⟨rfl, trivial⟩ (by kernel_rfl)
      exact ovr hAp rfl (r_move (hAp.get rfl)) fun _ => Eq.refl _
     ·intro a w hT
      have hAp := hT.ag u [] trivial (by kernel_rfl)
      have fY : a.tmps.getD 58 undef = .int .i64 d := hT.vals 2 rfl 58 rfl
      have hAp := hAp.add fY
      exact ovr hAp rfl (r_quoI (hAp.get rfl) rfl (by decide) fO) fun _ => Eq.refl _
     ·intro a w hT
      have hAp := hT.ag u [] trivial (by kernel_rfl)
      have fZ : a.tmps.getD 59 undef = .int .i64 (d.tdiv 84) := hT.vals 3 rfl 59 rfl
      have hAp := hAp.add fZ
      exact ovr hAp rfl (r_rem (hAp.get rfl) rfl (by decide)) fun _ => Eq.refl _
     ·intro a w hT
      have hAp := hT.ag u [(9, .int .i64 d)] ⟨rfl, trivial⟩ (by kernel_rfl)
      exact ovr hAp rfl (r_move (hAp.get rfl)) fun _ => Eq.refl _
     ·intro a w hT
      have hAp := hT.ag u [] trivial (by kernel_rfl)
      have f0 : a.tmps.getD 61 undef = .int .i64 d := hT.vals 5 rfl 61 rfl
      have hAp := hAp.add f0
      exact ovr hAp rfl (r_quoI (hAp.get rfl) rfl (by decide) fQ) fun _ => Eq.refl _
     ·intro a w hT
      have hAp := hT.ag u [] trivial (by kernel_rfl)
      have f1 : a.tmps.getD 62 undef = .int .i64 (d.tdiv 84) := hT.vals 6 rfl 62 rfl
      have hAp := hAp.add f1
      exact ovr hAp rfl (r_rem (hAp.get rfl) rfl (by decide)) fun _ => Eq.refl _
     ·intro a w hT
      have hAp := hT.ag u [] trivial (by kernel_rfl)
      have f2 : a.tmps.getD 63 undef = .int .i64 ((d.tdiv 84).tmod 4) := hT.vals 7 rfl 63 rfl
      have hAp := hAp.add f2
      exact ovr hAp rfl (r_addI (hAp.get rfl) rfl fS) fun _ => Eq.refl _
     ·intro a w hT
      have hAp := hT.ag u [] trivial (by kernel_rfl)
      have f3 : a.tmps.getD 60 undef = .int .i64 ((d.tdiv 84).tmod 4) := hT.vals 4 rfl 60 rfl
      have hAp := hAp.add f3
      have f4 : a.tmps.getD 64 undef = .int .i64 (((d.tdiv 84).tmod 4) + 1) := hT.vals 8 rfl 64 rfl
      have hAp := hAp.add f4
      exact ovr hAp rfl (r_sslice2 rfl (hAp.get rfl) (hAp.get rfl) Try.underlying9 fU) fun _ => Eq.refl _
     ·intro a w hT
      have hAp := hT.ag u [] trivial (by kernel_rfl)
      have f5 : a.tmps.getD 65 undef = .string (Bs ((List.drop ((d.tdiv 84).tmod 4).toNat ([48, 49, 50, 51] : Str)).take ((((d.tdiv 84).tmod 4) + 1).toNat - ((d.tdiv 84).tmod 4).toNat))) := hT.vals 9 rfl 65 rfl
      have hAp := hAp.add f5
      exact ovr hAp rfl (r_build (vs := #[(0, .string (Bs ([105, 100] : Str))), (1, .string (Bs ((List.drop ((d.tdiv 84).tmod 4).toNat ([48, 49, 50, 51] : Str)).take ((((d.tdiv 84).tmod 4) + 1).toNat - ((d.tdiv 84).tmod 4).toNat))))]) (cells := #[.string (Bs ([105, 100] : Str)), .string (Bs ((List.drop ((d.tdiv 84).tmod 4).toNat ([48, 49, 50, 51] : Str)).take ((((d.tdiv 84).tmod 4) + 1).toNat - ((d.tdiv 84).tmod 4).toNat)))]) (map_arr2 (ml2_cons rfl (ml2_cons (hAp.get rfl) (ml2_nil)))) ti_65 Try.underlying65 pl_65 (by kernel_rfl)) fun _ => Eq.refl _
     ·intro a w hT
      have hAp := hT.ag u [] trivial (by kernel_rfl)
      have f6 : a.tmps.getD 66 undef = .agg #[.string (Bs ([105, 100] : Str)), .string (Bs ((List.drop ((d.tdiv 84).tmod 4).toNat ([48, 49, 50, 51] : Str)).take ((((d.tdiv 84).tmod 4) + 1).toNat - ((d.tdiv 84).tmod 4).toNat)))] := hT.vals 10 rfl 66 rfl
      have hAp := hAp.add f6
      exact opk_new (fun B => .slice (some ⟨B, 0, none⟩) 1 1) hAp rfl (r_buildSlice (vs := #[(0, .agg #[.string (Bs ([105, 100] : Str)), .string (Bs ((List.drop ((d.tdiv 84).tmod 4).toNat ([48, 49, 50, 51] : Str)).take ((((d.tdiv 84).tmod 4) + 1).toNat - ((d.tdiv 84).tmod 4).toNat)))])]) (cs := [.string (Bs ([105, 100] : Str)), .string (Bs ((List.drop ((d.tdiv 84).tmod 4).toNat ([48, 49, 50, 51] : Str)).take ((((d.tdiv 84).tmod 4) + 1).toNat - ((d.tdiv 84).tmod 4).toNat)))]) (map_arr2 (ml2_cons (hAp.get rfl) (ml2_nil))) Try.underlying26 ti_65 rfl rfl (by kernel_rfl)) fun _ ju r f7 f8 f9 _ e => ⟨_, e, f7, fun _ => ⟨r, Nat.le_trans hT.chg.size f8.ge, f9, rfl⟩⟩
     ·intro ga ay a3 gb cJ
      have gc := gb [(0, Sl.v n), (1, .pointer (some o)), (2, .pointer (some m)), (3, .int .i64 k), (8, .pointer (some (⟨j, 0, none⟩ : Addr))), (9, .int .i64 d), (10, .pointer (some (⟨f, 0, none⟩ : Addr)))] ⟨rfl, rfl, rfl, rfl, rfl, rfl, rfl, trivial⟩ (by kernel_rfl)
      have gd : ga.tmps.getD 57 undef = Sl.v Sl.nil := cJ 1 rfl 57 rfl
      have gf := gc.add gd
      obtain ⟨r, bp, cK, gg⟩ := cJ 11 rfl 67 rfl
      have bq := gf.add gg
      have gh := cI.ext a3
      have gi := bo.ext a3
      have jv : Chg [] al ay := a3
      have gj := fV ay r a3 bp cK
      have jx : j ≠ r := Nat.ne_of_lt (Nat.lt_of_lt_of_le cI.lt bp)
      have jy : f ≠ r := Nat.ne_of_lt (Nat.lt_of_lt_of_le bo.lt bp)
      have gk := gj cK
      refine one (D := [[], [0], [], [2], [2, 3], [], [5], [5, 6], [5, 6, 7], [2, 3, 4, 5, 6, 7, 8], [2, 3, 4, 5, 6, 7, 8, 9], [2, 3, 4, 5, 6, 7, 8, 9, 10], [0, 1, 2, 3, 4, 5, 6, 7, 8, 9, 10, 11], [0, 1, 2, 3, 4, 5, 6, 7, 8, 9, 10, 11, 12], [0, 1, 2, 3, 4, 5, 6, 7, 8, 9, 10, 11, 12, 13]]) (i := 12) rfl (by kernel_rfl) (opk_run bq rfl (fun _ _ hr => r_append (bq.get rfl) (bq.get rfl) hr) gk fun jz jA a9 cL _ cM jB gl => ?_)
      obtain ⟨am, rfl, gm⟩ := gl
      have gn := gh.kept cM (.head _)
      have go := gi.kept cM (.tail _ (.head _))
      refine par (D := [[], [0], [], [2], [2, 3], [], [5], [5, 6], [5, 6, 7], [2, 3, 4, 5, 6, 7, 8], [2, 3, 4, 5, 6, 7, 8, 9], [2, 3, 4, 5, 6, 7, 8, 9, 10], [0, 1, 2, 3, 4, 5, 6, 7, 8, 9, 10, 11], [0, 1, 2, 3, 4, 5, 6, 7, 8, 9, 10, 11, 12], [0, 1, 2, 3, 4, 5, 6, 7, 8, 9, 10, 11, 12, 13]]) (S := [13]) (F := []) (V := VL [(13, fun v _ => v = .pointer (some (⟨f, 3, none⟩ : Addr)))]) cL (by kernel_rfl) ⟨fun _ _ _ _ h => h, trivial⟩ ⟨?_, trivial⟩ ?_
      ·intro a w hT
       have hAp := hT.ag cL [(10, .pointer (some (⟨f, 0, none⟩ : Addr)))] ⟨rfl, trivial⟩ (by kernel_rfl)
       exact ovr hAp rfl (r_fieldAddr (hAp.get rfl) Try.underlying29 rfl ti_26 (by decide)) fun _ => Eq.refl _
      ·intro gp gq br gr gs
       have gu := gr [(0, Sl.v n), (1, .pointer (some o)), (2, .pointer (some m)), (3, .int .i64 k), (8, .pointer (some (⟨j, 0, none⟩ : Addr))), (9, .int .i64 d), (10, .pointer (some (⟨f, 0, none⟩ : Addr))), (68, Sl.v am)] ⟨rfl, rfl, rfl, rfl, rfl, rfl, rfl, rfl, trivial⟩ (by kernel_rfl)
       have gv : gp.tmps.getD 69 undef = .pointer (some (⟨f, 3, none⟩ : Addr)) := gs 13 rfl 69 rfl
       have bs := gu.add gv
       have gx := gn.ext br
       have cN := go.ext br
       have gy : Chg [] a9 gq := br
       refine one (D := [[], [0], [], [2], [2, 3], [], [5], [5, 6], [5, 6, 7], [2, 3, 4, 5, 6, 7, 8], [2, 3, 4, 5, 6, 7, 8, 9], [2, 3, 4, 5, 6, 7, 8, 9, 10], [0, 1, 2, 3, 4, 5, 6, 7, 8, 9, 10, 11], [0, 1, 2, 3, 4, 5, 6, 7, 8, 9, 10, 11, 12], [0, 1, 2, 3, 4, 5, 6, 7, 8, 9, 10, 11, 12, 13]]) (i := 14) rfl (by kernel_rfl) (opk_store bs cN (r_store (vs := [Sl.v am]) (bs.get rfl) (bs.get rfl) rfl ti_26 cN rfl (ones_all [Sl.v am] rfl)) fun jC aO cO gz gA => ?_)
       have gB : Box aO f 29 [.int .i64 2, .string (Bs (([([98] : Str), ([112] : Str), ([100, 105, 118] : Str), ([108, 105] : Str)] : List Str).getD ((d.tdiv 7).tmod 4).toNat [])), .string (Bs ([] : Str)), Sl.v am, Sl.v Sl.nil] := gz
       have gC := gx.keep cO (by simpa using aX)
       have gD := gy.storeOld cO
       refine PR_end (by kernel_rfl) ?_
       have gF := gA.keep [(0, Sl.v n), (1, .pointer (some o)), (2, .pointer (some m)), (3, .int .i64 k), (8, .pointer (some (⟨j, 0, none⟩ : Addr))), (9, .int .i64 d), (10, .pointer (some (⟨f, 0, none⟩ : Addr)))] ⟨rfl, rfl, rfl, rfl, rfl, rfl, rfl, trivial⟩
       have gG := gm aO    gD
       have gH := gF.keep [(0, Sl.v n), (1, .pointer (some o)), (2, .pointer (some m)), (3, .int .i64 k), (8, .pointer (some (⟨j, 0, none⟩ : Addr))), (9, .int .i64 d), (10, .pointer (some (⟨f, 0, none⟩ : Addr)))] ⟨rfl, rfl, rfl, rfl, rfl, rfl, rfl, trivial⟩
       exact then_normal ⟨am, gH, gC, gB, gG⟩
    ·have gI := cH.2 (of_decide_eq_false hc)
     clear hc
     refine wp_skip ?_
     have gJ := u.keep [(0, Sl.v n), (1, .pointer (some o)), (2, .pointer (some m)), (3, .int .i64 k), (8, .pointer (some (⟨j, 0, none⟩ : Addr))), (9, .int .i64 d), (10, .pointer (some (⟨f, 0, none⟩ : Addr)))] ⟨rfl, rfl, rfl, rfl, rfl, rfl, rfl, trivial⟩
     exact then_normal ⟨Sl.nil, gJ, cB, cA, gI⟩
   ·intro jD aH hm
    obtain ⟨z, cP, cQ, cR, gK⟩ := hm
    have gL := fK z aH gK
    refine then_normal (wp_seq (wp_seq (wp_region_lit ?_)))
    refine sqv cP rfl (r_move (cP.get rfl)) fun _ cS => ?_
    obtain ⟨gM, gN⟩ := gL
    refine sqv cS rfl (r_quoI (cS.get rfl) rfl (by decide) gM) fun _ cT => ?_
    refine sqv cT rfl (r_rem (cT.get rfl) rfl (by decide)) fun _ cU => ?_
    refine sqv cU rfl (r_eql (cU.get rfl) rfl) fun _ gO => ?_
    refine sq_end ?_
    have aa := gO.keep [(0, Sl.v n), (1, .pointer (some o)), (2, .pointer (some m)), (3, .int .i64 k), (8, .pointer (some (⟨j, 0, none⟩ : Addr))), (9, .int .i64 d), (10, .pointer (some (⟨f, 0, none⟩ : Addr))), (73, .bool (decide (((d.tdiv 28).tmod 5) = 0)))] ⟨rfl, rfl, rfl, rfl, rfl, rfl, rfl, rfl, trivial⟩
    refine then_normal ?_
    obtain ⟨aP, cX, gP⟩ := gN
    refine wp_meet (fun a w => ∃ x : Sl, Ag 109 a [(0, Sl.v n), (1, .pointer (some o)), (2, .pointer (some m)), (3, .int .i64 k), (8, .pointer (some (⟨j, 0, none⟩ : Addr))), (9, .int .i64 d), (10, .pointer (some (⟨f, 0, none⟩ : Addr)))] ∧ Box w j 29 [.int .i64 0, .string (Bs ([] : Str)), .string (Bs ([] : Str)), Sl.v Sl.nil, Sl.v Sl.nil] ∧ Box w f 29 [.int .i64 2, .string (Bs (([([98] : Str), ([112] : Str), ([100, 105, 118] : Str), ([108, 105] : Str)] : List Str).getD ((d.tdiv 7).tmod 4).toNat [])), .string (Bs ([] : Str)), Sl.v x, Sl.v Sl.nil] ∧ aP x w) ?_ ?_
    ·refine wp_cond_split (aa.get rfl) (fun hc => ?_) (fun hc => ?_)
     ·have gQ := cX.1 (of_decide_eq_true hc)
      clear hc
      refine draw' (by kernel_rfl) fun an bt => ?_
      have cY := cQ.ext bt
      have bu := cR.ext bt
      have gR : Chg [] aH an := bt
      have gS := gQ an    gR
      obtain ⟨gT, gU⟩ := gS
      obtain ⟨gV, gX⟩ := gU
      refine par (D := [[], [0], [], [2], [2, 3], [2, 3, 4], [2, 3, 4, 5], [2, 3, 4, 5, 6], [0, 1, 2, 3, 4, 5, 6, 7], [0, 1, 2, 3, 4, 5, 6, 7, 8], [0, 1, 2, 3, 4, 5, 6, 7, 8, 9]]) (S := [0, 1, 2, 3, 4, 5, 6, 7]) (F := []) (V := VL [(0, fun v _ => v = .pointer (some (⟨f, 3, none⟩ : Addr))), (1, fun v _ => v = Sl.v z), (2, fun v _ => v = .int .i64 d), (3, fun v _ => v = .int .i64 (d.tdiv 84)), (4, fun v _ => v = .int .i64 ((d.tdiv 84).tmod 3)), (5, fun v _ => v = .string (Bs (List.take ((d.tdiv 84).tmod 3).toNat ([117, 118] : Str)))), (6, fun v _ => v = .agg #[.string (Bs ([120] : Str)), .string (Bs (List.take ((d.tdiv 84).tmod 3).toNat ([117, 118] : Str)))]), (7, fun v w' => ∃ t : Nat, an.heap.size ≤ t ∧ Box w' t 65 [.string (Bs ([120] : Str)), .string (Bs (List.take ((d.tdiv 84).tmod 3).toNat ([117, 118] : Str)))] ∧ v = Sl.v (Sl.mk (some ⟨t, 0, none⟩) 1 1))]) aa (by kernel_rfl) ⟨fun _ _ _ _ h => h, fun _ _ _ _ h => h, fun _ _ _ _ h => h, fun _ _ _ _ h => h, fun _ _ _ _ h => h, fun _ _ _ _ h => h, fun _ _ _ _ h => h, fun _ _ _ hE ⟨t, h0_, h1_, e⟩ => ⟨t, h0_, (h1_.ext hE), e⟩, trivial⟩ ⟨?_, ?_, ?_, ?_, ?_, ?_, ?_, ?_, trivial⟩ ?_
      ·intro a w hT
       have hAp := hT.ag aa [(10, .pointer (some (⟨f, 0, none⟩ : Addr)))] ⟨rfl, trivial⟩ (by kernel_rfl)
       exact ovr hAp rfl (r_fieldAddr (hAp.get rfl) Try.underlying29 rfl ti_26 (by decide)) fun _ => Eq.refl _
      ·intro a w hT
       have hAp := hT.ag aa [] trivial (by kernel_rfl)
       have gY : a.tmps.getD 74 undef = .pointer (some (⟨f, 3, none⟩ : Addr)) := hT.vals 0 rfl 74 rfl
       have hAp := hAp.add gY
       exact ovr hAp rfl (r_load1 Try.underlying26 rfl (hAp.get rfl) ((bu.ext hT.chg).cell 3 _ rfl)) fun _ => Eq.refl _
      ·intro a w hT
       have hAp := hT.ag aa [(9, .int .i64 d)] ⟨rfl, trivial⟩ (by kernel_rfl)
       exact ovr hAp rfl (r_move (hAp.get rfl)) fun _ => Eq.refl _
      ·intro a w hT
       have hAp := hT.ag aa [] trivial (by kernel_rfl)
       have gZ : a.tmps.getD 76 undef = .int .i64 d := hT.vals 2 rfl 76 rfl
       have hAp := hAp.add gZ
       exact ovr hAp rfl (r_quoI (hAp.get rfl) rfl (by decide) gT) fun _ => Eq.refl _
      ·intro a w hT
       have hAp := hT.ag aa [] trivial (by kernel_rfl)
       have g0 : a.tmps.getD 77 undef = .int .i64 (d.tdiv 84) := hT.vals 3 rfl 77 rfl
       have hAp := hAp.add g0
       exact ovr hAp rfl (r_rem (hAp.get rfl) rfl (by decide)) fun _ => Eq.refl _
      ·intro a w hT
       have hAp := hT.ag aa [] trivial (by kernel_rfl)
       have g1 : a.tmps.getD 78 undef = .int .i64 ((d.tdiv 84).tmod 3) := hT.vals 4 rfl 78 rfl
       have hAp := hAp.add g1
       exact ovr hAp rfl (r_ssliceH rfl (hAp.get rfl) Try.underlying9 gV) fun _ => Eq.refl _
      ·intro a w hT
       have hAp := hT.ag aa [] trivial (by kernel_rfl)
       have g2 : a.tmps.getD 79 undef = .string (Bs (List.take ((d.tdiv 84).tmod 3).toNat ([117, 118] : Str))) := hT.vals 5 rfl 79 rfl
       have hAp := hAp.add g2
       exact ovr hAp rfl (r_build (vs := #[(0, .string (Bs ([120] : Str))), (1, .string (Bs (List.take ((d.tdiv 84).tmod 3).toNat ([117, 118] : Str))))]) (cells := #[.string (Bs ([120] : Str)), .string (Bs (List.take ((d.tdiv 84).tmod 3).toNat ([117, 118] : Str)))]) (map_arr2 (ml2_cons rfl (ml2_cons (hAp.get rfl) (ml2_nil)))) ti_65 Try.underlying65 pl_65 (by kernel_rfl)) fun _ => Eq.refl _
      ·intro a w hT
       have hAp := hT.ag aa [] trivial (by kernel_rfl)
       have g3 : a.tmps.getD 80 undef = .agg #[.string (Bs ([120] : Str)), .string (Bs (List.take ((d.tdiv 84).tmod 3).toNat ([117, 118] : Str)))] := hT.vals 6 rfl 80 rfl
       have hAp := hAp.add g3
       exact opk_new (fun B => .slice (some ⟨B, 0, none⟩) 1 1) hAp rfl (r_buildSlice (vs := #[(0, .agg #[.string (Bs ([120] : Str)), .string (Bs (List.take ((d.tdiv 84).tmod 3).toNat ([117, 118] : Str)))])]) (cs := [.string (Bs ([120] : Str)), .string (Bs (List.take ((d.tdiv 84).tmod 3).toNat ([117, 118] : Str)))]) (map_arr2 (ml2_cons (hAp.get rfl) (ml2_nil))) Try.underlying26 ti_65 rfl rfl (by kernel_rfl)) fun _ jF t g4 g5 g6 _ e => ⟨_, e, g4, fun _ => ⟨t, Nat.le_trans hT.chg.size g5.ge, g6, rfl⟩⟩
      ·intro g7 az a4 g8 cZ
       have g9 := g8 [(0, Sl.v n), (1, .pointer (some o)), (2, .pointer (some m)), (3, .int .i64 k), (8, .pointer (some (⟨j, 0, none⟩ : Addr))), (9, .int .i64 d), (10, .pointer (some (⟨f, 0, none⟩ : Addr)))] ⟨rfl, rfl, rfl, rfl, rfl, rfl, rfl, trivial⟩ (by kernel_rfl)
       have ha : g7.tmps.getD 75 undef = Sl.v z := cZ 1 rfl 75 rfl
       have hb := g9.add ha
       obtain ⟨t, bv, c0, hd⟩ := cZ 7 rfl 81 rfl
       have bx := hb.add hd
       have hf := cY.ext a4
       have hh := bu.ext a4
       have jG : Chg [] an az := a4
       have hi := gX az t a4 bv c0
       have jH : j ≠ t := Nat.ne_of_lt (Nat.lt_of_lt_of_le cY.lt bv)
       have jI : f ≠ t := Nat.ne_of_lt (Nat.lt_of_lt_of_le bu.lt bv)
       have hj := hi c0
       refine one (D := [[], [0], [], [2], [2, 3], [2, 3, 4], [2, 3, 4, 5], [2, 3, 4, 5, 6], [0, 1, 2, 3, 4, 5, 6, 7], [0, 1, 2, 3, 4, 5, 6, 7, 8], [0, 1, 2, 3, 4, 5, 6, 7, 8, 9]]) (i := 8) rfl (by kernel_rfl) (opk_run bx rfl (fun _ _ hr => r_append (bx.get rfl) (bx.get rfl) hr) hj fun jJ jK ba c1 _ c2 jL hk => ?_)
       obtain ⟨ao, rfl, hl⟩ := hk
       have hn := hf.kept c2 (.head _)
       have ho := hh.kept c2 (.tail _ (.head _))
       refine par (D := [[], [0], [], [2], [2, 3], [2, 3, 4], [2, 3, 4, 5], [2, 3, 4, 5, 6], [0, 1, 2, 3, 4, 5, 6, 7], [0, 1, 2, 3, 4, 5, 6, 7, 8], [0, 1, 2, 3, 4, 5, 6, 7, 8, 9]]) (S := [9]) (F := []) (V := VL [(9, fun v _ => v = .pointer (some (⟨f, 3, none⟩ : Addr)))]) c1 (by kernel_rfl) ⟨fun _ _ _ _ h => h, trivial⟩ ⟨?_, trivial⟩ ?_
       ·intro a w hT
        have hAp := hT.ag c1 [(10, .pointer (some (⟨f, 0, none⟩ : Addr)))] ⟨rfl, trivial⟩ (by kernel_rfl)
        exact ovr hAp rfl (r_fieldAddr (hAp.get rfl) Try.underlying29 rfl ti_26 (by decide)) fun _ => Eq.refl _
       ·intro hp hq bz hs ht
        have hu := hs [(0, Sl.v n), (1, .pointer (some o)), (2, .pointer (some m)), (3, .int .i64 k), (8, .pointer (some (⟨j, 0, none⟩ : Addr))), (9, .int .i64 d), (10, .pointer (some (⟨f, 0, none⟩ : Addr))), (82, Sl.v ao)] ⟨rfl, rfl, rfl, rfl, rfl, rfl, rfl, rfl, trivial⟩ (by kernel_rfl)
        have hv : hp.tmps.getD 83 undef = .pointer (some (⟨f, 3, none⟩ : Addr)) := ht 9 rfl 83 rfl
        have bA := hu.add hv
        have hx := hn.ext bz
        have c3 := ho.ext bz
        have hy : Chg [] ba hq := bz
        refine one (D := [[], [0], [], [2], [2, 3], [2, 3, 4], [2, 3, 4, 5], [2, 3, 4, 5, 6], [0, 1, 2, 3, 4, 5, 6, 7], [0, 1, 2, 3, 4, 5, 6, 7, 8], [0, 1, 2, 3, 4, 5, 6, 7, 8, 9]]) (i := 10) rfl (by kernel_rfl) (opk_store bA c3 (r_store (vs := [Sl.v ao]) (bA.get rfl) (bA.get rfl) rfl ti_26 c3 rfl (ones_all [Sl.v ao] rfl)) fun jM aQ c4 hz hA => ?_)
        have hB : Box aQ f 29 [.int .i64 2, .string (Bs (([([98] : Str), ([112] : Str), ([100, 105, 118] : Str), ([108, 105] : Str)] : List Str).getD ((d.tdiv 7).tmod 4).toNat [])), .string (Bs ([] : Str)), Sl.v ao, Sl.v Sl.nil] := hz
        have hC := hx.keep c4 (by simpa using aX)
        have hD := hy.storeOld c4
        refine PR_end (by kernel_rfl) ?_
        have hF := hA.keep [(0, Sl.v n), (1, .pointer (some o)), (2, .pointer (some m)), (3, .int .i64 k), (8, .pointer (some (⟨j, 0, none⟩ : Addr))), (9, .int .i64 d), (10, .pointer (some (⟨f, 0, none⟩ : Addr)))] ⟨rfl, rfl, rfl, rfl, rfl, rfl, rfl, trivial⟩
        have hG := hl aQ    hD
        have hH := hF.keep [(0, Sl.v n), (1, .pointer (some o)), (2, .pointer (some m)), (3, .int .i64 k), (8, .pointer (some (⟨j, 0, none⟩ : Addr))), (9, .int .i64 d), (10, .pointer (some (⟨f, 0, none⟩ : Addr)))] ⟨rfl, rfl, rfl, rfl, rfl, rfl, rfl, trivial⟩
        exact then_normal ⟨ao, hH, hC, hB, hG⟩
     ·have hI := cX.2 (of_decide_eq_false hc)
      clear hc
      refine wp_skip ?_
      have hJ := aa.keep [(0, Sl.v n), (1, .pointer (some o)), (2, .pointer (some m)), (3, .int .i64 k), (8, .pointer (some (⟨j, 0, none⟩ : Addr))), (9, .int .i64 d), (10, .pointer (some (⟨f, 0, none⟩ : Addr)))] ⟨rfl, rfl, rfl, rfl, rfl, rfl, rfl, trivial⟩
      exact then_normal ⟨z, hJ, cQ, cR, hI⟩
    ·intro jN aR hm
     obtain ⟨x, c5, hK, hL, hM⟩ := hm
     have hN := gP x aR hM
     refine then_normal (wp_seq (wp_seq (wp_region_lit ?_)))
     refine sqv c5 rfl (r_move (c5.get rfl)) fun _ c6 => ?_
     obtain ⟨hO, hP⟩ := hN
     refine sqv c6 rfl (r_quoI (c6.get rfl) rfl (by decide) hO) fun _ c7 => ?_
     refine sqv c7 rfl (r_rem (c7.get rfl) rfl (by decide)) fun _ c8 => ?_
     refine sqv c8 rfl (r_assign (c8.get rfl)) fun _ hQ => ?_
     refine sq_end ?_
     have hR := hQ.keep [(0, Sl.v n), (1, .pointer (some o)), (2, .pointer (some m)), (3, .int .i64 k), (8, .pointer (some (⟨j, 0, none⟩ : Addr))), (10, .pointer (some (⟨f, 0, none⟩ : Addr))), (11, .int .i64 ((d.tdiv 512).tmod 4))] ⟨rfl, rfl, rfl, rfl, rfl, rfl, rfl, trivial⟩
     refine then_normal (wp_block ?_)
     obtain ⟨aS, a1, hS, hU⟩ := hP
     refine wp_loop_st (σ := Int × Sl × World) (fun s a w => Ag 109 a [(0, Sl.v n), (1, .pointer (some o)), (2, .pointer (some m)), (3, .int .i64 k), (8, .pointer (some (⟨j, 0, none⟩ : Addr))), (10, .pointer (some (⟨f, 0, none⟩ : Addr))), (11, .int .i64 s.1)] ∧ Box w j 29 [.int .i64 0, .string (Bs ([] : Str)), .string (Bs ([] : Str)), Sl.v Sl.nil, Sl.v Sl.nil] ∧ Box w f 29 [.int .i64 2, .string (Bs (([([98] : Str), ([112] : Str), ([100, 105, 118] : Str), ([108, 105] : Str)] : List Str).getD ((d.tdiv 7).tmod 4).toNat [])), .string (Bs ([] : Str)), Sl.v x, Sl.v s.2.1] ∧ w = s.2.2 ∧ aS s.1 s.2.1 s.2.2) (fun s => a1 s.1 s.2.1 s.2.2) ((d.tdiv 512).tmod 4, Sl.nil, aR) ⟨hR.keep [(0, Sl.v n), (1, .pointer (some o)), (2, .pointer (some m)), (3, .int .i64 k), (8, .pointer (some (⟨j, 0, none⟩ : Addr))), (10, .pointer (some (⟨f, 0, none⟩ : Addr))), (11, .int .i64 ((d.tdiv 512).tmod 4))] ⟨rfl, rfl, rfl, rfl, rfl, rfl, rfl, trivial⟩, hK, hL, rfl, hS⟩ ?_
     rintro ⟨p, y, ah⟩ jO w_ ⟨c9, bB, bC, hw_, hV⟩
     have hw_ : ah = w_ := hw_.symm
     subst hw_
     have hX := hU p y _ hV
     refine wp_seq (wp_seq (wp_region_lit ?_))
     refine sqv c9 rfl (r_move (c9.get rfl)) fun _ da => ?_
     refine sqv da rfl (r_gtr (da.get rfl) rfl) fun _ db => ?_
     refine sqv db rfl (r_move (db.get rfl)) fun _ dc => ?_
     refine sq (opk_gval dc rfl rfl (g := true) (e := (decide (0 < p))) rfl (fun hg => r_move (dc.get rfl)) fun jP dd _ => ?_)
     refine sq (opk_gval dd rfl rfl (g := true) (e := (decide (0 < p))) rfl (fun hg => r_nilCheck (cv_get (dd.get rfl) hg)) fun jQ df _ => ?_)
     obtain ⟨aI, hY, dg⟩ := hX
     refine sq (opk_gval df rfl rfl (g := true) (e := (decide (0 < p))) rfl (fun hg => r_load1 Try.underlying3 rfl (cv_get (df.get rfl) hg) (hY (of_decide_eq_true (g_t hg)))) fun jR dh _ => ?_)
     refine sq (opk_gval dh rfl rfl (g := true) (e := (decide (0 < p))) rfl (fun hg => r_lss (cv_get (dh.get rfl) hg) rfl) fun jS bD _ => ?_)
     refine sqv bD rfl (r_pick_and (g := (true && ((decide (0 < p)) == true))) (bD.get rfl) (bD.get rfl) (fun he => g_mkt rfl he)) fun _ hZ => ?_
     refine sq_end ?_
     have ab := hZ.keep [(0, Sl.v n), (1, .pointer (some o)), (2, .pointer (some m)), (3, .int .i64 k), (8, .pointer (some (⟨j, 0, none⟩ : Addr))), (10, .pointer (some (⟨f, 0, none⟩ : Addr))), (11, .int .i64 p), (94, .bool ((decide (0 < p)) && (decide (aI < 40))))] ⟨rfl, rfl, rfl, rfl, rfl, rfl, rfl, rfl, trivial⟩
     refine then_normal ?_
     refine wp_cond_split (ab.get rfl) (fun hc => ?_) (fun hc => ?_)
     ·have h0 := dg.1 ⟨(of_decide_eq_true (b_and_t hc).1), (of_decide_eq_true (b_and_t hc).2)⟩
      clear hc
      refine wp_skip ?_
      refine then_normal (wp_seq (wp_block ?_))
      refine draw' (by kernel_rfl) fun aT bF => ?_
      have h1 := bB.ext bF
      have di := bC.ext bF
      have h2 : Chg [] ah aT := bF
      have h3 := h0 aT    h2
      obtain ⟨bG, h4⟩ := h3
      refine startF (D := [[], [0], [], [], [], [], [5], [2, 3, 4, 5, 6], [2, 3, 4, 5, 6, 7], [0, 1, 2, 3, 4, 5, 6, 7, 8], [0, 1, 2, 3, 4, 5, 6, 7, 8, 9], [0, 1, 2, 3, 4, 5, 6, 7, 8, 9, 10]]) (Fs := [0, 1, 2, 3, 4, 5, 6]) (Ef := [(0, fun v _ => v = .pointer (some (⟨f, 4, none⟩ : Addr))), (1, fun v _ => v = Sl.v y), (2, fun v _ => v = Sl.v n), (3, fun v _ => v = .pointer (some o)), (4, fun v _ => v = .pointer (some m)), (5, fun v _ => v = .int .i64 k), (6, fun v _ => v = .int .i64 (k + 1))]) (by kernel_rfl) ?_
      refine oneF (c := 7) ab rfl (by kernel_rfl) (constF ⟨fun _ _ _ h => h, fun _ _ _ h => h, fun _ _ _ h => h, fun _ _ _ h => h, fun _ _ _ h => h, fun _ _ _ h => h, fun _ _ _ h => h, trivial⟩) ⟨?_, ?_, ?_, ?_, ?_, ?_, ?_, trivial⟩ ?_
      ·intro a hT
       have hAp := hT.ag ab [(10, .pointer (some (⟨f, 0, none⟩ : Addr)))] ⟨rfl, trivial⟩ (by kernel_rfl)
       exact opk_val hAp rfl (r_fieldAddr (hAp.get rfl) Try.underlying29 rfl ti_27 (by decide)) fun _ _ e => ⟨_, e, rfl, fun _ => Eq.refl _⟩
      ·intro a hT
       have hAp := hT.ag ab [] trivial (by kernel_rfl)
       have h5 : a.tmps.getD 97 undef = .pointer (some (⟨f, 4, none⟩ : Addr)) := hT.vals 0 rfl 97 rfl
       have hAp := hAp.add h5
       exact opk_val hAp rfl (r_load1 Try.underlying27 rfl (hAp.get rfl) ((di.ext hT.chg).cell 4 _ rfl)) fun _ _ e => ⟨_, e, rfl, fun _ => Eq.refl _⟩
      ·intro a hT
       have hAp := hT.ag ab [(0, Sl.v n)] ⟨rfl, trivial⟩ (by kernel_rfl)
       exact opk_val hAp rfl (r_move (hAp.get rfl)) fun _ _ e => ⟨_, e, rfl, fun _ => Eq.refl _⟩
      ·intro a hT
       have hAp := hT.ag ab [(1, .pointer (some o))] ⟨rfl, trivial⟩ (by kernel_rfl)
       exact opk_val hAp rfl (r_move (hAp.get rfl)) fun _ _ e => ⟨_, e, rfl, fun _ => Eq.refl _⟩
      ·intro a hT
       have hAp := hT.ag ab [(2, .pointer (some m))] ⟨rfl, trivial⟩ (by kernel_rfl)
       exact opk_val hAp rfl (r_move (hAp.get rfl)) fun _ _ e => ⟨_, e, rfl, fun _ => Eq.refl _⟩
      ·intro a hT
       have hAp := hT.ag ab [(3, .int .i64 k)] ⟨rfl, trivial⟩ (by kernel_rfl)
       exact opk_val hAp rfl (r_move (hAp.get rfl)) fun _ _ e => ⟨_, e, rfl, fun _ => Eq.refl _⟩
      ·intro a hT
       have hAp := hT.ag ab [] trivial (by kernel_rfl)
       have h6 : a.tmps.getD 102 undef = .int .i64 k := hT.vals 5 rfl 102 rfl
       have hAp := hAp.add h6
       exact opk_val hAp rfl (r_addI (hAp.get rfl) rfl bG) fun _ _ e => ⟨_, e, rfl, fun _ => Eq.refl _⟩
      ·intro a5 hT
       have h7 := hT.ag ab [(0, Sl.v n), (1, .pointer (some o)), (2, .pointer (some m)), (3, .int .i64 k), (8, .pointer (some (⟨j, 0, none⟩ : Addr))), (10, .pointer (some (⟨f, 0, none⟩ : Addr))), (11, .int .i64 p), (94, .bool ((decide (0 < p)) && (decide (aI < 40))))] ⟨rfl, rfl, rfl, rfl, rfl, rfl, rfl, rfl, trivial⟩ (by kernel_rfl)
       have h8 : a5.tmps.getD 99 undef = Sl.v n := hT.vals 2 rfl 99 rfl
       have h9 := h7.add h8
       have ia : a5.tmps.getD 100 undef = .pointer (some o) := hT.vals 3 rfl 100 rfl
       have ib := h9.add ia
       have ig : a5.tmps.getD 101 undef = .pointer (some m) := hT.vals 4 rfl 101 rfl
       have ih := ib.add ig
       have ii : a5.tmps.getD 103 undef = .int .i64 (k + 1) := hT.vals 6 rfl 103 rfl
       have aY := ih.add ii
       refine (opk_call aY rfl (r_call (args := #[Sl.v n, .pointer (some o), .pointer (some m), .int .i64 (k + 1)]) Try.func55 (by decide) rfl (map_arr (ml_cons (aY.get rfl) (ml_cons (aY.get rfl) (ml_cons (aY.get rfl) (ml_cons (aY.get rfl) ml_nil))))) rfl) h4 fun jT jU aU aj ij dj jV ik => ?_)
       refine ⟨_, ij, ?_⟩
       obtain ⟨ap, aq, ar, au, av, rfl, il⟩ := ik
       have dk := h1.kept dj (.head _)
       have bH := di.kept dj (.tail _ (.head _))
       refine parF (D := [[], [0], [], [], [], [], [5], [2, 3, 4, 5, 6], [2, 3, 4, 5, 6, 7], [0, 1, 2, 3, 4, 5, 6, 7, 8], [0, 1, 2, 3, 4, 5, 6, 7, 8, 9], [0, 1, 2, 3, 4, 5, 6, 7, 8, 9, 10]]) (S := [8]) (F := []) (KE := [8]) (E := [(8, fun v w' => ∃ q : Nat, aU.heap.size ≤ q ∧ Box w' q 29 [.int .i64 ap, .string (Bs aq), .string (Bs ar), Sl.v au, Sl.v av] ∧ v = Sl.v (Sl.mk (some ⟨q, 0, none⟩) 1 1))]) aj rfl (by kernel_rfl) ⟨fun _ _ _ hE ⟨q, h0_, h1_, e⟩ => ⟨q, h0_, (h1_.ext hE), e⟩, fun _ _ _ _ h => h, fun _ _ _ _ h => h, fun _ _ _ _ h => h, fun _ _ _ _ h => h, fun _ _ _ _ h => h, fun _ _ _ _ h => h, fun _ _ _ _ h => h, trivial⟩ ⟨?_, ?_, ?_, ?_, ?_, ?_, ?_, ?_, trivial⟩ ?_
       ·intro a w hT
        have hAp := hT.ag aj [(104, .agg #[.int .i64 ap, .string (Bs aq), .string (Bs ar), Sl.v au, Sl.v av])] ⟨rfl, trivial⟩ (by kernel_rfl)
        exact opk_new (fun B => .slice (some ⟨B, 0, none⟩) 1 1) hAp rfl (r_buildSlice (vs := #[(0, .agg #[.int .i64 ap, .string (Bs aq), .string (Bs ar), Sl.v au, Sl.v av])]) (cs := [.int .i64 ap, .string (Bs aq), .string (Bs ar), Sl.v au, Sl.v av]) (map_arr2 (ml2_cons (hAp.get rfl) (ml2_nil))) Try.underlying27 ti_29 rfl rfl (by kernel_rfl)) fun _ jX q im io ip _ e => ⟨_, e, im, fun _ => ⟨q, Nat.le_trans hT.chg.size io.ge, ip, rfl⟩⟩
       ·intro a w hT
        have hAp := hT.ag aj [(10, .pointer (some (⟨f, 0, none⟩ : Addr)))] ⟨rfl, trivial⟩ (by kernel_rfl)
        exact ovr hAp rfl (r_fieldAddr (hAp.get rfl) Try.underlying29 rfl ti_27 (by decide)) fun _ => Eq.refl _
       ·intro a w hT
        have hAp := hT.ag aj [] trivial (by kernel_rfl)
        have iq : a.tmps.getD 97 undef = .pointer (some (⟨f, 4, none⟩ : Addr)) := hT.vals 0 rfl 97 rfl
        have hAp := hAp.add iq
        exact ovr hAp rfl (r_load1 Try.underlying27 rfl (hAp.get rfl) ((bH.ext hT.chg).cell 4 _ rfl)) fun _ => Eq.refl _
       ·intro a w hT
        have hAp := hT.ag aj [(0, Sl.v n)] ⟨rfl, trivial⟩ (by kernel_rfl)
        exact ovr hAp rfl (r_move (hAp.get rfl)) fun _ => Eq.refl _
       ·intro a w hT
        have hAp := hT.ag aj [(1, .pointer (some o))] ⟨rfl, trivial⟩ (by kernel_rfl)
        exact ovr hAp rfl (r_move (hAp.get rfl)) fun _ => Eq.refl _
       ·intro a w hT
        have hAp := hT.ag aj [(2, .pointer (some m))] ⟨rfl, trivial⟩ (by kernel_rfl)
        exact ovr hAp rfl (r_move (hAp.get rfl)) fun _ => Eq.refl _
       ·intro a w hT
        have hAp := hT.ag aj [(3, .int .i64 k)] ⟨rfl, trivial⟩ (by kernel_rfl)
        exact ovr hAp rfl (r_move (hAp.get rfl)) fun _ => Eq.refl _
       ·intro a w hT
        have hAp := hT.ag aj [] trivial (by kernel_rfl)
        have ir : a.tmps.getD 102 undef = .int .i64 k := hT.vals 5 rfl 102 rfl
        have hAp := hAp.add ir
        exact ovr hAp rfl (r_addI (hAp.get rfl) rfl bG) fun _ => Eq.refl _
       ·intro jY aA a6 it iu
        have iv := it [(0, Sl.v n), (1, .pointer (some o)), (2, .pointer (some m)), (3, .int .i64 k), (8, .pointer (some (⟨j, 0, none⟩ : Addr))), (10, .pointer (some (⟨f, 0, none⟩ : Addr))), (11, .int .i64 p)] ⟨rfl, rfl, rfl, rfl, rfl, rfl, rfl, trivial⟩ (by kernel_rfl)
        obtain ⟨q, bI, dl, ix⟩ := iu 8 rfl 105 rfl
        have ax := iv.add ix
        have iy := dk.ext a6
        have dm := bH.ext a6
        have jZ : Chg [] aU aA := a6
        have iz := il aA q a6 bI dl
        have j0 : j ≠ q := Nat.ne_of_lt (Nat.lt_of_lt_of_le dk.lt bI)
        have j1 : f ≠ q := Nat.ne_of_lt (Nat.lt_of_lt_of_le bH.lt bI)
        refine joinF ax (by kernel_rfl) ⟨fun _ _ _ _ h => h, fun _ _ _ _ h => h, fun _ _ _ _ h => h, fun _ _ _ _ h => h, fun _ _ _ _ h => h, fun _ _ _ _ h => h, fun _ _ _ _ h => h, trivial⟩ ⟨?_, ?_, ?_, ?_, ?_, ?_, ?_, trivial⟩ ?_
        ·intro a w hT
         have hAp := hT.ag ax [(10, .pointer (some (⟨f, 0, none⟩ : Addr)))] ⟨rfl, trivial⟩ (by kernel_rfl)
         exact ovr hAp rfl (r_fieldAddr (hAp.get rfl) Try.underlying29 rfl ti_27 (by decide)) fun _ => Eq.refl _
        ·intro a w hT
         have hAp := hT.ag ax [] trivial (by kernel_rfl)
         have iA : a.tmps.getD 97 undef = .pointer (some (⟨f, 4, none⟩ : Addr)) := hT.vals 0 rfl 97 rfl
         have hAp := hAp.add iA
         exact ovr hAp rfl (r_load1 Try.underlying27 rfl (hAp.get rfl) ((dm.ext hT.chg).cell 4 _ rfl)) fun _ => Eq.refl _
        ·intro a w hT
         have hAp := hT.ag ax [(0, Sl.v n)] ⟨rfl, trivial⟩ (by kernel_rfl)
         exact ovr hAp rfl (r_move (hAp.get rfl)) fun _ => Eq.refl _
        ·intro a w hT
         have hAp := hT.ag ax [(1, .pointer (some o))] ⟨rfl, trivial⟩ (by kernel_rfl)
         exact ovr hAp rfl (r_move (hAp.get rfl)) fun _ => Eq.refl _
        ·intro a w hT
         have hAp := hT.ag ax [(2, .pointer (some m))] ⟨rfl, trivial⟩ (by kernel_rfl)
         exact ovr hAp rfl (r_move (hAp.get rfl)) fun _ => Eq.refl _
        ·intro a w hT
         have hAp := hT.ag ax [(3, .int .i64 k)] ⟨rfl, trivial⟩ (by kernel_rfl)
         exact ovr hAp rfl (r_move (hAp.get rfl)) fun _ => Eq.refl _
        ·intro a w hT
         have hAp := hT.ag ax [] trivial (by kernel_rfl)
         have iB : a.tmps.getD 102 undef = .int .i64 k := hT.vals 5 rfl 102 rfl
         have hAp := hAp.add iB
         exact ovr hAp rfl (r_addI (hAp.get rfl) rfl bG) fun _ => Eq.refl _
        ·intro iC aJ hE815 iD iF
         have iG := iD [(0, Sl.v n), (1, .pointer (some o)), (2, .pointer (some m)), (3, .int .i64 k), (8, .pointer (some (⟨j, 0, none⟩ : Addr))), (10, .pointer (some (⟨f, 0, none⟩ : Addr))), (11, .int .i64 p), (105, Sl.v (Sl.mk (some ⟨q, 0, none⟩) 1 1))] ⟨rfl, rfl, rfl, rfl, rfl, rfl, rfl, rfl, trivial⟩ (by kernel_rfl)
         have iH : iC.tmps.getD 98 undef = Sl.v y := iF 1 rfl 98 rfl
         have bJ := iG.add iH
         have iI := iy.ext hE815
         have iJ := dm.ext hE815
         have iK := dl.ext hE815
         have iL : Chg [] aA aJ := hE815
         have iM := iz aJ    iL
         have iN := iM iK
         refine one (D := [[], [0], [], [], [], [], [5], [2, 3, 4, 5, 6], [2, 3, 4, 5, 6, 7], [0, 1, 2, 3, 4, 5, 6, 7, 8], [0, 1, 2, 3, 4, 5, 6, 7, 8, 9], [0, 1, 2, 3, 4, 5, 6, 7, 8, 9, 10]]) (i := 9) rfl (by kernel_rfl) (opk_run bJ rfl (fun _ _ hr => r_append (bJ.get rfl) (bJ.get rfl) hr) iN fun j2 j3 bb dn _ dp j4 iO => ?_)
         obtain ⟨ai, rfl, iP⟩ := iO
         have iQ := iI.kept dp (.head _)
         have iR := iJ.kept dp (.tail _ (.head _))
         refine par (D := [[], [0], [], [], [], [], [5], [2, 3, 4, 5, 6], [2, 3, 4, 5, 6, 7], [0, 1, 2, 3, 4, 5, 6, 7, 8], [0, 1, 2, 3, 4, 5, 6, 7, 8, 9], [0, 1, 2, 3, 4, 5, 6, 7, 8, 9, 10]]) (S := [10]) (F := []) (V := VL [(10, fun v _ => v = .pointer (some (⟨f, 4, none⟩ : Addr)))]) dn (by kernel_rfl) ⟨fun _ _ _ _ h => h, trivial⟩ ⟨?_, trivial⟩ ?_
         ·intro a w hT
          have hAp := hT.ag dn [(10, .pointer (some (⟨f, 0, none⟩ : Addr)))] ⟨rfl, trivial⟩ (by kernel_rfl)
          exact ovr hAp rfl (r_fieldAddr (hAp.get rfl) Try.underlying29 rfl ti_27 (by decide)) fun _ => Eq.refl _
         ·intro iS iT bK iU iV
          have iX := iU [(0, Sl.v n), (1, .pointer (some o)), (2, .pointer (some m)), (3, .int .i64 k), (8, .pointer (some (⟨j, 0, none⟩ : Addr))), (10, .pointer (some (⟨f, 0, none⟩ : Addr))), (11, .int .i64 p), (106, Sl.v ai)] ⟨rfl, rfl, rfl, rfl, rfl, rfl, rfl, rfl, trivial⟩ (by kernel_rfl)
          have iY : iS.tmps.getD 107 undef = .pointer (some (⟨f, 4, none⟩ : Addr)) := iV 10 rfl 107 rfl
          have bL := iX.add iY
          have iZ := iQ.ext bK
          have dq := iR.ext bK
          have i0 : Chg [] bb iT := bK
          refine one (D := [[], [0], [], [], [], [], [5], [2, 3, 4, 5, 6], [2, 3, 4, 5, 6, 7], [0, 1, 2, 3, 4, 5, 6, 7, 8], [0, 1, 2, 3, 4, 5, 6, 7, 8, 9], [0, 1, 2, 3, 4, 5, 6, 7, 8, 9, 10]]) (i := 11) rfl (by kernel_rfl) (opk_store bL dq (r_store (vs := [Sl.v ai]) (bL.get rfl) (bL.get rfl) rfl ti_27 dq rfl (ones_all [Sl.v ai] rfl)) fun j5 aB dr i1 i2 => ?_)
          have i3 : Box aB f 29 [.int .i64 2, .string (Bs (([([98] : Str), ([112] : Str), ([100, 105, 118] : Str), ([108, 105] : Str)] : List Str).getD ((d.tdiv 7).tmod 4).toNat [])), .string (Bs ([] : Str)), Sl.v x, Sl.v ai] := i1
          have i4 := iZ.keep dr (by simpa using aX)
          have i5 := i0.storeOld dr
          refine PR_end (by kernel_rfl) ?_
          have ds := i2.keep [(0, Sl.v n), (1, .pointer (some o)), (2, .pointer (some m)), (3, .int .i64 k), (8, .pointer (some (⟨j, 0, none⟩ : Addr))), (10, .pointer (some (⟨f, 0, none⟩ : Addr))), (11, .int .i64 p)] ⟨rfl, rfl, rfl, rfl, rfl, rfl, rfl, trivial⟩
          refine block_normal ?_
          refine then_normal (wp_region_lit ?_)
          refine sqv ds rfl (r_move (ds.get rfl)) fun _ dt => ?_
          obtain ⟨i6, i7⟩ := iP
          refine sqv dt rfl (r_subI (dt.get rfl) rfl i6) fun _ du => ?_
          refine sqv du rfl (r_assign (du.get rfl)) fun _ i8 => ?_
          refine sq_end ?_
          have i9 := i8.keep [(0, Sl.v n), (1, .pointer (some o)), (2, .pointer (some m)), (3, .int .i64 k), (8, .pointer (some (⟨j, 0, none⟩ : Addr))), (10, .pointer (some (⟨f, 0, none⟩ : Addr))), (11, .int .i64 (p - 1))] ⟨rfl, rfl, rfl, rfl, rfl, rfl, rfl, trivial⟩
          have dv := i7 aB    i5
          have ja := i9.keep [(0, Sl.v n), (1, .pointer (some o)), (2, .pointer (some m)), (3, .int .i64 k), (8, .pointer (some (⟨j, 0, none⟩ : Addr))), (10, .pointer (some (⟨f, 0, none⟩ : Addr))), (11, .int .i64 (p - 1))] ⟨rfl, rfl, rfl, rfl, rfl, rfl, rfl, trivial⟩
          exact then_normal ⟨(p - 1, ai, aB), ⟨ja, i4, i3, rfl, dv.1⟩, dv.2⟩
     ·have jb := dg.2 ((b_and_f hc).imp (fun h => (of_decide_eq_false h)) (fun h => (of_decide_eq_false h)))
      clear hc
      refine wp_exit ?_
      refine then_exit ?_
      refine then_exit ?_
      refine block_hit ?_
      have dx := ab.keep [(8, .pointer (some (⟨j, 0, none⟩ : Addr))), (10, .pointer (some (⟨f, 0, none⟩ : Addr)))] ⟨rfl, rfl, trivial⟩
      refine then_normal (wp_seq (wp_region_lit ?_))
      refine sqv dx rfl (r_loadN (cs := [.int .i64 2, .string (Bs (([([98] : Str), ([112] : Str), ([100, 105, 118] : Str), ([108, 105] : Str)] : List Str).getD ((d.tdiv 7).tmod 4).toNat [])), .string (Bs ([] : Str)), Sl.v x, Sl.v y]) Try.underlying29 rfl ti_29 (dx.get rfl) (bC.part 0 _ rfl)) fun _ bM => ?_
      refine sq (opk_store bM bB (r_store (vs := [.int .i64 2, .string (Bs (([([98] : Str), ([112] : Str), ([100, 105, 118] : Str), ([108, 105] : Str)] : List Str).getD ((d.tdiv 7).tmod 4).toNat [])), .string (Bs ([] : Str)), Sl.v x, Sl.v y]) (bM.get rfl) (bM.get rfl) rfl ti_29 bB rfl (ones_all [.int .i64 2, .string (Bs (([([98] : Str), ([112] : Str), ([100, 105, 118] : Str), ([108, 105] : Str)] : List Str).getD ((d.tdiv 7).tmod 4).toNat [])), .string (Bs ([] : Str)), Sl.v x, Sl.v y] rfl)) fun j6 aK dy jc jd => ?_)
      have jf : Box aK j 29 [.int .i64 2, .string (Bs (([([98] : Str), ([112] : Str), ([100, 105, 118] : Str), ([108, 105] : Str)] : List Str).getD ((d.tdiv 7).tmod 4).toNat [])), .string (Bs ([] : Str)), Sl.v x, Sl.v y] := jc
      have j7 := bC.keep dy (by simpa using aX.symm)
      have jg : Chg [j] ah aK := dy
      refine sq_end ?_
      have dz := jd.keep [(8, .pointer (some (⟨j, 0, none⟩ : Addr)))] ⟨rfl, trivial⟩
      refine then_normal ?_
      refine wp_ret ?_
      have jh := jb aK    jg
      exact res_all (vs := [.agg #[.int .i64 2, .string (Bs (([([98] : Str), ([112] : Str), ([100, 105, 118] : Str), ([108, 105] : Str)] : List Str).getD ((d.tdiv 7).tmod 4).toNat [])), .string (Bs ([] : Str)), Sl.v x, Sl.v y]]) rfl dz ⟨res_of_cell dz rfl jf Try.underlying29 rfl ti_29, trivial⟩ jh
end Go.Proofs.Ytghmgfkdnolcdaa
