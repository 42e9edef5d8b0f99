/-
  PRINTED BY PROGRAM: for each function its condition (vc), and that this suffices (ok).
-/
import Derived.Test.YtghmgfkdnolcdaaQApplySetsGT
namespace Go.Proofs.Ytghmgfkdnolcdaa
open Go.RowKit
set_option linter.unusedVariables false
set_option maxHeartbeats 1000000
set_option maxRecDepth 10000
def law23_ApplySets.vc (x : Sl) (R : Value → World → Prop) (w : World) : Prop :=
∀ (w7 : World) (m : Nat), New w m w7 → Chg [] w w7 →
∃ (aR : Sl → Int → Str → Str → Str → Str → Str → World → Prop) (aS : Sl → Int → Str → Str → Str → Str → Str → World → Nat),
aR Sl.nil 0 ([] : Str) ([] : Str) ([] : Str) ([] : Str) ([] : Str) w7 ∧
(∀ (af : Sl) (o : Int) (p : Str) (q : Str) (r : Str) (t : Str) (u : Str) (an : World), aR af o p q r t u an →
(((o < (x.n : Int)) ∧ (o < 30)) →
∀ (au : World), Chg [] an au →
∃ p_509 : Addr, (((0 : Int) ≤ o ∧ o < (x.n : Int)) ∧ x.a = some p_509) ∧
∃ (aT : Int), (au.cell? (p_509.add (o.toNat * 1)) = some (.int .i64 aT)) ∧
∃ (c : Int), (∀ w' : World, Ext au w' → Calls Try.prog 28 #[.int .i64 aT, .int .i64 5] w' (Ret fun v w'' => Ext w' w'' ∧ v = .int .i64 c)) ∧
∃ a1 : Addr, (((0 : Int) ≤ o ∧ o < (x.n : Int)) ∧ x.a = some a1) ∧
∃ (aA : Int), (au.cell? (a1.add (o.toNat * 1)) = some (.int .i64 aA)) ∧
(I64 (aA.tdiv 5)) ∧
∃ (aa : Int), (∀ w' : World, Ext au w' → Calls Try.prog 28 #[.int .i64 (aA.tdiv 5), .int .i64 4] w' (Ret fun v w'' => Ext w' w'' ∧ v = .int .i64 aa)) ∧
∀ (aM : World), Chg [] au aM →
(I64 (c + 1)) ∧
((0 : Int) ≤ c ∧ (c : Int) ≤ c + 1 ∧ c + 1 ≤ (([97, 98, 99, 100, 101] : Str).length : Int)) ∧
((0 : Int) ≤ min aa 3 ∧ min aa 3 ≤ (([120, 121, 122] : Str).length : Int)) ∧
∀ (aB : World) (ab : Nat), Ext aM aB → aM.heap.size ≤ ab → Box aB ab 48 [.int .i64 0, .int .i64 0, .int .i64 0, .int .i64 0, .int .i64 0, .string (Bs ([] : Str)), .string (Bs ([] : Str))] → 
∃ a2 : Int → Str → World → Prop,
(((aa = 0) →
((0 : Int) ≤ c ∧ c < 5) ∧
(((([p, q, r, t, u] : List Str).getD c.toNat []) = ([] : Str)) →
(I64 (o + 1)) ∧
∀ (ak : World), Chg [ab] aB ak →
aR af (o + 1) p q r t u ak ∧ aS af (o + 1) p q r t u ak < aS af o p q r t u an) ∧
((¬ ((([p, q, r, t, u] : List Str).getD c.toNat []) = ([] : Str))) →
∀ (a3 : World), Chg [ab] aB a3 →
a2 5 ([] : Str) a3)) ∧
((¬ (aa = 0)) →
∀ (ak : World), Chg [ab] aB ak →
a2 4 (List.take (min aa 3).toNat ([120, 121, 122] : Str)) ak)) ∧
(∀ (av : Int) (z : Str) (aU : World), a2 av z aU →
((0 : Int) ≤ c ∧ c < 5) ∧
∀ (aV : World) (aN : Nat), New aU aN aV → Chg [m] aU aV →
∀ (_ : Box aV aN 48 [.int .i64 av, .int .i64 1, .int .i64 0, .int .i64 0, .int .i64 0, .string (Bs ((List.drop c.toNat ([97, 98, 99, 100, 101] : Str)).take ((c + 1).toNat - c.toNat))), .string (Bs z)]),
RunK Try.prog (Builtin.append_ #[46, 46] 46 #[Sl.v af, Sl.v (Sl.mk (some ⟨aN, 0, none⟩) 1 1)]) aV [m, ab] (fun v w699 => ∃ (aI : Sl), v = Sl.v aI ∧
(I64 (o + 1)) ∧
aR aI (o + 1) ((([p, q, r, t, u] : List Str).set c.toNat z).getD 0 []) ((([p, q, r, t, u] : List Str).set c.toNat z).getD 1 []) ((([p, q, r, t, u] : List Str).set c.toNat z).getD 2 []) ((([p, q, r, t, u] : List Str).set c.toNat z).getD 3 []) ((([p, q, r, t, u] : List Str).set c.toNat z).getD 4 []) w699 ∧ aS aI (o + 1) ((([p, q, r, t, u] : List Str).set c.toNat z).getD 0 []) ((([p, q, r, t, u] : List Str).set c.toNat z).getD 1 []) ((([p, q, r, t, u] : List Str).set c.toNat z).getD 2 []) ((([p, q, r, t, u] : List Str).set c.toNat z).getD 3 []) ((([p, q, r, t, u] : List Str).set c.toNat z).getD 4 []) w699 < aS af o p q r t u an))) ∧
(((¬ (o < (x.n : Int))) ∨ (¬ (o < 30))) →
∀ (aJ : World) (ax : Nat), New an ax aJ → Chg [] an aJ →
∀ (_ : Box aJ ax 29 [.int .i64 2, .string (Bs ([112] : Str)), .string (Bs ([] : Str)), Sl.v Sl.nil, Sl.v Sl.nil]),
CallK Try.prog 38 #[.agg #[.int .i64 1, .string (Bs ([] : Str)), .string (Bs ([] : Str)), Sl.v Sl.nil, Sl.v (Sl.mk (some ⟨ax, 0, none⟩) 1 1)], Sl.v af] aJ [m] (fun v aO => ∃ (aC : Int) (aD : Str) (aF : Str) (aG : Sl) (ah : Sl) (bR : Int) (ao : Int), v = .tuple #[.agg #[.int .i64 aC, .string (Bs aD), .string (Bs aF), Sl.v aG, Sl.v ah], .int .i64 bR, .int .i64 ao] ∧
(((ao ≠ 0) ∨ ((ah.n : Int) ≠ 1)) →
∀ (al : World) (y : Nat), New aO y al → Chg [] aO al →
R (.bool false) al) ∧
(((¬ (ao ≠ 0)) ∧ (¬ ((ah.n : Int) ≠ 1))) →
∀ (al : World) (y : Nat), New aO y al → Chg [] aO al →
∃ (aX : Int → Int → World → Prop) (aY : Int → Int → World → Nat),
aX 0 0 al ∧
(∀ (b : Int) (j : Int) (aj : World), aX b j aj →
((j < 5) →
((0 : Int) ≤ j ∧ j < 5) ∧
(((([p, q, r, t, u] : List Str).getD j.toNat []) = ([] : Str)) →
(I64 (j + 1)) ∧
aX b (j + 1) aj ∧ aY b (j + 1) aj < aY b j aj) ∧
((¬ ((([p, q, r, t, u] : List Str).getD j.toNat []) = ([] : Str))) →
∀ (ay : World), Chg [] aj ay →
∃ aP : Addr, (((0 : Int) ≤ 0 ∧ 0 < (ah.n : Int)) ∧ ah.a = some aP) ∧
∃ (k : Sl), (ay.cell? ((aP.add (0 * 5)).add 3) = some (Sl.v k)) ∧
∃ aQ : Addr, (((¬ ((k.n : Int) ≤ b))) → ((0 : Int) ≤ 0 ∧ 0 < (ah.n : Int)) ∧ ah.a = some aQ) ∧
∃ (aZ : Sl), (((¬ ((k.n : Int) ≤ b))) → ay.cell? ((aQ.add (0 * 5)).add 3) = some (Sl.v aZ)) ∧
∃ a4 : Addr, (((¬ ((k.n : Int) ≤ b))) → ((0 : Int) ≤ b ∧ b < (aZ.n : Int)) ∧ aZ.a = some a4) ∧
∃ (ap : Str) (aq : Str), (((¬ ((k.n : Int) ≤ b))) → Cells ay (a4.add (b.toNat * 2)) [.string (Bs ap), .string (Bs aq)]) ∧
(((¬ ((k.n : Int) ≤ b))) → I64 (j + 1)) ∧
(((¬ ((k.n : Int) ≤ b))) → (0 : Int) ≤ j ∧ (j : Int) ≤ j + 1 ∧ j + 1 ≤ (([97, 98, 99, 100, 101] : Str).length : Int)) ∧
(((¬ ((k.n : Int) ≤ b))) → (0 : Int) ≤ j ∧ j < 5) ∧
((((k.n : Int) ≤ b) ∨ (¬ (ap = ((List.drop j.toNat ([97, 98, 99, 100, 101] : Str)).take ((j + 1).toNat - j.toNat)) ∧ aq = (([p, q, r, t, u] : List Str).getD j.toNat [])))) →
∀ (ar : World), Chg [] ay ar →
R (.bool false) ar) ∧
(((¬ ((k.n : Int) ≤ b)) ∧ (¬ (¬ (ap = ((List.drop j.toNat ([97, 98, 99, 100, 101] : Str)).take ((j + 1).toNat - j.toNat)) ∧ aq = (([p, q, r, t, u] : List Str).getD j.toNat []))))) →
(I64 (b + 1)) ∧
(I64 (j + 1)) ∧
∀ (ar : World), Chg [] ay ar →
aX (b + 1) (j + 1) ar ∧ aY (b + 1) (j + 1) ar < aY b j aj))) ∧
((¬ (j < 5)) →
((0 : Int) ≤ 0 ∧ 0 < (ah.n : Int)) ∧ ∃ bh : Addr, ah.a = some bh ∧
∃ (am : Sl), (aj.cell? ((bh.add (0 * 5)).add 3) = some (Sl.v am)) ∧
∃ (aK : Bool), (((b = (am.n : Int))) → Calls Try.prog 41 #[.agg #[.int .i64 aC, .string (Bs aD), .string (Bs aF), Sl.v aG, Sl.v ah]] aj (Ret fun v w' => Ext aj w' ∧ v = .bool aK)) ∧
(∀ aL : World, Ext aj aL →
∃ (a5 : Bool), ((((b = (am.n : Int)) ∧ (aK = true))) → Calls Try.prog 37 #[] aL (Ret fun v w' => Ext aL w' ∧ v = .bool a5)) ∧
(∀ a6 : World, Ext aL a6 →
R (.bool (((decide (b = (am.n : Int))) && aK) && a5)) a6))))))))
theorem law23_ApplySets.ok (x : Sl) {R : Value → World → Prop} {w : World} (bS : law23_ApplySets.vc x R w) : Calls Try.prog 11 #[Sl.v x] w (Ret R) := by
 refine enter [Sl.v x] Try.func11 rfl Try.ntmps11 rfl ?_
 intro a0 dY
 unfold law23_ApplySets.vc at bS
 refine wp_seq (wp_region_lit ?_)
 refine sqv dY rfl (r_assign rfl) fun _ dZ => ?_
 refine sq_end ?_
 have d0 := dZ.keep [(0, Sl.v x)] ⟨rfl, trivial⟩
 refine then_normal (wp_seq (wp_region_lit ?_))
 refine sqv d0 rfl (r_assign rfl) fun _ d1 => ?_
 refine sq_end ?_
 have d2 := d1.keep [(0, Sl.v x), (3, Sl.v Sl.nil)] ⟨rfl, rfl, trivial⟩
 refine then_normal (wp_seq (wp_region_lit ?_))
 refine sq (opk_new (fun B => .pointer (some ⟨B, 0, none⟩)) d2 rfl (r_alloc (cs := [.string (Bs ([] : Str)), .string (Bs ([] : Str)), .string (Bs ([] : Str)), .string (Bs ([] : Str)), .string (Bs ([] : Str))]) ti_63 rfl) fun a8 w7 m d3 d4 d5 d6 _ => ?_)
 have d7 : New w m w7 := d4
 have d8 : Chg [] w w7 := d3
 refine sq_end ?_
 have d9 := d6.keep [(0, Sl.v x), (3, Sl.v Sl.nil), (4, .pointer (some (⟨m, 0, none⟩ : Addr)))] ⟨rfl, rfl, rfl, trivial⟩
 refine then_normal (wp_seq (wp_seq (wp_region_lit ?_)))
 refine sqv d9 rfl (r_assign rfl) fun _ fa => ?_
 refine sq_end ?_
 have fb := fa.keep [(0, Sl.v x), (3, Sl.v Sl.nil), (4, .pointer (some (⟨m, 0, none⟩ : Addr))), (5, .int .i64 0)] ⟨rfl, rfl, rfl, rfl, trivial⟩
 refine then_normal (wp_block ?_)
 have fc := bS w7 m d7  d8
 obtain ⟨aR, aS, fd, ff⟩ := fc
 refine wp_loop_st (σ := Sl × Int × Str × Str × Str × Str × Str × World) (fun s a w => Ag 129 a [(0, Sl.v x), (3, Sl.v s.1), (4, .pointer (some (⟨m, 0, none⟩ : Addr))), (5, .int .i64 s.2.1)] ∧ Box w m 63 [.string (Bs s.2.2.1), .string (Bs s.2.2.2.1), .string (Bs s.2.2.2.2.1), .string (Bs s.2.2.2.2.2.1), .string (Bs s.2.2.2.2.2.2.1)] ∧ w = s.2.2.2.2.2.2.2 ∧ aR s.1 s.2.1 s.2.2.1 s.2.2.2.1 s.2.2.2.2.1 s.2.2.2.2.2.1 s.2.2.2.2.2.2.1 s.2.2.2.2.2.2.2) (fun s => aS s.1 s.2.1 s.2.2.1 s.2.2.2.1 s.2.2.2.2.1 s.2.2.2.2.2.1 s.2.2.2.2.2.2.1 s.2.2.2.2.2.2.2) (Sl.nil, 0, ([] : Str), ([] : Str), ([] : Str), ([] : Str), ([] : Str), w7) ⟨fb.keep [(0, Sl.v x), (3, Sl.v Sl.nil), (4, .pointer (some (⟨m, 0, none⟩ : Addr))), (5, .int .i64 0)] ⟨rfl, rfl, rfl, rfl, trivial⟩, d5, rfl, fd⟩ ?_
 rintro ⟨af, o, p, q, r, t, u, an⟩ jD w_ ⟨bT, bi, hw_, fg⟩
 have hw_ : an = w_ := hw_.symm
 subst hw_
 have bU := ff af o p q r t u _ fg
 refine wp_seq (wp_seq (wp_region_lit ?_))
 refine sqv bT rfl (r_move (bT.get rfl)) fun _ bV => ?_
 refine sqv bV rfl (r_move (bV.get rfl)) fun _ bX => ?_
 refine sqv bX rfl (r_len (bX.get rfl) Try.underlying36) fun _ bj => ?_
 refine sqv bj rfl (r_lss (bj.get rfl) (bj.get rfl)) fun _ bY => ?_
 refine sqv bY rfl (r_move (bY.get rfl)) fun _ bZ => ?_
 refine sq (opk_gval bZ rfl rfl (g := true) (e := (decide (o < (x.n : Int)))) rfl (fun hg => r_move (bZ.get rfl)) fun jF b0 _ => ?_)
 refine sq (opk_gval b0 rfl rfl (g := true) (e := (decide (o < (x.n : Int)))) rfl (fun hg => r_lss (cv_get (b0.get rfl) hg) rfl) fun jG bk _ => ?_)
 refine sqv bk rfl (r_pick_and (g := (true && ((decide (o < (x.n : Int))) == true))) (bk.get rfl) (bk.get rfl) (fun he => g_mkt rfl he)) fun _ fh => ?_
 refine sq_end ?_
 have ai := fh.keep [(0, Sl.v x), (3, Sl.v af), (4, .pointer (some (⟨m, 0, none⟩ : Addr))), (5, .int .i64 o), (21, .bool ((decide (o < (x.n : Int))) && (decide (o < 30))))] ⟨rfl, rfl, rfl, rfl, rfl, trivial⟩
 refine then_normal ?_
 refine wp_cond_split (ai.get rfl) (fun hc => ?_) (fun hc => ?_)
 ·have fi := bU.1 ⟨(of_decide_eq_true (b_and_t hc).1), (of_decide_eq_true (b_and_t hc).2)⟩
  clear hc
  refine wp_skip ?_
  refine then_normal (wp_seq (wp_block (wp_seq ?_)))
  refine draw' (by kernel_rfl) fun au b1 => ?_
  have fj := bi.ext b1
  have fk : Chg [] an au := b1
  have fl := fi au    fk
  obtain ⟨p_509, b2, fm⟩ := fl
  obtain ⟨aT, fn, fo⟩ := fm
  obtain ⟨c, fp, fq⟩ := fo
  obtain ⟨a1, b3, fr⟩ := fq
  obtain ⟨aA, fs, ft⟩ := fr
  obtain ⟨fu, fv⟩ := ft
  obtain ⟨aa, fx, fy⟩ := fv
  refine par (D := [[], [], [0, 1], [0, 1, 2], [0, 1, 2, 3], [], [], [5, 6], [5, 6, 7], [5, 6, 7, 8], [0, 1, 2, 3, 4, 5, 6, 7, 8, 9], [0, 1, 2, 3, 4, 5, 6, 7, 8, 9, 10], [0, 1, 2, 3, 4, 5, 6, 7, 8, 9, 10, 11]]) (S := [0, 1, 2, 3, 4, 5, 6, 7, 8, 9, 10, 11, 12]) (F := []) (V := VL [(0, fun v _ => v = Sl.v x), (1, fun v _ => v = .int .i64 o), (2, fun v _ => v = .pointer (some (p_509.add (o.toNat * 1)))), (3, fun v _ => v = .int .i64 aT), (4, fun v _ => v = .int .i64 c), (5, fun v _ => v = Sl.v x), (6, fun v _ => v = .int .i64 o), (7, fun v _ => v = .pointer (some (a1.add (o.toNat * 1)))), (8, fun v _ => v = .int .i64 aA), (9, fun v _ => v = .int .i64 (aA.tdiv 5)), (10, fun v _ => v = .int .i64 aa), (11, fun v _ => v = .int .i64 c), (12, fun v _ => v = .int .i64 aa)]) ai (by kernel_rfl) ⟨fun _ _ _ _ h => h, fun _ _ _ _ h => h, fun _ _ _ _ h => h, fun _ _ _ _ h => h, fun _ _ _ _ h => h, fun _ _ _ _ h => h, fun _ _ _ _ h => h, fun _ _ _ _ h => h, fun _ _ _ _ h => h, fun _ _ _ _ h => h, fun _ _ _ _ h => h, fun _ _ _ _ h => h, fun _ _ _ _ h => h, trivial⟩ ⟨?_, ?_, ?_, ?_, ?_, ?_, ?_, ?_, ?_, ?_, ?_, ?_, ?_, trivial⟩ ?_
  ·intro a w hT
   have hAp := hT.ag ai [(0, Sl.v x)] ⟨rfl, trivial⟩ (by kernel_rfl)
   exact ovr hAp rfl (r_move (hAp.get rfl)) fun _ => Eq.refl _
  ·intro a w hT
   have hAp := hT.ag ai [(5, .int .i64 o)] ⟨rfl, trivial⟩ (by kernel_rfl)
   exact ovr hAp rfl (r_move (hAp.get rfl)) fun _ => Eq.refl _
  ·intro a w hT
   have hAp := hT.ag ai [] trivial (by kernel_rfl)
   have fz : a.tmps.getD 24 undef = Sl.v x := hT.vals 0 rfl 24 rfl
   have hAp := hAp.add fz
   have fA : a.tmps.getD 25 undef = .int .i64 o := hT.vals 1 rfl 25 rfl
   have hAp := hAp.add fA
   exact ovr hAp rfl (r_indexAddr (hAp.get rfl) (hAp.get rfl) Try.underlying36 ti_3 b2.1 b2.2) fun _ => Eq.refl _
  ·intro a w hT
   have hAp := hT.ag ai [] trivial (by kernel_rfl)
   have fB : a.tmps.getD 26 undef = .pointer (some (p_509.add (o.toNat * 1))) := hT.vals 2 rfl 26 rfl
   have hAp := hAp.add fB
   exact ovr hAp rfl (r_load1 Try.underlying3 rfl (hAp.get rfl) (Ext.cell hT.chg fn)) fun _ => Eq.refl _
  ·intro a w hT
   have hAp := hT.ag ai [] trivial (by kernel_rfl)
   have fC : a.tmps.getD 27 undef = .int .i64 aT := hT.vals 3 rfl 27 rfl
   have hAp := hAp.add fC
   exact opk_callX hAp rfl (r_call (args := #[.int .i64 aT, .int .i64 5]) Try.func28 (by decide) rfl (map_arr (ml_cons (hAp.get rfl) (ml_cons rfl ml_nil))) rfl) (fp w hT.chg) fun _ _ _ _ e hR => ⟨_, e, hR.1, fun _ => hR.2⟩
  ·intro a w hT
   have hAp := hT.ag ai [(0, Sl.v x)] ⟨rfl, trivial⟩ (by kernel_rfl)
   exact ovr hAp rfl (r_move (hAp.get rfl)) fun _ => Eq.refl _
  ·intro a w hT
   have hAp := hT.ag ai [(5, .int .i64 o)] ⟨rfl, trivial⟩ (by kernel_rfl)
   exact ovr hAp rfl (r_move (hAp.get rfl)) fun _ => Eq.refl _
  ·intro a w hT
   have hAp := hT.ag ai [] trivial (by kernel_rfl)
   have fD : a.tmps.getD 29 undef = Sl.v x := hT.vals 5 rfl 29 rfl
   have hAp := hAp.add fD
   have fF : a.tmps.getD 30 undef = .int .i64 o := hT.vals 6 rfl 30 rfl
   have hAp := hAp.add fF
   exact ovr hAp rfl (r_indexAddr (hAp.get rfl) (hAp.get rfl) Try.underlying36 ti_3 b3.1 b3.2) fun _ => Eq.refl _
  ·intro a w hT
   have hAp := hT.ag ai [] trivial (by kernel_rfl)
   have fG : a.tmps.getD 31 undef = .pointer (some (a1.add (o.toNat * 1))) := hT.vals 7 rfl 31 rfl
   have hAp := hAp.add fG
   exact ovr hAp rfl (r_load1 Try.underlying3 rfl (hAp.get rfl) (Ext.cell hT.chg fs)) fun _ => Eq.refl _
  ·intro a w hT
   have hAp := hT.ag ai [] trivial (by kernel_rfl)
   have fH : a.tmps.getD 32 undef = .int .i64 aA := hT.vals 8 rfl 32 rfl
   have hAp := hAp.add fH
   exact ovr hAp rfl (r_quoI (hAp.get rfl) rfl (by decide) fu) fun _ => Eq.refl _
  ·intro a w hT
   have hAp := hT.ag ai [] trivial (by kernel_rfl)
   have fI : a.tmps.getD 33 undef = .int .i64 (aA.tdiv 5) := hT.vals 9 rfl 33 rfl
   have hAp := hAp.add fI
   exact opk_callX hAp rfl (r_call (args := #[.int .i64 (aA.tdiv 5), .int .i64 4]) Try.func28 (by decide) rfl (map_arr (ml_cons (hAp.get rfl) (ml_cons rfl ml_nil))) rfl) (fx w hT.chg) fun _ _ _ _ e hR => ⟨_, e, hR.1, fun _ => hR.2⟩
  ·intro a w hT
   have hAp := hT.ag ai [] trivial (by kernel_rfl)
   have fJ : a.tmps.getD 28 undef = .int .i64 c := hT.vals 4 rfl 28 rfl
   have hAp := hAp.add fJ
   exact ovr hAp rfl (r_assign (hAp.get rfl)) fun _ => Eq.refl _
  ·intro a w hT
   have hAp := hT.ag ai [] trivial (by kernel_rfl)
   have fK : a.tmps.getD 34 undef = .int .i64 aa := hT.vals 10 rfl 34 rfl
   have hAp := hAp.add fK
   exact ovr hAp rfl (r_assign (hAp.get rfl)) fun _ => Eq.refl _
  ·intro b4 fL b5 fM b6
   have fN := fM [(0, Sl.v x), (3, Sl.v af), (4, .pointer (some (⟨m, 0, none⟩ : Addr))), (5, .int .i64 o)] ⟨rfl, rfl, rfl, rfl, trivial⟩ (by kernel_rfl)
   have fO : b4.tmps.getD 6 undef = .int .i64 c := b6 11 rfl 6 rfl
   have fP := fN.add fO
   have fQ : b4.tmps.getD 7 undef = .int .i64 aa := b6 12 rfl 7 rfl
   have fR := fP.add fQ
   have fS := fj.ext b5
   have fT : Chg [] au fL := b5
   refine PR_end (by kernel_rfl) ?_
   have az := fR.keep [(0, Sl.v x), (3, Sl.v af), (4, .pointer (some (⟨m, 0, none⟩ : Addr))), (5, .int .i64 o), (6, .int .i64 c), (7, .int .i64 aa)] ⟨rfl, rfl, rfl, rfl, rfl, rfl, trivial⟩
   refine then_normal (wp_seq ?_)
   refine draw' (by kernel_rfl) fun aM b7 => ?_
   have b8 := fS.ext b7
   have fU := fT.more b7
   have fV := fy aM    fU
   obtain ⟨fX, fY⟩ := fV
   obtain ⟨fZ, f0⟩ := fY
   obtain ⟨f1, f2⟩ := f0
   refine par (D := [[], [], [1], [0, 1, 2], [], [4], [4, 5], [0, 1, 2, 3, 4, 5, 6], [], [0, 1, 2, 3, 4, 5, 6, 7, 8]]) (S := [0, 1, 2, 3, 4, 5, 6, 7, 8]) (F := []) (V := VL [(0, fun v _ => v = .int .i64 c), (1, fun v _ => v = .int .i64 c), (2, fun v _ => v = .int .i64 (c + 1)), (3, fun v _ => v = .string (Bs ((List.drop c.toNat ([97, 98, 99, 100, 101] : Str)).take ((c + 1).toNat - c.toNat)))), (4, fun v _ => v = .int .i64 aa), (5, fun v _ => v = .int .i64 (min aa 3)), (6, fun v _ => v = .string (Bs (List.take (min aa 3).toNat ([120, 121, 122] : Str)))), (7, fun v _ => v = .agg #[.int .i64 4, .int .i64 1, .int .i64 0, .int .i64 0, .int .i64 0, .string (Bs ((List.drop c.toNat ([97, 98, 99, 100, 101] : Str)).take ((c + 1).toNat - c.toNat))), .string (Bs (List.take (min aa 3).toNat ([120, 121, 122] : Str)))]), (8, fun v w' => ∃ ab : Nat, aM.heap.size ≤ ab ∧ Box w' ab 48 [.int .i64 0, .int .i64 0, .int .i64 0, .int .i64 0, .int .i64 0, .string (Bs ([] : Str)), .string (Bs ([] : Str))] ∧ v = .pointer (some (⟨ab, 0, none⟩ : Addr)))]) az (by kernel_rfl) ⟨fun _ _ _ _ h => h, fun _ _ _ _ h => h, fun _ _ _ _ h => h, fun _ _ _ _ h => h, fun _ _ _ _ h => h, fun _ _ _ _ h => h, fun _ _ _ _ h => h, fun _ _ _ _ h => h, fun _ _ _ hE ⟨ab, h0_, h1_, e⟩ => ⟨ab, h0_, (h1_.ext hE), e⟩, trivial⟩ ⟨?_, ?_, ?_, ?_, ?_, ?_, ?_, ?_, ?_, trivial⟩ ?_
   ·intro a w hT
    have hAp := hT.ag az [(6, .int .i64 c)] ⟨rfl, trivial⟩ (by kernel_rfl)
    exact ovr hAp rfl (r_move (hAp.get rfl)) fun _ => Eq.refl _
   ·intro a w hT
    have hAp := hT.ag az [(6, .int .i64 c)] ⟨rfl, trivial⟩ (by kernel_rfl)
    exact ovr hAp rfl (r_move (hAp.get rfl)) fun _ => Eq.refl _
   ·intro a w hT
    have hAp := hT.ag az [] trivial (by kernel_rfl)
    have f3 : a.tmps.getD 36 undef = .int .i64 c := hT.vals 1 rfl 36 rfl
    have hAp := hAp.add f3
    exact ovr hAp rfl (r_addI (hAp.get rfl) rfl fX) fun _ => Eq.refl _
   ·intro a w hT
    have hAp := hT.ag az [] trivial (by kernel_rfl)
    have f4 : a.tmps.getD 35 undef = .int .i64 c := hT.vals 0 rfl 35 rfl
    have hAp := hAp.add f4
    have f5 : a.tmps.getD 37 undef = .int .i64 (c + 1) := hT.vals 2 rfl 37 rfl
    have hAp := hAp.add f5
    exact ovr hAp rfl (r_sslice2 rfl (hAp.get rfl) (hAp.get rfl) Try.underlying9 fZ) fun _ => Eq.refl _
   ·intro a w hT
    have hAp := hT.ag az [(7, .int .i64 aa)] ⟨rfl, trivial⟩ (by kernel_rfl)
    exact ovr hAp rfl (r_move (hAp.get rfl)) fun _ => Eq.refl _
   ·intro a w hT
    have hAp := hT.ag az [] trivial (by kernel_rfl)
    have f6 : a.tmps.getD 39 undef = .int .i64 aa := hT.vals 4 rfl 39 rfl
    have hAp := hAp.add f6
    exact ovr hAp rfl (r_min (hAp.get rfl) rfl) fun _ => Eq.refl _
   ·intro a w hT
    have hAp := hT.ag az [] trivial (by kernel_rfl)
    have f7 : a.tmps.getD 40 undef = .int .i64 (min aa 3) := hT.vals 5 rfl 40 rfl
    have hAp := hAp.add f7
    exact ovr hAp rfl (r_ssliceH rfl (hAp.get rfl) Try.underlying9 f1) fun _ => Eq.refl _
   ·intro a w hT
    have hAp := hT.ag az [] trivial (by kernel_rfl)
    have f8 : a.tmps.getD 38 undef = .string (Bs ((List.drop c.toNat ([97, 98, 99, 100, 101] : Str)).take ((c + 1).toNat - c.toNat))) := hT.vals 3 rfl 38 rfl
    have hAp := hAp.add f8
    have f9 : a.tmps.getD 41 undef = .string (Bs (List.take (min aa 3).toNat ([120, 121, 122] : Str))) := hT.vals 6 rfl 41 rfl
    have hAp := hAp.add f9
    exact ovr hAp rfl (r_build (vs := #[(0, .int .i64 4), (1, .int .i64 1), (5, .string (Bs ((List.drop c.toNat ([97, 98, 99, 100, 101] : Str)).take ((c + 1).toNat - c.toNat)))), (6, .string (Bs (List.take (min aa 3).toNat ([120, 121, 122] : Str))))]) (cells := #[.int .i64 4, .int .i64 1, .int .i64 0, .int .i64 0, .int .i64 0, .string (Bs ((List.drop c.toNat ([97, 98, 99, 100, 101] : Str)).take ((c + 1).toNat - c.toNat))), .string (Bs (List.take (min aa 3).toNat ([120, 121, 122] : Str)))]) (map_arr2 (ml2_cons rfl (ml2_cons rfl (ml2_cons (hAp.get rfl) (ml2_cons (hAp.get rfl) (ml2_nil)))))) ti_48 Try.underlying48 pl_48 (by kernel_rfl)) fun _ => Eq.refl _
   ·intro a w hT
    have hAp := hT.ag az [] trivial (by kernel_rfl)
    exact opk_new (fun B => .pointer (some ⟨B, 0, none⟩)) hAp rfl (r_alloc (cs := [.int .i64 0, .int .i64 0, .int .i64 0, .int .i64 0, .int .i64 0, .string (Bs ([] : Str)), .string (Bs ([] : Str))]) ti_48 rfl) fun _ jH ab ga gb gc _ e => ⟨_, e, ga, fun _ => ⟨ab, Nat.le_trans hT.chg.size gb.ge, gc, rfl⟩⟩
   ·intro gd aB bl gf b9
    have gg := gf [(0, Sl.v x), (3, Sl.v af), (4, .pointer (some (⟨m, 0, none⟩ : Addr))), (5, .int .i64 o), (6, .int .i64 c), (7, .int .i64 aa)] ⟨rfl, rfl, rfl, rfl, rfl, rfl, trivial⟩ (by kernel_rfl)
    have gh : gd.tmps.getD 42 undef = .agg #[.int .i64 4, .int .i64 1, .int .i64 0, .int .i64 0, .int .i64 0, .string (Bs ((List.drop c.toNat ([97, 98, 99, 100, 101] : Str)).take ((c + 1).toNat - c.toNat))), .string (Bs (List.take (min aa 3).toNat ([120, 121, 122] : Str)))] := b9 7 rfl 42 rfl
    have gi := gg.add gh
    obtain ⟨ab, ca, bm, gj⟩ := b9 8 rfl 8 rfl
    have bn := gi.add gj
    have gk := b8.ext bl
    have jI : Chg [] aM aB := bl
    have gl := f2 aB ab bl ca bm
    have bo : m ≠ ab := Nat.ne_of_lt (Nat.lt_of_lt_of_le b8.lt ca)
    refine one (D := [[], [], [1], [0, 1, 2], [], [4], [4, 5], [0, 1, 2, 3, 4, 5, 6], [], [0, 1, 2, 3, 4, 5, 6, 7, 8]]) (i := 9) rfl (by kernel_rfl) (opk_store bn bm (r_store (vs := [.int .i64 4, .int .i64 1, .int .i64 0, .int .i64 0, .int .i64 0, .string (Bs ((List.drop c.toNat ([97, 98, 99, 100, 101] : Str)).take ((c + 1).toNat - c.toNat))), .string (Bs (List.take (min aa 3).toNat ([120, 121, 122] : Str)))]) (bn.get rfl) (bn.get rfl) rfl ti_48 bm rfl (ones_all [.int .i64 4, .int .i64 1, .int .i64 0, .int .i64 0, .int .i64 0, .string (Bs ((List.drop c.toNat ([97, 98, 99, 100, 101] : Str)).take ((c + 1).toNat - c.toNat))), .string (Bs (List.take (min aa 3).toNat ([120, 121, 122] : Str)))] rfl)) fun jJ ak cb gm gn => ?_)
    have a9 : Box ak ab 48 [.int .i64 4, .int .i64 1, .int .i64 0, .int .i64 0, .int .i64 0, .string (Bs ((List.drop c.toNat ([97, 98, 99, 100, 101] : Str)).take ((c + 1).toNat - c.toNat))), .string (Bs (List.take (min aa 3).toNat ([120, 121, 122] : Str)))] := gm
    have ba := gk.keep cb (by simpa using bo)
    have bp : Chg [ab] aB ak := cb
    refine PR_end (by kernel_rfl) ?_
    have cc := gn.keep [(0, Sl.v x), (3, Sl.v af), (4, .pointer (some (⟨m, 0, none⟩ : Addr))), (5, .int .i64 o), (6, .int .i64 c), (7, .int .i64 aa), (8, .pointer (some (⟨ab, 0, none⟩ : Addr)))] ⟨rfl, rfl, rfl, rfl, rfl, rfl, rfl, trivial⟩
    refine then_normal (wp_seq (wp_seq (wp_region_lit ?_)))
    refine sqv cc rfl (r_move (cc.get rfl)) fun _ cd => ?_
    refine sqv cd rfl (r_eql (cd.get rfl) rfl) fun _ go => ?_
    refine sq_end ?_
    have bb := go.keep [(0, Sl.v x), (3, Sl.v af), (4, .pointer (some (⟨m, 0, none⟩ : Addr))), (5, .int .i64 o), (6, .int .i64 c), (8, .pointer (some (⟨ab, 0, none⟩ : Addr))), (44, .bool (decide (aa = 0)))] ⟨rfl, rfl, rfl, rfl, rfl, rfl, rfl, trivial⟩
    refine then_normal ?_
    obtain ⟨a2, cf, gp⟩ := gl
    refine wp_meet (fun a w => ∃ av : Int, ∃ z : Str, Ag 129 a [(0, Sl.v x), (3, Sl.v af), (4, .pointer (some (⟨m, 0, none⟩ : Addr))), (5, .int .i64 o), (6, .int .i64 c), (8, .pointer (some (⟨ab, 0, none⟩ : Addr)))] ∧ Box w m 63 [.string (Bs p), .string (Bs q), .string (Bs r), .string (Bs t), .string (Bs u)] ∧ Box w ab 48 [.int .i64 av, .int .i64 1, .int .i64 0, .int .i64 0, .int .i64 0, .string (Bs ((List.drop c.toNat ([97, 98, 99, 100, 101] : Str)).take ((c + 1).toNat - c.toNat))), .string (Bs z)] ∧ a2 av z w) ?_ ?_
    ·refine wp_cond_split (bb.get rfl) (fun hc => ?_) (fun hc => ?_)
     ·have gq := cf.1 (of_decide_eq_true hc)
      clear hc
      refine wp_seq (wp_seq (wp_region_lit ?_))
      refine sqv bb rfl (r_move (bb.get rfl)) fun _ bq => ?_
      obtain ⟨cg, ch⟩ := gq
      refine sqv bq rfl (r_indexAddrA (bq.get rfl) (bq.get rfl) Try.underlying63 ti_9 cg) fun _ ci => ?_
      refine sqv ci rfl (r_load1 Try.underlying9 rfl (ci.get rfl) (Box.cellA ([p, q, r, t, u] : List Str) (fun s => Value.string (Bs s)) [] ba rfl rfl cg)) fun _ cj => ?_
      refine sqv cj rfl (r_seql (cj.get rfl) rfl) fun _ gr => ?_
      refine sq_end ?_
      have bd := gr.keep [(0, Sl.v x), (3, Sl.v af), (4, .pointer (some (⟨m, 0, none⟩ : Addr))), (5, .int .i64 o), (6, .int .i64 c), (8, .pointer (some (⟨ab, 0, none⟩ : Addr))), (48, .bool (decide ((([p, q, r, t, u] : List Str).getD c.toNat []) = ([] : Str))))] ⟨rfl, rfl, rfl, rfl, rfl, rfl, rfl, trivial⟩
      refine then_normal ?_
      refine wp_cond_split (bd.get rfl) (fun hc => ?_) (fun hc => ?_)
      ·have gs := ch.1 (of_decide_eq_true hc)
       clear hc
       refine wp_exit ?_
       refine then_exit ?_
       refine then_exit ?_
       refine then_exit ?_
       refine block_hit ?_
       have ck := bd.keep [(0, Sl.v x), (3, Sl.v af), (4, .pointer (some (⟨m, 0, none⟩ : Addr))), (5, .int .i64 o)] ⟨rfl, rfl, rfl, rfl, trivial⟩
       refine then_normal (wp_region_lit ?_)
       refine sqv ck rfl (r_move (ck.get rfl)) fun _ cl => ?_
       obtain ⟨gu, gv⟩ := gs
       refine sqv cl rfl (r_addI (cl.get rfl) rfl gu) fun _ cm => ?_
       refine sqv cm rfl (r_assign (cm.get rfl)) fun _ gx => ?_
       refine sq_end ?_
       have gy := gx.keep [(0, Sl.v x), (3, Sl.v af), (4, .pointer (some (⟨m, 0, none⟩ : Addr))), (5, .int .i64 (o + 1))] ⟨rfl, rfl, rfl, rfl, trivial⟩
       have cn := gv ak    bp
       have gz := gy.keep [(0, Sl.v x), (3, Sl.v af), (4, .pointer (some (⟨m, 0, none⟩ : Addr))), (5, .int .i64 (o + 1))] ⟨rfl, rfl, rfl, rfl, trivial⟩
       exact then_normal ⟨(af, o + 1, p, q, r, t, u, ak), ⟨gz, ba, rfl, cn.1⟩, cn.2⟩
      ·have gA := ch.2 (of_decide_eq_false hc)
       clear hc
       refine wp_skip ?_
       refine then_normal (wp_region_lit ?_)
       refine sqv bd rfl (r_fieldAddr (bd.get rfl) Try.underlying48 rfl ti_9 (by decide)) fun _ co => ?_
       refine sqv co rfl (r_load1 Try.underlying9 rfl (co.get rfl) (a9.cell 5 _ rfl)) fun _ cp => ?_
       refine sqv cp rfl (r_build (vs := #[(0, .int .i64 5), (1, .int .i64 1), (5, .string (Bs ((List.drop c.toNat ([97, 98, 99, 100, 101] : Str)).take ((c + 1).toNat - c.toNat))))]) (cells := #[.int .i64 5, .int .i64 1, .int .i64 0, .int .i64 0, .int .i64 0, .string (Bs ((List.drop c.toNat ([97, 98, 99, 100, 101] : Str)).take ((c + 1).toNat - c.toNat))), .string (Bs ([] : Str))]) (map_arr2 (ml2_cons rfl (ml2_cons rfl (ml2_cons (cp.get rfl) (ml2_nil))))) ti_48 Try.underlying48 pl_48 (by kernel_rfl)) fun _ br => ?_
       refine sq (opk_store br a9 (r_store (vs := [.int .i64 5, .int .i64 1, .int .i64 0, .int .i64 0, .int .i64 0, .string (Bs ((List.drop c.toNat ([97, 98, 99, 100, 101] : Str)).take ((c + 1).toNat - c.toNat))), .string (Bs ([] : Str))]) (br.get rfl) (br.get rfl) rfl ti_48 a9 rfl (ones_all [.int .i64 5, .int .i64 1, .int .i64 0, .int .i64 0, .int .i64 0, .string (Bs ((List.drop c.toNat ([97, 98, 99, 100, 101] : Str)).take ((c + 1).toNat - c.toNat))), .string (Bs ([] : Str))] rfl)) fun jK a3 cq gB gC => ?_)
       have gD : Box a3 ab 48 [.int .i64 5, .int .i64 1, .int .i64 0, .int .i64 0, .int .i64 0, .string (Bs ((List.drop c.toNat ([97, 98, 99, 100, 101] : Str)).take ((c + 1).toNat - c.toNat))), .string (Bs ([] : Str))] := gB
       have gF := ba.keep cq (by simpa using bo)
       have gG := bp.storeIn (by simp) cq
       refine sq_end ?_
       have gH := gC.keep [(0, Sl.v x), (3, Sl.v af), (4, .pointer (some (⟨m, 0, none⟩ : Addr))), (5, .int .i64 o), (6, .int .i64 c), (8, .pointer (some (⟨ab, 0, none⟩ : Addr)))] ⟨rfl, rfl, rfl, rfl, rfl, rfl, trivial⟩
       have gI := gA a3    gG
       have gJ := gH.keep [(0, Sl.v x), (3, Sl.v af), (4, .pointer (some (⟨m, 0, none⟩ : Addr))), (5, .int .i64 o), (6, .int .i64 c), (8, .pointer (some (⟨ab, 0, none⟩ : Addr)))] ⟨rfl, rfl, rfl, rfl, rfl, rfl, trivial⟩
       exact then_normal ⟨5, ([] : Str), gJ, gF, gD, gI⟩
     ·have gK := cf.2 (of_decide_eq_false hc)
      clear hc
      refine wp_skip ?_
      have gL := gK ak    bp
      have gM := bb.keep [(0, Sl.v x), (3, Sl.v af), (4, .pointer (some (⟨m, 0, none⟩ : Addr))), (5, .int .i64 o), (6, .int .i64 c), (8, .pointer (some (⟨ab, 0, none⟩ : Addr)))] ⟨rfl, rfl, rfl, rfl, rfl, rfl, trivial⟩
      exact then_normal ⟨4, List.take (min aa 3).toNat ([120, 121, 122] : Str), gM, ba, a9, gL⟩
    ·intro jL aU hm
     obtain ⟨av, z, cr, ct, cu, gN⟩ := hm
     have gO := gp av z aU gN
     refine then_normal (wp_seq (wp_region_lit ?_))
     refine sqv cr rfl (r_move (cr.get rfl)) fun _ cv => ?_
     refine sqv cv rfl (r_fieldAddr (cv.get rfl) Try.underlying48 rfl ti_9 (by decide)) fun _ cx => ?_
     refine sqv cx rfl (r_load1 Try.underlying9 rfl (cx.get rfl) (cu.cell 6 _ rfl)) fun _ bs => ?_
     obtain ⟨bt, gP⟩ := gO
     refine sqv bs rfl (r_indexAddrA (bs.get rfl) (bs.get rfl) Try.underlying63 ti_9 bt) fun _ bu => ?_
     refine sq (opk_store bu ct (r_store (vs := [.string (Bs z)]) (((bu.get rfl)).trans (congrArg (fun a => Value.pointer (some a)) (Addr.addA _ _))) (bu.get rfl) rfl ti_9 ct (Nat.ble_eq_true_of_le (show c.toNat + 1 ≤ 5 by have hs_ := bt; omega)) (ones_all [.string (Bs z)] rfl)) fun jM cy cz gQ gR => ?_)
     have cA : Box cy m 63 [.string (Bs ((([p, q, r, t, u] : List Str).set c.toNat z).getD 0 [])), .string (Bs ((([p, q, r, t, u] : List Str).set c.toNat z).getD 1 [])), .string (Bs ((([p, q, r, t, u] : List Str).set c.toNat z).getD 2 [])), .string (Bs ((([p, q, r, t, u] : List Str).set c.toNat z).getD 3 [])), .string (Bs ((([p, q, r, t, u] : List Str).set c.toNat z).getD 4 []))] := Box.setA (l := ([p, q, r, t, u] : List Str)) (f := (fun s => Value.string (Bs s))) (d := []) gQ rfl rfl bt
     have bv := cu.keep cz (by simpa using bo.symm)
     have cB : Chg [m] aU cy := cz
     refine sq_end ?_
     have cC := gR.keep [(0, Sl.v x), (3, Sl.v af), (4, .pointer (some (⟨m, 0, none⟩ : Addr))), (5, .int .i64 o), (8, .pointer (some (⟨ab, 0, none⟩ : Addr)))] ⟨rfl, rfl, rfl, rfl, rfl, trivial⟩
     refine then_normal (wp_region_lit ?_)
     refine sqv cC rfl (r_move (cC.get rfl)) fun _ cD => ?_
     refine sqv cD rfl (r_loadN (cs := [.int .i64 av, .int .i64 1, .int .i64 0, .int .i64 0, .int .i64 0, .string (Bs ((List.drop c.toNat ([97, 98, 99, 100, 101] : Str)).take ((c + 1).toNat - c.toNat))), .string (Bs z)]) Try.underlying48 rfl ti_48 (cD.get rfl) (bv.part 0 _ rfl)) fun _ cF => ?_
     refine sq (opk_new (fun B => .slice (some ⟨B, 0, none⟩) 1 1) cF rfl (r_buildSlice (vs := #[(0, .agg #[.int .i64 av, .int .i64 1, .int .i64 0, .int .i64 0, .int .i64 0, .string (Bs ((List.drop c.toNat ([97, 98, 99, 100, 101] : Str)).take ((c + 1).toNat - c.toNat))), .string (Bs z)])]) (cs := [.int .i64 av, .int .i64 1, .int .i64 0, .int .i64 0, .int .i64 0, .string (Bs ((List.drop c.toNat ([97, 98, 99, 100, 101] : Str)).take ((c + 1).toNat - c.toNat))), .string (Bs z)]) (map_arr2 (ml2_cons (cF.get rfl) (ml2_nil))) Try.underlying46 ti_48 rfl rfl (by kernel_rfl)) fun jN aV aN bx bz gS bA _ => ?_)
     have jO : m ≠ aN := Nat.ne_of_lt (Nat.lt_of_lt_of_le cA.lt bz.ge)
     have jP : ab ≠ aN := Nat.ne_of_lt (Nat.lt_of_lt_of_le bv.lt bz.ge)
     have gT := New.of cB bz
     have gU := cA.ext bx
     have gV := bv.ext bx
     have gX := cB.more bx
     have gY := gP aV aN gT  gX
     have gZ := gY gS
     refine sq (opk_run bA rfl (fun _ _ hr => r_append (bA.get rfl) (bA.get rfl) hr) gZ fun jQ jR w699 cG _ cH jS g0 => ?_)
     obtain ⟨aI, rfl, g1⟩ := g0
     have g2 := gU.kept cH (.head _)
     have jT := gV.kept cH (.tail _ (.head _))
     refine sqv cG rfl (r_assign (cG.get rfl)) fun _ g3 => ?_
     refine sq_end ?_
     have cI := g3.keep [(0, Sl.v x), (3, Sl.v aI), (4, .pointer (some (⟨m, 0, none⟩ : Addr))), (5, .int .i64 o)] ⟨rfl, rfl, rfl, rfl, trivial⟩
     refine block_normal ?_
     refine then_normal (wp_region_lit ?_)
     refine sqv cI rfl (r_move (cI.get rfl)) fun _ cJ => ?_
     obtain ⟨g4, cK⟩ := g1
     refine sqv cJ rfl (r_addI (cJ.get rfl) rfl g4) fun _ cL => ?_
     refine sqv cL rfl (r_assign (cL.get rfl)) fun _ g5 => ?_
     refine sq_end ?_
     have g6 := g5.keep [(0, Sl.v x), (3, Sl.v aI), (4, .pointer (some (⟨m, 0, none⟩ : Addr))), (5, .int .i64 (o + 1))] ⟨rfl, rfl, rfl, rfl, trivial⟩
     have g7 := g6.keep [(0, Sl.v x), (3, Sl.v aI), (4, .pointer (some (⟨m, 0, none⟩ : Addr))), (5, .int .i64 (o + 1))] ⟨rfl, rfl, rfl, rfl, trivial⟩
     exact then_normal ⟨(aI, o + 1, ((([p, q, r, t, u] : List Str).set c.toNat z).getD 0 []), ((([p, q, r, t, u] : List Str).set c.toNat z).getD 1 []), ((([p, q, r, t, u] : List Str).set c.toNat z).getD 2 []), ((([p, q, r, t, u] : List Str).set c.toNat z).getD 3 []), ((([p, q, r, t, u] : List Str).set c.toNat z).getD 4 []), w699), ⟨g7, g2, rfl, cK.1⟩, cK.2⟩
 ·have g8 := bU.2 ((b_and_f hc).imp (fun h => (of_decide_eq_false h)) (fun h => (of_decide_eq_false h)))
  clear hc
  refine wp_exit ?_
  refine then_exit ?_
  refine then_exit ?_
  refine block_hit ?_
  have g9 := ai.keep [(3, Sl.v af), (4, .pointer (some (⟨m, 0, none⟩ : Addr)))] ⟨rfl, rfl, trivial⟩
  refine then_normal (wp_seq (wp_region_lit ?_))
  refine sqv g9 rfl (r_build (vs := #[(0, .int .i64 2), (1, .string (Bs ([112] : Str)))]) (cells := #[.int .i64 2, .string (Bs ([112] : Str)), .string (Bs ([] : Str)), Sl.v Sl.nil, Sl.v Sl.nil]) (map_arr2 (ml2_cons rfl (ml2_cons rfl (ml2_nil)))) ti_29 Try.underlying29 pl_29 (by kernel_rfl)) fun _ cM => ?_
  refine sq (opk_new (fun B => .slice (some ⟨B, 0, none⟩) 1 1) cM rfl (r_buildSlice (vs := #[(0, .agg #[.int .i64 2, .string (Bs ([112] : Str)), .string (Bs ([] : Str)), Sl.v Sl.nil, Sl.v Sl.nil])]) (cs := [.int .i64 2, .string (Bs ([112] : Str)), .string (Bs ([] : Str)), Sl.v Sl.nil, Sl.v Sl.nil]) (map_arr2 (ml2_cons (cM.get rfl) (ml2_nil))) Try.underlying27 ti_29 rfl rfl (by kernel_rfl)) fun jU aJ ax cN cO ha cP _ => ?_)
  have jV : m ≠ ax := Nat.ne_of_lt (Nat.lt_of_lt_of_le bi.lt cO.ge)
  have hb : New an ax aJ := cO
  have hd := bi.ext cN
  have hf : Chg [] an aJ := cN
  refine sqv cP rfl (r_build (vs := #[(0, .int .i64 1), (4, Sl.v (Sl.mk (some ⟨ax, 0, none⟩) 1 1))]) (cells := #[.int .i64 1, .string (Bs ([] : Str)), .string (Bs ([] : Str)), Sl.v Sl.nil, Sl.v (Sl.mk (some ⟨ax, 0, none⟩) 1 1)]) (map_arr2 (ml2_cons rfl (ml2_cons (cP.get rfl) (ml2_nil)))) ti_29 Try.underlying29 pl_29 (by kernel_rfl)) fun _ cQ => ?_
  refine sqv cQ rfl (r_move (cQ.get rfl)) fun _ bB => ?_
  have hh := g8 aJ ax hb  hf
  have hi := hh ha
  refine sq (opk_call bB rfl (r_call (args := #[.agg #[.int .i64 1, .string (Bs ([] : Str)), .string (Bs ([] : Str)), Sl.v Sl.nil, Sl.v (Sl.mk (some ⟨ax, 0, none⟩) 1 1)], Sl.v af]) Try.func38 (by decide) rfl (map_arr (ml_cons (bB.get rfl) (ml_cons (bB.get rfl) ml_nil))) rfl) hi fun jX jY aO cR _ hj jZ hk => ?_)
  obtain ⟨aC, aD, aF, aG, ah, bR, ao, rfl, cS⟩ := hk
  have cT := hd.kept hj (.head _)
  refine sqv cR rfl (r_move (cR.get rfl)) fun _ cU => ?_
  refine sqv cU rfl (r_extract (cU.get rfl) rfl) fun _ cX => ?_
  refine sqv cX rfl (r_extract (cX.get rfl) rfl) fun _ cY => ?_
  refine sqv cY rfl (r_extract (cY.get rfl) rfl) fun _ hl => ?_
  refine sq (opk_new (fun B => .pointer (some ⟨B, 0, none⟩)) hl rfl (r_alloc (cs := [.int .i64 0, .string (Bs ([] : Str)), .string (Bs ([] : Str)), Sl.v Sl.nil, Sl.v Sl.nil]) ti_29 rfl) fun j0 cZ y c0 c1 c2 bC _ => ?_)
  have hn : m ≠ y := Nat.ne_of_lt (Nat.lt_of_lt_of_le cT.lt c1.ge)
  have c3 : New aO y cZ := c1
  have ho := cT.ext c0
  have hp : Chg [] aO cZ := c0
  refine sq (opk_store bC c2 (r_store (vs := [.int .i64 aC, .string (Bs aD), .string (Bs aF), Sl.v aG, Sl.v ah]) (bC.get rfl) (bC.get rfl) rfl ti_29 c2 rfl (ones_all [.int .i64 aC, .string (Bs aD), .string (Bs aF), Sl.v aG, Sl.v ah] rfl)) fun j1 al bD hq c4 => ?_)
  have c5 : Box al y 29 [.int .i64 aC, .string (Bs aD), .string (Bs aF), Sl.v aG, Sl.v ah] := hq
  have hs := ho.keep bD (by simpa using hn)
  have c6 := hp.storeNew c3 bD
  have c7 := c3.up bD.size
  refine sqv c4 rfl (r_assign (c4.get rfl)) fun _ c8 => ?_
  refine sqv c8 rfl (r_assign (c8.get rfl)) fun _ ht => ?_
  refine sq_end ?_
  have c9 := ht.keep [(4, .pointer (some (⟨m, 0, none⟩ : Addr))), (9, .pointer (some (⟨y, 0, none⟩ : Addr))), (11, .int .i64 ao)] ⟨rfl, rfl, rfl, trivial⟩
  refine then_normal (wp_seq (wp_seq (wp_region_lit ?_)))
  refine sqv c9 rfl (r_move (c9.get rfl)) fun _ da => ?_
  refine sqv da rfl (r_neq (da.get rfl) rfl) fun _ db => ?_
  refine sqv db rfl (r_move (db.get rfl)) fun _ dc => ?_
  refine sq (opk_gval dc rfl rfl (g := true) (e := (decide (ao ≠ 0))) rfl (fun hg => r_fieldAddr (dc.get rfl) Try.underlying29 rfl ti_27 (by decide)) fun j2 dd _ => ?_)
  refine sq (opk_gval dd rfl rfl (g := true) (e := (decide (ao ≠ 0))) rfl (fun hg => r_load1 Try.underlying27 rfl (cv_get (dd.get rfl) hg) (c5.cell 4 _ rfl)) fun j3 df _ => ?_)
  refine sq (opk_gval df rfl rfl (g := true) (e := (decide (ao ≠ 0))) rfl (fun hg => r_len (cv_get (df.get rfl) hg) Try.underlying27) fun j4 dg _ => ?_)
  refine sq (opk_gval dg rfl rfl (g := true) (e := (decide (ao ≠ 0))) rfl (fun hg => r_neq (cv_get (dg.get rfl) hg) rfl) fun j5 bF _ => ?_)
  refine sqv bF rfl (r_pick_or (g := (true && ((decide (ao ≠ 0)) == false))) (bF.get rfl) (bF.get rfl) (fun he => g_mkf rfl he)) fun _ hu => ?_
  refine sq_end ?_
  have bG := hu.keep [(4, .pointer (some (⟨m, 0, none⟩ : Addr))), (9, .pointer (some (⟨y, 0, none⟩ : Addr))), (76, .bool ((decide (ao ≠ 0)) || (decide ((ah.n : Int) ≠ 1))))] ⟨rfl, rfl, rfl, trivial⟩
  refine then_normal ?_
  refine wp_cond_split (bG.get rfl) (fun hc => ?_) (fun hc => ?_)
  ·have hv := cS.1 ((b_or_t hc).imp (fun h => (of_decide_eq_true h)) (fun h => (of_decide_eq_true h)))
   clear hc
   refine wp_seq (wp_region_lit ?_)
   refine sqv bG rfl (r_assign rfl) fun _ hx => ?_
   refine sq_end ?_
   have dh := hx.keep [(2, .bool false)] ⟨rfl, trivial⟩
   refine then_normal ?_
   refine wp_ret ?_
   refine then_ret ?_
   have hy := hv al y c7  c6
   exact res_all (vs := [.bool false]) rfl dh ⟨res_of_tmp dh rfl, trivial⟩ hy
  ·have hz := cS.2 ⟨(of_decide_eq_false (b_or_f hc).1), (of_decide_eq_false (b_or_f hc).2)⟩
   clear hc
   refine wp_skip ?_
   refine then_normal (wp_seq (wp_region_lit ?_))
   refine sqv bG rfl (r_assign rfl) fun _ hA => ?_
   refine sq_end ?_
   have hB := hA.keep [(4, .pointer (some (⟨m, 0, none⟩ : Addr))), (9, .pointer (some (⟨y, 0, none⟩ : Addr))), (12, .int .i64 0)] ⟨rfl, rfl, rfl, trivial⟩
   refine then_normal (wp_seq (wp_seq (wp_region_lit ?_)))
   refine sqv hB rfl (r_assign rfl) fun _ hC => ?_
   refine sq_end ?_
   have hD := hC.keep [(4, .pointer (some (⟨m, 0, none⟩ : Addr))), (9, .pointer (some (⟨y, 0, none⟩ : Addr))), (12, .int .i64 0), (13, .int .i64 0)] ⟨rfl, rfl, rfl, rfl, trivial⟩
   refine then_normal (wp_block ?_)
   have hF := hz al y c7  c6
   obtain ⟨aX, aY, hG, hH⟩ := hF
   refine wp_loop_st (σ := Int × Int × World) (fun s a w => Ag 129 a [(4, .pointer (some (⟨m, 0, none⟩ : Addr))), (9, .pointer (some (⟨y, 0, none⟩ : Addr))), (12, .int .i64 s.1), (13, .int .i64 s.2.1)] ∧ Box w m 63 [.string (Bs p), .string (Bs q), .string (Bs r), .string (Bs t), .string (Bs u)] ∧ Box w y 29 [.int .i64 aC, .string (Bs aD), .string (Bs aF), Sl.v aG, Sl.v ah] ∧ w = s.2.2 ∧ aX s.1 s.2.1 s.2.2) (fun s => aY s.1 s.2.1 s.2.2) (0, 0, al) ⟨hD.keep [(4, .pointer (some (⟨m, 0, none⟩ : Addr))), (9, .pointer (some (⟨y, 0, none⟩ : Addr))), (12, .int .i64 0), (13, .int .i64 0)] ⟨rfl, rfl, rfl, rfl, trivial⟩, hs, c5, rfl, hG⟩ ?_
   rintro ⟨b, j, aj⟩ j6 w_ ⟨di, bH, a7, hw_, hI⟩
   have hw_ : aj = w_ := hw_.symm
   subst hw_
   have dj := hH b j _ hI
   refine wp_seq (wp_seq (wp_region_lit ?_))
   refine sqv di rfl (r_move (di.get rfl)) fun _ dk => ?_
   refine sqv dk rfl (r_lss (dk.get rfl) rfl) fun _ hJ => ?_
   refine sq_end ?_
   have bf := hJ.keep [(4, .pointer (some (⟨m, 0, none⟩ : Addr))), (9, .pointer (some (⟨y, 0, none⟩ : Addr))), (12, .int .i64 b), (13, .int .i64 j), (78, .bool (decide (j < 5)))] ⟨rfl, rfl, rfl, rfl, rfl, trivial⟩
   refine then_normal ?_
   refine wp_cond_split (bf.get rfl) (fun hc => ?_) (fun hc => ?_)
   ·have hK := dj.1 (of_decide_eq_true hc)
    clear hc
    refine wp_skip ?_
    refine then_normal (wp_seq (wp_block (wp_seq (wp_seq (wp_region_lit ?_)))))
    refine sqv bf rfl (r_move (bf.get rfl)) fun _ bI => ?_
    obtain ⟨dl, dm⟩ := hK
    refine sqv bI rfl (r_indexAddrA (bI.get rfl) (bI.get rfl) Try.underlying63 ti_9 dl) fun _ dn => ?_
    refine sqv dn rfl (r_load1 Try.underlying9 rfl (dn.get rfl) (Box.cellA ([p, q, r, t, u] : List Str) (fun s => Value.string (Bs s)) [] bH rfl rfl dl)) fun _ dp => ?_
    refine sqv dp rfl (r_seql (dp.get rfl) rfl) fun _ hL => ?_
    refine sq_end ?_
    have ad := hL.keep [(4, .pointer (some (⟨m, 0, none⟩ : Addr))), (9, .pointer (some (⟨y, 0, none⟩ : Addr))), (12, .int .i64 b), (13, .int .i64 j), (84, .bool (decide ((([p, q, r, t, u] : List Str).getD j.toNat []) = ([] : Str))))] ⟨rfl, rfl, rfl, rfl, rfl, trivial⟩
    refine then_normal ?_
    refine wp_cond_split (ad.get rfl) (fun hc => ?_) (fun hc => ?_)
    ·have hM := dm.1 (of_decide_eq_true hc)
     clear hc
     refine wp_exit ?_
     refine then_exit ?_
     refine block_hit ?_
     have dq := ad.keep [(4, .pointer (some (⟨m, 0, none⟩ : Addr))), (9, .pointer (some (⟨y, 0, none⟩ : Addr))), (12, .int .i64 b), (13, .int .i64 j)] ⟨rfl, rfl, rfl, rfl, trivial⟩
     refine then_normal (wp_region_lit ?_)
     refine sqv dq rfl (r_move (dq.get rfl)) fun _ dr => ?_
     obtain ⟨hN, ds⟩ := hM
     refine sqv dr rfl (r_addI (dr.get rfl) rfl hN) fun _ dt => ?_
     refine sqv dt rfl (r_assign (dt.get rfl)) fun _ hO => ?_
     refine sq_end ?_
     have hP := hO.keep [(4, .pointer (some (⟨m, 0, none⟩ : Addr))), (9, .pointer (some (⟨y, 0, none⟩ : Addr))), (12, .int .i64 b), (13, .int .i64 (j + 1))] ⟨rfl, rfl, rfl, rfl, trivial⟩
     have hQ := hP.keep [(4, .pointer (some (⟨m, 0, none⟩ : Addr))), (9, .pointer (some (⟨y, 0, none⟩ : Addr))), (12, .int .i64 b), (13, .int .i64 (j + 1))] ⟨rfl, rfl, rfl, rfl, trivial⟩
     exact then_normal ⟨(b, j + 1, aj), ⟨hQ, bH, a7, rfl, ds.1⟩, ds.2⟩
    ·have hS := dm.2 (of_decide_eq_false hc)
     clear hc
     refine wp_skip ?_
     refine then_normal (wp_seq (wp_seq ?_))
     refine draw' (by kernel_rfl) fun ay bJ => ?_
     have du := bH.ext bJ
     have bK := a7.ext bJ
     have hU : Chg [] aj ay := bJ
     have hV := hS ay    hU
     obtain ⟨aP, dv, hX⟩ := hV
     obtain ⟨k, hY, hZ⟩ := hX
     obtain ⟨aQ, dx, h0⟩ := hZ
     obtain ⟨aZ, h1, h2⟩ := h0
     obtain ⟨a4, dy, h3⟩ := h2
     obtain ⟨ap, aq, h4, h5⟩ := h3
     obtain ⟨h6, h7⟩ := h5
     obtain ⟨h8, h9⟩ := h7
     obtain ⟨dz, dA⟩ := h9
     refine par (D := [[], [], [1], [1, 2], [1, 2, 3], [1, 2, 3, 4], [1, 2, 3, 4, 5], [0, 1, 2, 3, 4, 5, 6], [0, 1, 2, 3, 4, 5, 6, 7], [0, 1, 2, 3, 4, 5, 6, 7, 8], [0, 1, 2, 3, 4, 5, 6, 7, 8, 9], [0, 1, 2, 3, 4, 5, 6, 7, 8, 9, 10], [0, 1, 2, 3, 4, 5, 6, 7, 8, 9, 10, 11], [0, 1, 2, 3, 4, 5, 6, 7, 8, 9, 10, 11, 12], [0, 1, 2, 3, 4, 5, 6, 7, 8], [0, 1, 2, 3, 4, 5, 6, 7, 8, 9, 10, 11, 12, 13, 14], [0, 1, 2, 3, 4, 5, 6, 7, 8, 9, 10, 11, 12, 13, 14, 15], [0, 1, 2, 3, 4, 5, 6, 7, 8], [0, 1, 2, 3, 4, 5, 6, 7, 8], [0, 1, 2, 3, 4, 5, 6, 7, 8, 18], [0, 1, 2, 3, 4, 5, 6, 7, 8, 17, 18, 19], [0, 1, 2, 3, 4, 5, 6, 7, 8], [0, 1, 2, 3, 4, 5, 6, 7, 8, 21], [0, 1, 2, 3, 4, 5, 6, 7, 8, 21, 22], [0, 1, 2, 3, 4, 5, 6, 7, 8, 17, 18, 19, 20, 21, 22, 23], [0, 1, 2, 3, 4, 5, 6, 7, 8, 9, 10, 11, 12, 13, 14, 15, 16, 17, 18, 19, 20, 21, 22, 23, 24], [0, 1, 2, 3, 4, 5, 6, 7, 8, 9, 10, 11, 12, 13, 14, 15, 16, 17, 18, 19, 20, 21, 22, 23, 24, 25]]) (S := [0, 1, 2, 3, 4, 5, 6, 7, 8, 9, 10, 11, 12, 13, 14, 15, 16, 17, 18, 19, 20, 21, 22, 23, 24, 25, 26]) (F := []) (V := VL [(0, fun v _ => v = .int .i64 b), (1, fun v _ => v = .pointer (some (⟨y, 4, none⟩ : Addr))), (2, fun v _ => v = Sl.v ah), (3, fun v _ => v = .pointer (some (aP.add (0 * 5)))), (4, fun v _ => v = .pointer (some ((aP.add (0 * 5)).add 3))), (5, fun v _ => v = Sl.v k), (6, fun v _ => v = .int .i64 (k.n : Int)), (7, fun v _ => v = .bool (decide ((k.n : Int) ≤ b))), (8, fun v _ => v = .bool (decide ((k.n : Int) ≤ b))), (9, fun v _ => v = cV (true && ((decide ((k.n : Int) ≤ b)) == false)) (.pointer (some (⟨y, 4, none⟩ : Addr)))), (10, fun v _ => v = cV (true && ((decide ((k.n : Int) ≤ b)) == false)) (Sl.v ah)), (11, fun v _ => v = cV (true && ((decide ((k.n : Int) ≤ b)) == false)) (.pointer (some (aQ.add (0 * 5))))), (12, fun v _ => v = cV (true && ((decide ((k.n : Int) ≤ b)) == false)) (.pointer (some ((aQ.add (0 * 5)).add 3)))), (13, fun v _ => v = cV (true && ((decide ((k.n : Int) ≤ b)) == false)) (Sl.v aZ)), (14, fun v _ => v = cV (true && ((decide ((k.n : Int) ≤ b)) == false)) (.int .i64 b)), (15, fun v _ => v = cV (true && ((decide ((k.n : Int) ≤ b)) == false)) (.pointer (some (a4.add (b.toNat * 2))))), (16, fun v _ => v = cV (true && ((decide ((k.n : Int) ≤ b)) == false)) (.agg #[.string (Bs ap), .string (Bs aq)])), (17, fun v _ => v = cV (true && ((decide ((k.n : Int) ≤ b)) == false)) (.int .i64 j)), (18, fun v _ => v = cV (true && ((decide ((k.n : Int) ≤ b)) == false)) (.int .i64 j)), (19, fun v _ => v = cV (true && ((decide ((k.n : Int) ≤ b)) == false)) (.int .i64 (j + 1))), (20, fun v _ => v = cV (true && ((decide ((k.n : Int) ≤ b)) == false)) (.string (Bs ((List.drop j.toNat ([97, 98, 99, 100, 101] : Str)).take ((j + 1).toNat - j.toNat))))), (21, fun v _ => v = cV (true && ((decide ((k.n : Int) ≤ b)) == false)) (.int .i64 j)), (22, fun v _ => v = cV (true && ((decide ((k.n : Int) ≤ b)) == false)) (.pointer (some ((⟨m, 0, none⟩ : Addr).add (j.toNat * 1))))), (23, fun v _ => v = cV (true && ((decide ((k.n : Int) ≤ b)) == false)) (.string (Bs (([p, q, r, t, u] : List Str).getD j.toNat [])))), (24, fun v _ => v = cV (true && ((decide ((k.n : Int) ≤ b)) == false)) (.agg #[.string (Bs ((List.drop j.toNat ([97, 98, 99, 100, 101] : Str)).take ((j + 1).toNat - j.toNat))), .string (Bs (([p, q, r, t, u] : List Str).getD j.toNat []))])), (25, fun v _ => v = cV (true && ((decide ((k.n : Int) ≤ b)) == false)) (.bool (decide (¬ (ap = ((List.drop j.toNat ([97, 98, 99, 100, 101] : Str)).take ((j + 1).toNat - j.toNat)) ∧ aq = (([p, q, r, t, u] : List Str).getD j.toNat [])))))), (26, fun v _ => v = .bool ((decide ((k.n : Int) ≤ b)) || (decide (¬ (ap = ((List.drop j.toNat ([97, 98, 99, 100, 101] : Str)).take ((j + 1).toNat - j.toNat)) ∧ aq = (([p, q, r, t, u] : List Str).getD j.toNat []))))))]) ad (by kernel_rfl) ⟨fun _ _ _ _ h => h, fun _ _ _ _ h => h, fun _ _ _ _ h => h, fun _ _ _ _ h => h, fun _ _ _ _ h => h, fun _ _ _ _ h => h, fun _ _ _ _ h => h, fun _ _ _ _ h => h, fun _ _ _ _ h => h, fun _ _ _ _ h => h, fun _ _ _ _ h => h, fun _ _ _ _ h => h, fun _ _ _ _ h => h, fun _ _ _ _ h => h, fun _ _ _ _ h => h, fun _ _ _ _ h => h, fun _ _ _ _ h => h, fun _ _ _ _ h => h, fun _ _ _ _ h => h, fun _ _ _ _ h => h, fun _ _ _ _ h => h, fun _ _ _ _ h => h, fun _ _ _ _ h => h, fun _ _ _ _ h => h, fun _ _ _ _ h => h, fun _ _ _ _ h => h, fun _ _ _ _ h => h, trivial⟩ ⟨?_, ?_, ?_, ?_, ?_, ?_, ?_, ?_, ?_, ?_, ?_, ?_, ?_, ?_, ?_, ?_, ?_, ?_, ?_, ?_, ?_, ?_, ?_, ?_, ?_, ?_, ?_, trivial⟩ ?_
     ·intro a w hT
      have hAp := hT.ag ad [(12, .int .i64 b)] ⟨rfl, trivial⟩ (by kernel_rfl)
      exact ovr hAp rfl (r_move (hAp.get rfl)) fun _ => Eq.refl _
     ·intro a w hT
      have hAp := hT.ag ad [(9, .pointer (some (⟨y, 0, none⟩ : Addr)))] ⟨rfl, trivial⟩ (by kernel_rfl)
      exact ovr hAp rfl (r_fieldAddr (hAp.get rfl) Try.underlying29 rfl ti_27 (by decide)) fun _ => Eq.refl _
     ·intro a w hT
      have hAp := hT.ag ad [] trivial (by kernel_rfl)
      have ia : a.tmps.getD 86 undef = .pointer (some (⟨y, 4, none⟩ : Addr)) := hT.vals 1 rfl 86 rfl
      have hAp := hAp.add ia
      exact ovr hAp rfl (r_load1 Try.underlying27 rfl (hAp.get rfl) ((bK.ext hT.chg).cell 4 _ rfl)) fun _ => Eq.refl _
     ·intro a w hT
      have hAp := hT.ag ad [] trivial (by kernel_rfl)
      have ib : a.tmps.getD 87 undef = Sl.v ah := hT.vals 2 rfl 87 rfl
      have hAp := hAp.add ib
      exact ovr hAp rfl (r_indexAddr (hAp.get rfl) rfl Try.underlying27 ti_29 dv.1 dv.2) fun _ => Eq.refl _
     ·intro a w hT
      have hAp := hT.ag ad [] trivial (by kernel_rfl)
      have ig : a.tmps.getD 88 undef = .pointer (some (aP.add (0 * 5))) := hT.vals 3 rfl 88 rfl
      have hAp := hAp.add ig
      exact ovr hAp rfl (r_fieldAddr (hAp.get rfl) Try.underlying29 rfl ti_26 (by decide)) fun _ => Eq.refl _
     ·intro a w hT
      have hAp := hT.ag ad [] trivial (by kernel_rfl)
      have ih : a.tmps.getD 89 undef = .pointer (some ((aP.add (0 * 5)).add 3)) := hT.vals 4 rfl 89 rfl
      have hAp := hAp.add ih
      exact ovr hAp rfl (r_load1 Try.underlying26 rfl (hAp.get rfl) (Ext.cell hT.chg hY)) fun _ => Eq.refl _
     ·intro a w hT
      have hAp := hT.ag ad [] trivial (by kernel_rfl)
      have ii : a.tmps.getD 90 undef = Sl.v k := hT.vals 5 rfl 90 rfl
      have hAp := hAp.add ii
      exact ovr hAp rfl (r_len (hAp.get rfl) Try.underlying26) fun _ => Eq.refl _
     ·intro a w hT
      have hAp := hT.ag ad [] trivial (by kernel_rfl)
      have ij : a.tmps.getD 85 undef = .int .i64 b := hT.vals 0 rfl 85 rfl
      have hAp := hAp.add ij
      have ik : a.tmps.getD 91 undef = .int .i64 (k.n : Int) := hT.vals 6 rfl 91 rfl
      have hAp := hAp.add ik
      exact ovr hAp rfl (r_geq (hAp.get rfl) (hAp.get rfl)) fun _ => Eq.refl _
     ·intro a w hT
      have hAp := hT.ag ad [] trivial (by kernel_rfl)
      have il : a.tmps.getD 92 undef = .bool (decide ((k.n : Int) ≤ b)) := hT.vals 7 rfl 92 rfl
      have hAp := hAp.add il
      exact ovr hAp rfl (r_move (hAp.get rfl)) fun _ => Eq.refl _
     ·intro a w hT
      have hAp := hT.ag ad [(9, .pointer (some (⟨y, 0, none⟩ : Addr)))] ⟨rfl, trivial⟩ (by kernel_rfl)
      have im : a.tmps.getD 93 undef = .bool (decide ((k.n : Int) ≤ b)) := hT.vals 8 rfl 93 rfl
      have hAp := hAp.add im
      exact opk_gval hAp rfl rfl (g := true) (e := (decide ((k.n : Int) ≤ b))) rfl (fun hg => r_fieldAddr (hAp.get rfl) Try.underlying29 rfl ti_27 (by decide)) fun _ _ e => ⟨_, e, Chg.refl _ _, fun _ => Eq.refl _⟩
     ·intro a w hT
      have hAp := hT.ag ad [] trivial (by kernel_rfl)
      have io : a.tmps.getD 93 undef = .bool (decide ((k.n : Int) ≤ b)) := hT.vals 8 rfl 93 rfl
      have hAp := hAp.add io
      have ip : a.tmps.getD 94 undef = cV (true && ((decide ((k.n : Int) ≤ b)) == false)) (.pointer (some (⟨y, 4, none⟩ : Addr))) := hT.vals 9 rfl 94 rfl
      have hAp := hAp.add ip
      exact opk_gval hAp rfl rfl (g := true) (e := (decide ((k.n : Int) ≤ b))) rfl (fun hg => r_load1 Try.underlying27 rfl (cv_get (hAp.get rfl) hg) ((bK.ext hT.chg).cell 4 _ rfl)) fun _ _ e => ⟨_, e, Chg.refl _ _, fun _ => Eq.refl _⟩
     ·intro a w hT
      have hAp := hT.ag ad [] trivial (by kernel_rfl)
      have iq : a.tmps.getD 93 undef = .bool (decide ((k.n : Int) ≤ b)) := hT.vals 8 rfl 93 rfl
      have hAp := hAp.add iq
      have ir : a.tmps.getD 95 undef = cV (true && ((decide ((k.n : Int) ≤ b)) == false)) (Sl.v ah) := hT.vals 10 rfl 95 rfl
      have hAp := hAp.add ir
      exact opk_gval hAp rfl rfl (g := true) (e := (decide ((k.n : Int) ≤ b))) rfl (fun hg => r_indexAddr (cv_get (hAp.get rfl) hg) rfl Try.underlying27 ti_29 (dx (of_decide_eq_false (g_f hg))).1 (dx (of_decide_eq_false (g_f hg))).2) fun _ _ e => ⟨_, e, Chg.refl _ _, fun _ => Eq.refl _⟩
     ·intro a w hT
      have hAp := hT.ag ad [] trivial (by kernel_rfl)
      have it : a.tmps.getD 93 undef = .bool (decide ((k.n : Int) ≤ b)) := hT.vals 8 rfl 93 rfl
      have hAp := hAp.add it
      have iu : a.tmps.getD 96 undef = cV (true && ((decide ((k.n : Int) ≤ b)) == false)) (.pointer (some (aQ.add (0 * 5)))) := hT.vals 11 rfl 96 rfl
      have hAp := hAp.add iu
      exact opk_gval hAp rfl rfl (g := true) (e := (decide ((k.n : Int) ≤ b))) rfl (fun hg => r_fieldAddr (cv_get (hAp.get rfl) hg) Try.underlying29 rfl ti_26 (by decide)) fun _ _ e => ⟨_, e, Chg.refl _ _, fun _ => Eq.refl _⟩
     ·intro a w hT
      have hAp := hT.ag ad [] trivial (by kernel_rfl)
      have iv : a.tmps.getD 93 undef = .bool (decide ((k.n : Int) ≤ b)) := hT.vals 8 rfl 93 rfl
      have hAp := hAp.add iv
      have ix : a.tmps.getD 97 undef = cV (true && ((decide ((k.n : Int) ≤ b)) == false)) (.pointer (some ((aQ.add (0 * 5)).add 3))) := hT.vals 12 rfl 97 rfl
      have hAp := hAp.add ix
      exact opk_gval hAp rfl rfl (g := true) (e := (decide ((k.n : Int) ≤ b))) rfl (fun hg => r_load1 Try.underlying26 rfl (cv_get (hAp.get rfl) hg) (Ext.cell hT.chg (h1 (of_decide_eq_false (g_f hg))))) fun _ _ e => ⟨_, e, Chg.refl _ _, fun _ => Eq.refl _⟩
     ·intro a w hT
      have hAp := hT.ag ad [(12, .int .i64 b)] ⟨rfl, trivial⟩ (by kernel_rfl)
      have iy : a.tmps.getD 93 undef = .bool (decide ((k.n : Int) ≤ b)) := hT.vals 8 rfl 93 rfl
      have hAp := hAp.add iy
      exact opk_gval hAp rfl rfl (g := true) (e := (decide ((k.n : Int) ≤ b))) rfl (fun hg => r_move (hAp.get rfl)) fun _ _ e => ⟨_, e, Chg.refl _ _, fun _ => Eq.refl _⟩
     ·intro a w hT
      have hAp := hT.ag ad [] trivial (by kernel_rfl)
      have iz : a.tmps.getD 93 undef = .bool (decide ((k.n : Int) ≤ b)) := hT.vals 8 rfl 93 rfl
      have hAp := hAp.add iz
      have iA : a.tmps.getD 98 undef = cV (true && ((decide ((k.n : Int) ≤ b)) == false)) (Sl.v aZ) := hT.vals 13 rfl 98 rfl
      have hAp := hAp.add iA
      have iB : a.tmps.getD 99 undef = cV (true && ((decide ((k.n : Int) ≤ b)) == false)) (.int .i64 b) := hT.vals 14 rfl 99 rfl
      have hAp := hAp.add iB
      exact opk_gval hAp rfl rfl (g := true) (e := (decide ((k.n : Int) ≤ b))) rfl (fun hg => r_indexAddr (cv_get (hAp.get rfl) hg) (cv_get (hAp.get rfl) hg) Try.underlying26 ti_65 (dy (of_decide_eq_false (g_f hg))).1 (dy (of_decide_eq_false (g_f hg))).2) fun _ _ e => ⟨_, e, Chg.refl _ _, fun _ => Eq.refl _⟩
     ·intro a w hT
      have hAp := hT.ag ad [] trivial (by kernel_rfl)
      have iC : a.tmps.getD 93 undef = .bool (decide ((k.n : Int) ≤ b)) := hT.vals 8 rfl 93 rfl
      have hAp := hAp.add iC
      have iD : a.tmps.getD 100 undef = cV (true && ((decide ((k.n : Int) ≤ b)) == false)) (.pointer (some (a4.add (b.toNat * 2)))) := hT.vals 15 rfl 100 rfl
      have hAp := hAp.add iD
      exact opk_gval hAp rfl rfl (g := true) (e := (decide ((k.n : Int) ≤ b))) rfl (fun hg => r_loadN Try.underlying65 rfl ti_65 (cv_get (hAp.get rfl) hg) ((h4 (of_decide_eq_false (g_f hg))).ext hT.chg)) fun _ _ e => ⟨_, e, Chg.refl _ _, fun _ => Eq.refl _⟩
     ·intro a w hT
      have hAp := hT.ag ad [(13, .int .i64 j)] ⟨rfl, trivial⟩ (by kernel_rfl)
      have iF : a.tmps.getD 93 undef = .bool (decide ((k.n : Int) ≤ b)) := hT.vals 8 rfl 93 rfl
      have hAp := hAp.add iF
      exact opk_gval hAp rfl rfl (g := true) (e := (decide ((k.n : Int) ≤ b))) rfl (fun hg => r_move (hAp.get rfl)) fun _ _ e => ⟨_, e, Chg.refl _ _, fun _ => Eq.refl _⟩
     ·intro a w hT
      have hAp := hT.ag ad [(13, .int .i64 j)] ⟨rfl, trivial⟩ (by kernel_rfl)
      have iG : a.tmps.getD 93 undef = .bool (decide ((k.n : Int) ≤ b)) := hT.vals 8 rfl 93 rfl
      have hAp := hAp.add iG
      exact opk_gval hAp rfl rfl (g := true) (e := (decide ((k.n : Int) ≤ b))) rfl (fun hg => r_move (hAp.get rfl)) fun _ _ e => ⟨_, e, Chg.refl _ _, fun _ => Eq.refl _⟩
     ·intro a w hT
      have hAp := hT.ag ad [] trivial (by kernel_rfl)
      have iH : a.tmps.getD 93 undef = .bool (decide ((k.n : Int) ≤ b)) := hT.vals 8 rfl 93 rfl
      have hAp := hAp.add iH
      have iI : a.tmps.getD 103 undef = cV (true && ((decide ((k.n : Int) ≤ b)) == false)) (.int .i64 j) := hT.vals 18 rfl 103 rfl
      have hAp := hAp.add iI
      exact opk_gval hAp rfl rfl (g := true) (e := (decide ((k.n : Int) ≤ b))) rfl (fun hg => r_addI (cv_get (hAp.get rfl) hg) rfl (h6 (of_decide_eq_false (g_f hg)))) fun _ _ e => ⟨_, e, Chg.refl _ _, fun _ => Eq.refl _⟩
     ·intro a w hT
      have hAp := hT.ag ad [] trivial (by kernel_rfl)
      have iJ : a.tmps.getD 93 undef = .bool (decide ((k.n : Int) ≤ b)) := hT.vals 8 rfl 93 rfl
      have hAp := hAp.add iJ
      have iK : a.tmps.getD 102 undef = cV (true && ((decide ((k.n : Int) ≤ b)) == false)) (.int .i64 j) := hT.vals 17 rfl 102 rfl
      have hAp := hAp.add iK
      have iL : a.tmps.getD 104 undef = cV (true && ((decide ((k.n : Int) ≤ b)) == false)) (.int .i64 (j + 1)) := hT.vals 19 rfl 104 rfl
      have hAp := hAp.add iL
      exact opk_gval hAp rfl rfl (g := true) (e := (decide ((k.n : Int) ≤ b))) rfl (fun hg => r_sslice2 rfl (cv_get (hAp.get rfl) hg) (cv_get (hAp.get rfl) hg) Try.underlying9 (h8 (of_decide_eq_false (g_f hg)))) fun _ _ e => ⟨_, e, Chg.refl _ _, fun _ => Eq.refl _⟩
     ·intro a w hT
      have hAp := hT.ag ad [(13, .int .i64 j)] ⟨rfl, trivial⟩ (by kernel_rfl)
      have iM : a.tmps.getD 93 undef = .bool (decide ((k.n : Int) ≤ b)) := hT.vals 8 rfl 93 rfl
      have hAp := hAp.add iM
      exact opk_gval hAp rfl rfl (g := true) (e := (decide ((k.n : Int) ≤ b))) rfl (fun hg => r_move (hAp.get rfl)) fun _ _ e => ⟨_, e, Chg.refl _ _, fun _ => Eq.refl _⟩
     ·intro a w hT
      have hAp := hT.ag ad [(4, .pointer (some (⟨m, 0, none⟩ : Addr)))] ⟨rfl, trivial⟩ (by kernel_rfl)
      have iN : a.tmps.getD 93 undef = .bool (decide ((k.n : Int) ≤ b)) := hT.vals 8 rfl 93 rfl
      have hAp := hAp.add iN
      have iO : a.tmps.getD 106 undef = cV (true && ((decide ((k.n : Int) ≤ b)) == false)) (.int .i64 j) := hT.vals 21 rfl 106 rfl
      have hAp := hAp.add iO
      exact opk_gval hAp rfl rfl (g := true) (e := (decide ((k.n : Int) ≤ b))) rfl (fun hg => r_indexAddrA (hAp.get rfl) (cv_get (hAp.get rfl) hg) Try.underlying63 ti_9 (dz (of_decide_eq_false (g_f hg)))) fun _ _ e => ⟨_, e, Chg.refl _ _, fun _ => Eq.refl _⟩
     ·intro a w hT
      have hAp := hT.ag ad [] trivial (by kernel_rfl)
      have iP : a.tmps.getD 93 undef = .bool (decide ((k.n : Int) ≤ b)) := hT.vals 8 rfl 93 rfl
      have hAp := hAp.add iP
      have iQ : a.tmps.getD 107 undef = cV (true && ((decide ((k.n : Int) ≤ b)) == false)) (.pointer (some ((⟨m, 0, none⟩ : Addr).add (j.toNat * 1)))) := hT.vals 22 rfl 107 rfl
      have hAp := hAp.add iQ
      exact opk_gval hAp rfl rfl (g := true) (e := (decide ((k.n : Int) ≤ b))) rfl (fun hg => r_load1 Try.underlying9 rfl (cv_get (hAp.get rfl) hg) (Box.cellA ([p, q, r, t, u] : List Str) (fun s => Value.string (Bs s)) [] (du.ext hT.chg) rfl rfl (dz (of_decide_eq_false (g_f hg))))) fun _ _ e => ⟨_, e, Chg.refl _ _, fun _ => Eq.refl _⟩
     ·intro a w hT
      have hAp := hT.ag ad [] trivial (by kernel_rfl)
      have iR : a.tmps.getD 93 undef = .bool (decide ((k.n : Int) ≤ b)) := hT.vals 8 rfl 93 rfl
      have hAp := hAp.add iR
      have iS : a.tmps.getD 105 undef = cV (true && ((decide ((k.n : Int) ≤ b)) == false)) (.string (Bs ((List.drop j.toNat ([97, 98, 99, 100, 101] : Str)).take ((j + 1).toNat - j.toNat)))) := hT.vals 20 rfl 105 rfl
      have hAp := hAp.add iS
      have iT : a.tmps.getD 108 undef = cV (true && ((decide ((k.n : Int) ≤ b)) == false)) (.string (Bs (([p, q, r, t, u] : List Str).getD j.toNat []))) := hT.vals 23 rfl 108 rfl
      have hAp := hAp.add iT
      exact opk_gval hAp rfl rfl (g := true) (e := (decide ((k.n : Int) ≤ b))) rfl (fun hg => r_build (vs := #[(0, .string (Bs ((List.drop j.toNat ([97, 98, 99, 100, 101] : Str)).take ((j + 1).toNat - j.toNat)))), (1, .string (Bs (([p, q, r, t, u] : List Str).getD j.toNat [])))]) (cells := #[.string (Bs ((List.drop j.toNat ([97, 98, 99, 100, 101] : Str)).take ((j + 1).toNat - j.toNat))), .string (Bs (([p, q, r, t, u] : List Str).getD j.toNat []))]) (map_arr2 (ml2_cons (cv_get (hAp.get rfl) hg) (ml2_cons (cv_get (hAp.get rfl) hg) (ml2_nil)))) ti_65 Try.underlying65 pl_65 (by kernel_rfl)) fun _ _ e => ⟨_, e, Chg.refl _ _, fun _ => Eq.refl _⟩
     ·intro a w hT
      have hAp := hT.ag ad [] trivial (by kernel_rfl)
      have iU : a.tmps.getD 93 undef = .bool (decide ((k.n : Int) ≤ b)) := hT.vals 8 rfl 93 rfl
      have hAp := hAp.add iU
      have iV : a.tmps.getD 101 undef = cV (true && ((decide ((k.n : Int) ≤ b)) == false)) (.agg #[.string (Bs ap), .string (Bs aq)]) := hT.vals 16 rfl 101 rfl
      have hAp := hAp.add iV
      have iX : a.tmps.getD 109 undef = cV (true && ((decide ((k.n : Int) ≤ b)) == false)) (.agg #[.string (Bs ((List.drop j.toNat ([97, 98, 99, 100, 101] : Str)).take ((j + 1).toNat - j.toNat))), .string (Bs (([p, q, r, t, u] : List Str).getD j.toNat []))]) := hT.vals 24 rfl 109 rfl
      have hAp := hAp.add iX
      exact opk_gval hAp rfl rfl (g := true) (e := (decide ((k.n : Int) ≤ b))) rfl (fun hg => r_aneqd (cv_get (hAp.get rfl) hg) (cv_get (hAp.get rfl) hg) (eq_65 _ _ _ _)) fun _ _ e => ⟨_, e, Chg.refl _ _, fun _ => Eq.refl _⟩
     ·intro a w hT
      have hAp := hT.ag ad [] trivial (by kernel_rfl)
      have iY : a.tmps.getD 93 undef = .bool (decide ((k.n : Int) ≤ b)) := hT.vals 8 rfl 93 rfl
      have hAp := hAp.add iY
      have iZ : a.tmps.getD 110 undef = cV (true && ((decide ((k.n : Int) ≤ b)) == false)) (.bool (decide (¬ (ap = ((List.drop j.toNat ([97, 98, 99, 100, 101] : Str)).take ((j + 1).toNat - j.toNat)) ∧ aq = (([p, q, r, t, u] : List Str).getD j.toNat []))))) := hT.vals 25 rfl 110 rfl
      have hAp := hAp.add iZ
      exact ovr hAp rfl (r_pick_or (g := (true && ((decide ((k.n : Int) ≤ b)) == false))) (hAp.get rfl) (hAp.get rfl) (fun he => g_mkf rfl he)) fun _ => Eq.refl _
     ·intro i0 ar bL i1 i2
      have i3 := i1 [(4, .pointer (some (⟨m, 0, none⟩ : Addr))), (9, .pointer (some (⟨y, 0, none⟩ : Addr))), (12, .int .i64 b), (13, .int .i64 j)] ⟨rfl, rfl, rfl, rfl, trivial⟩ (by kernel_rfl)
      have i4 : i0.tmps.getD 111 undef = .bool ((decide ((k.n : Int) ≤ b)) || (decide (¬ (ap = ((List.drop j.toNat ([97, 98, 99, 100, 101] : Str)).take ((j + 1).toNat - j.toNat)) ∧ aq = (([p, q, r, t, u] : List Str).getD j.toNat []))))) := i2 26 rfl 111 rfl
      have i5 := i3.add i4
      have i6 := du.ext bL
      have i7 := bK.ext bL
      have dB : Chg [] ay ar := bL
      refine PR_end (by kernel_rfl) ?_
      have bg := i5.keep [(4, .pointer (some (⟨m, 0, none⟩ : Addr))), (9, .pointer (some (⟨y, 0, none⟩ : Addr))), (12, .int .i64 b), (13, .int .i64 j), (111, .bool ((decide ((k.n : Int) ≤ b)) || (decide (¬ (ap = ((List.drop j.toNat ([97, 98, 99, 100, 101] : Str)).take ((j + 1).toNat - j.toNat)) ∧ aq = (([p, q, r, t, u] : List Str).getD j.toNat []))))))] ⟨rfl, rfl, rfl, rfl, rfl, trivial⟩
      refine then_normal ?_
      refine wp_cond_split (bg.get rfl) (fun hc => ?_) (fun hc => ?_)
      ·have i8 := dA.1 ((b_or_t hc).imp (fun h => (of_decide_eq_true h)) (fun h => (of_decide_eq_true h)))
       clear hc
       refine wp_seq (wp_region_lit ?_)
       refine sqv bg rfl (r_assign rfl) fun _ i9 => ?_
       refine sq_end ?_
       have dC := i9.keep [(2, .bool false)] ⟨rfl, trivial⟩
       refine then_normal ?_
       refine wp_ret ?_
       refine then_ret ?_
       refine block_ret ?_
       refine then_ret ?_
       refine then_ret ?_
       refine block_ret ?_
       refine then_ret ?_
       have ja := i8 ar    dB
       exact res_all (vs := [.bool false]) rfl dC ⟨res_of_tmp dC rfl, trivial⟩ ja
      ·have jb := dA.2 ⟨(of_decide_eq_false (b_or_f hc).1), (of_decide_eq_false (b_or_f hc).2)⟩
       clear hc
       refine wp_skip ?_
       refine then_normal (wp_region_lit ?_)
       refine sqv bg rfl (r_move (bg.get rfl)) fun _ dD => ?_
       obtain ⟨jc, jd⟩ := jb
       refine sqv dD rfl (r_addI (dD.get rfl) rfl jc) fun _ dF => ?_
       refine sqv dF rfl (r_assign (dF.get rfl)) fun _ jf => ?_
       refine sq_end ?_
       have dG := jf.keep [(4, .pointer (some (⟨m, 0, none⟩ : Addr))), (9, .pointer (some (⟨y, 0, none⟩ : Addr))), (12, .int .i64 (b + 1)), (13, .int .i64 j)] ⟨rfl, rfl, rfl, rfl, trivial⟩
       refine block_normal ?_
       refine then_normal (wp_region_lit ?_)
       refine sqv dG rfl (r_move (dG.get rfl)) fun _ dH => ?_
       obtain ⟨jg, jh⟩ := jd
       refine sqv dH rfl (r_addI (dH.get rfl) rfl jg) fun _ dI => ?_
       refine sqv dI rfl (r_assign (dI.get rfl)) fun _ ji => ?_
       refine sq_end ?_
       have jj := ji.keep [(4, .pointer (some (⟨m, 0, none⟩ : Addr))), (9, .pointer (some (⟨y, 0, none⟩ : Addr))), (12, .int .i64 (b + 1)), (13, .int .i64 (j + 1))] ⟨rfl, rfl, rfl, rfl, trivial⟩
       have dJ := jh ar    dB
       have jk := jj.keep [(4, .pointer (some (⟨m, 0, none⟩ : Addr))), (9, .pointer (some (⟨y, 0, none⟩ : Addr))), (12, .int .i64 (b + 1)), (13, .int .i64 (j + 1))] ⟨rfl, rfl, rfl, rfl, trivial⟩
       exact then_normal ⟨(b + 1, j + 1, ar), ⟨jk, i6, i7, rfl, dJ.1⟩, dJ.2⟩
   ·have jl := dj.2 (of_decide_eq_false hc)
    clear hc
    refine wp_exit ?_
    refine then_exit ?_
    refine then_exit ?_
    refine block_hit ?_
    have dK := bf.keep [(9, .pointer (some (⟨y, 0, none⟩ : Addr))), (12, .int .i64 b)] ⟨rfl, rfl, trivial⟩
    refine then_normal (wp_seq (wp_region_lit ?_))
    refine sqv dK rfl (r_move (dK.get rfl)) fun _ dL => ?_
    refine sqv dL rfl (r_fieldAddr (dL.get rfl) Try.underlying29 rfl ti_27 (by decide)) fun _ dM => ?_
    refine sqv dM rfl (r_load1 Try.underlying27 rfl (dM.get rfl) (a7.cell 4 _ rfl)) fun _ dN => ?_
    obtain ⟨jm, bh, jn, jo⟩ := jl
    refine sqv dN rfl (r_indexAddr (dN.get rfl) rfl Try.underlying27 ti_29 jm jn) fun _ dO => ?_
    refine sqv dO rfl (r_fieldAddr (dO.get rfl) Try.underlying29 rfl ti_26 (by decide)) fun _ dP => ?_
    obtain ⟨am, jp, jq⟩ := jo
    refine sqv dP rfl (r_load1 Try.underlying26 rfl (dP.get rfl) jp) fun _ dQ => ?_
    refine sqv dQ rfl (r_len (dQ.get rfl) Try.underlying26) fun _ bM => ?_
    refine sqv bM rfl (r_eql (bM.get rfl) (bM.get rfl)) fun _ dR => ?_
    refine sqv dR rfl (r_move (dR.get rfl)) fun _ dS => ?_
    refine sq (opk_gval dS rfl rfl (g := true) (e := (decide (b = (am.n : Int)))) rfl (fun hg => r_loadN (cs := [.int .i64 aC, .string (Bs aD), .string (Bs aF), Sl.v aG, Sl.v ah]) Try.underlying29 rfl ti_29 (dS.get rfl) (a7.part 0 _ rfl)) fun j7 dT _ => ?_)
    obtain ⟨aK, jr, js⟩ := jq
    refine sq (opk_gcall dT rfl rfl (g := true) (e := (decide (b = (am.n : Int)))) rfl (fun hg => r_call (args := #[.agg #[.int .i64 aC, .string (Bs aD), .string (Bs aF), Sl.v aG, Sl.v ah]]) Try.func41 (by decide) rfl (map_arr (ml_cons (cv_get (dT.get rfl) hg) ml_nil)) rfl) (fun hg => jr (of_decide_eq_true (g_t hg))) fun j8 aL bN _ bO => ?_)
    have jt := a7.ext bO
    have j9 : Chg [] aj aL := bO
    have ju := js aL bO
    refine sqv bN rfl (r_pick_and (g := (true && ((decide (b = (am.n : Int))) == true))) (bN.get rfl) (bN.get rfl) (fun he => g_mkt rfl he)) fun _ dU => ?_
    refine sqv dU rfl (r_move (dU.get rfl)) fun _ jv => ?_
    obtain ⟨a5, jx, jy⟩ := ju
    refine sq (opk_gcall jv rfl rfl (g := true) (e := ((decide (b = (am.n : Int))) && aK)) rfl (fun hg => r_call (args := #[]) Try.func37 (by decide) rfl (map_arr ml_nil) rfl) (fun hg => jx ⟨(of_decide_eq_true (b_and_t (g_t hg)).1), (b_and_t (g_t hg)).2⟩) fun ka a6 bP _ bQ => ?_)
    have kb := jt.ext bQ
    have kc : Chg [] aL a6 := bQ
    have jz := jy a6 bQ
    refine sqv bP rfl (r_pick_and (g := (true && (((decide (b = (am.n : Int))) && aK) == true))) (bP.get rfl) (bP.get rfl) (fun he => g_mkt rfl he)) fun _ dV => ?_
    refine sqv dV rfl (r_assign (dV.get rfl)) fun _ jA => ?_
    refine sq_end ?_
    have dX := jA.keep [(2, .bool (((decide (b = (am.n : Int))) && aK) && a5))] ⟨rfl, trivial⟩
    refine then_normal ?_
    refine wp_ret ?_
    exact res_all (vs := [.bool (((decide (b = (am.n : Int))) && aK) && a5)]) rfl dX ⟨res_of_tmp dX rfl, trivial⟩ jz
end Go.Proofs.Ytghmgfkdnolcdaa
