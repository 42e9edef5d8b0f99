/-
  PRINTED BY PROGRAM: for each function its condition (vc), and that this suffices (ok).
-/
import Derived.Test.YtghmgfkdnolcdaaGreatQApplyAllGT
namespace Go.Proofs.YtghmgfkdnolcdaaGreat
open Go.RowKit
set_option linter.unusedVariables false
set_option maxHeartbeats 1000000
set_option maxRecDepth 10000
def apply_Apply.vc (f : Int) (g : Str) (h : Str) (i : Sl) (j : Sl) (k : Sl) (R : Value → World → Prop) (w : World) : Prop :=
∀ (d : World) (l : Nat) (a : Nat), New w l d → New w a d → l ≠ a → Chg [] w d →
CallK Tryz.prog 18 #[.agg #[.int .i64 f, .string (Bs g), .string (Bs h), Sl.v i, Sl.v j], Sl.v k, .func (.func 19) #[] #[]] d [l, a] (fun v r => ∃ (t : Option Addr) (b : Int) (c : Int), v = .tuple #[.pointer t, .int .i64 b, .int .i64 c] ∧
((c ≠ 0) →
∀ (u : World), Chg [a] r u →
R (.tuple #[.agg #[.int .i64 0, .string (Bs []), .string (Bs []), Sl.v Sl.nil, Sl.v Sl.nil], .int .i64 b, .int .i64 c]) u) ∧
((¬ (c ≠ 0)) →
CallK Tryz.prog 20 #[.pointer t] r [a] (fun v y => ∃ (m : Int) (n : Str) (o : Str) (p : Sl) (q : Sl), v = .agg #[.int .i64 m, .string (Bs n), .string (Bs o), Sl.v p, Sl.v q] ∧
∀ (x : World), Chg [a] y x →
R (.tuple #[.agg #[.int .i64 m, .string (Bs n), .string (Bs o), Sl.v p, Sl.v q], .int .i64 b, .int .i64 0]) x)))
theorem apply_Apply.ok (f : Int) (g : Str) (h : Str) (i : Sl) (j : Sl) (k : Sl) {R : Value → World → Prop} {w : World} (z : apply_Apply.vc f g h i j k R w) : Calls Tryz.prog 8 #[.agg #[.int .i64 f, .string (Bs g), .string (Bs h), Sl.v i, Sl.v j], Sl.v k] w (Ret R) := by
 refine go _ Tryz.func8 Tryz.ntmps8 z ?_
 refine gS <| gR <| nb fun w4 l => ?_
 refine na ti_25 fun d a => ?_
 refine gN ?_
 refine gN <| ge <| tn <| gS <| gR ?_
 refine gBN 1 5 Tryz.underlying25 ti_25 ?_
 refine gM <| gT2 ?_
 refine gC [1, 0] Tryz.func18 fun _ r => gE fun t => gE fun b => gE fun c => gQ ?_
 refine gM ?_
 refine gx1 ?_
 refine gx1 ?_
 refine gx1 ?_
 refine gN ?_
 refine gN ?_
 refine gN <| ge <| tn <| gS <| gS <| gR ?_
 refine gM ?_
 refine g2 r_neq <| ge <| tn ?_
 refine gi dT dF ?_ ?_
 ·refine gS <| gR <| gbu ti_25 Tryz.underlying25 pl_25 (OPs.of rfl) ?_
  refine gM ?_
  refine gM ?_
  refine wo 0 ti_25 fun u => ?_
  refine gN ?_
  refine gN <| ge <| tn <| gr <| tr <| gT0 ?_
  exact gz [.agg #[.int .i64 0, .string (Bs []), .string (Bs []), Sl.v Sl.nil, Sl.v Sl.nil], .int .i64 b, .int .i64 c] rfl (fun _ s => ⟨res_of_cell s.ag rfl (s.bx 0 rfl) Tryz.underlying25 rfl ti_25, res_of_tmp s.ag rfl, res_of_tmp s.ag rfl, trivial⟩)
 ·refine gk <| tn <| gS <| gR <| gM ?_
  refine gC [0] Tryz.func20 fun _ y => gE fun m => gE fun n => gE fun o => gE fun p => gE fun q => gQ ?_
  refine gM ?_
  refine wo 0 ti_25 fun x => ?_
  refine gN ?_
  refine gN <| ge <| tn <| gr <| gT0 ?_
  exact gz [.agg #[.int .i64 m, .string (Bs n), .string (Bs o), Sl.v p, Sl.v q], .int .i64 b, .int .i64 0] rfl (fun _ s => ⟨res_of_cell s.ag rfl (s.bx 0 rfl) Tryz.underlying25 rfl ti_25, res_of_tmp s.ag rfl, res_of_tmp s.ag rfl, trivial⟩)
def apply_Right.vc (b : Int) (o : Int) (r : Int) (s : Int) (p : Int) (u : Str) (x : Str) (R : Value → World → Prop) (w : World) : Prop :=
∀ (w3 : World) (q : Nat), New w q w3 → Chg [] w w3 →
CallK Tryz.prog 22 #[] w3 [q] (fun v w6 => v = .agg #[.nilFunc, .nilFunc, .func (.func 31) #[] #[], .func (.func 33) #[] #[], .func (.func 34) #[] #[], .func (.func 36) #[] #[], .func (.func 37) #[] #[], .func (.func 39) #[] #[], .func (.func 40) #[] #[], .func (.func 42) #[] #[], .func (.func 43) #[] #[], .func (.func 45) #[] #[], .func (.func 46) #[] #[], .func (.func 48) #[] #[]] ∧
(((((b < 1) ∨ (6 < b)) ∨ (o < 0)) ∨ (1048576 < o)) →
∀ (w9 : World) (n : Nat), New w6 n w9 → Chg [] w6 w9 →
R (.bool false) w9) ∧
(((((¬ (b < 1)) ∧ (¬ (6 < b))) ∧ (¬ (o < 0))) ∧ (¬ (1048576 < o))) →
((b = 1) →
∀ (w9 : World) (n : Nat), New w6 n w9 → Chg [] w6 w9 →
R (.bool ((decide (1 ≤ p)) && (decide (p ≤ 5)))) w9) ∧
((¬ (b = 1)) →
∀ (y : World) (n : Nat), New w6 n y → Chg [] w6 y →
((0 : Int) ≤ b ∧ b < 7) ∧
∃ (ak : FuncId) (ao ap : Array Value), ((([.nilFunc, .nilFunc, .func (.func 31) #[] #[], .func (.func 33) #[] #[], .func (.func 34) #[] #[], .func (.func 36) #[] #[], .func (.func 37) #[] #[], .func (.func 39) #[] #[], .func (.func 40) #[] #[], .func (.func 42) #[] #[], .func (.func 43) #[] #[], .func (.func 45) #[] #[], .func (.func 46) #[] #[], .func (.func 48) #[] #[]] : List Value).getD (b.toNat * 2 + 1) .nilFunc) = .func (.func ak) ao ap) ∧
Body Tryz.prog ak ∧
∃ af : Int → Int → Int → Int → Int → Str → Str → World → Prop, (∀ j : Int, ∀ k : Int, ∀ c : Int, ∀ d : Int, ∀ l : Int, ∀ f : Str, ∀ g : Str, ∀ w' w'' : World, Ext w' w'' → af j k c d l f g w' → af j k c d l f g w'') ∧
(∀ w' : World, Ext y w' → Calls Tryz.prog ak (ao ++ #[.agg #[.int .i64 b, .int .i64 o, .int .i64 r, .int .i64 s, .int .i64 p, .string (Bs u), .string (Bs x)]] ++ ap) w' (Ret fun v w'' => Ext w' w'' ∧ ∃ j : Int, ∃ k : Int, ∃ c : Int, ∃ d : Int, ∃ l : Int, ∃ f : Str, ∃ g : Str, v = .agg #[.int .i64 j, .int .i64 k, .int .i64 c, .int .i64 d, .int .i64 l, .string (Bs f), .string (Bs g)] ∧ af j k c d l f g w'')) ∧
∀ (ab : World) (j : Int) (k : Int) (c : Int) (d : Int) (l : Int) (f : Str) (g : Str) (m : Nat), Ext y ab → af j k c d l f g ab → y.heap.size ≤ m → Box ab m 38 [.int .i64 0, .int .i64 0, .int .i64 0, .int .i64 0, .int .i64 0, .string (Bs []), .string (Bs [])] → 
∀ (ai : World), Chg [m] ab ai →
R (.bool (((((decide (r = c)) && (decide (s = d))) && (decide (p = 0))) && (decide (u = f))) && (decide (x = g)))) ai)))
theorem apply_Right.ok (b : Int) (o : Int) (r : Int) (s : Int) (p : Int) (u : Str) (x : Str) {R : Value → World → Prop} {w : World} (aC : apply_Right.vc b o r s p u x R w) : Calls Tryz.prog 12 #[.agg #[.int .i64 b, .int .i64 o, .int .i64 r, .int .i64 s, .int .i64 p, .string (Bs u), .string (Bs x)]] w (Ret R) := by
 refine go _ Tryz.func12 Tryz.ntmps12 aC ?_
 refine gS <| gR <| nb fun w3 q => ?_
 refine gN <| ge <| tn <| gS <| gR <| gT1 ?_
 refine gC [0] Tryz.func22 fun _ w6 => gQ ?_
 refine na ti_56 fun w8 n => ?_
 refine wn 0 0 ti_56 fun w9 => ge <| tn <| gS <| gS <| gR ?_
 refine gF 0 Tryz.underlying38 ti_3 ?_
 refine gB 1 tU3 ?_
 refine g2 r_lss ?_
 refine gM ?_
 refine GF 0 Tryz.underlying38 ti_3 ?_
 refine GB 1 tU3 ?_
 refine G2 r_gtr ?_
 refine gpo ?_
 refine gM ?_
 refine GF 1 Tryz.underlying38 ti_3 ?_
 refine GB 1 tU3 ?_
 refine G2 r_lss ?_
 refine gpo ?_
 refine gM ?_
 refine GF 1 Tryz.underlying38 ti_3 ?_
 refine GB 1 tU3 ?_
 refine G2 r_gtr ?_
 refine gpo <| ge <| tn ?_
 refine gi (fun h => ((oT h).imp (fun h => ((oT h).imp (fun h => ((oT h).imp (fun h => (dT h)) (fun h => (dT h)))) (fun h => (dT h)))) (fun h => (dT h)))) (fun h => ⟨⟨⟨(dF (oF (oF (oF h).1).1).1), (dF (oF (oF (oF h).1).1).2)⟩, (dF (oF (oF h).1).2)⟩, (dF (oF h).2)⟩) ?_ ?_
 ·refine gS <| gR <| gN <| ge <| tn <| gr <| tr <| gT1 ?_
  exact gz1
 ·refine gk <| tn <| gS <| gS <| gR <| gF 0 Tryz.underlying38 ti_3 ?_
  refine gB 1 tU3 ?_
  refine g2 r_eql <| ge <| tn ?_
  refine gi dT dF ?_ ?_
  ·refine gS <| gR <| gF 4 Tryz.underlying38 ti_3 ?_
   refine gB 1 tU3 ?_
   refine g2 r_geq ?_
   refine gM ?_
   refine GF 4 Tryz.underlying38 ti_3 ?_
   refine GB 1 tU3 ?_
   refine G2 r_leq ?_
   refine gpa ?_
   refine gN <| ge <| tn <| gr <| tr <| gT1 ?_
   exact gz1
  ·refine gk <| tn <| gS ?_
   intro bj ah aD
   have z := ah.ag
   have aG := ah.bx 1 rfl
   have aH := ah.bx 0 rfl
   have aI := ah.chg
   have aJ := ah.new n (by simp)
   have bk : q ≠ n := ah.ne 1 0
   let ay : List (List Nat) := [[], [0], [0, 1], [0, 1, 2], [0, 1, 2, 3], [], [0, 1, 2, 3, 4, 5], [], [0, 1, 2, 3, 4, 5, 6, 7]]
   refine draw' (by kernel_rfl) fun y al => ?_
   have am := aG.ext al
   have aq := aH.ext al
   have aK := aI.more al
   have aL := aJ.up al.size
   have aM := aD y n aL  aK
   obtain ⟨az, aN⟩ := aM
   obtain ⟨ak, ao, ap, aO, aP, aQ⟩ := aN
   obtain ⟨af, aR, aS, aU⟩ := aQ
   refine par (D := ay) (S := [0, 1, 2, 3, 4, 5, 6, 7]) (F := []) (V := VL [(0, fun v _ => v = pB q 0), (1, fun v _ => v = .int .i64 b), (2, fun v _ => v = .pointer (some ((⟨n, 0, none⟩ : Addr).add (b.toNat * 2)))), (3, fun v _ => v = .pointer (some (((⟨n, 0, none⟩ : Addr).add (b.toNat * 2)).add 1))), (4, fun v _ => v = (([.nilFunc, .nilFunc, .func (.func 31) #[] #[], .func (.func 33) #[] #[], .func (.func 34) #[] #[], .func (.func 36) #[] #[], .func (.func 37) #[] #[], .func (.func 39) #[] #[], .func (.func 40) #[] #[], .func (.func 42) #[] #[], .func (.func 43) #[] #[], .func (.func 45) #[] #[], .func (.func 46) #[] #[], .func (.func 48) #[] #[]] : List Value).getD (b.toNat * 2 + 1) .nilFunc)), (5, fun v _ => v = .agg #[.int .i64 b, .int .i64 o, .int .i64 r, .int .i64 s, .int .i64 p, .string (Bs u), .string (Bs x)]), (6, fun v w' => ∃ j : Int, ∃ k : Int, ∃ c : Int, ∃ d : Int, ∃ l : Int, ∃ f : Str, ∃ g : Str, af j k c d l f g w' ∧ v = .agg #[.int .i64 j, .int .i64 k, .int .i64 c, .int .i64 d, .int .i64 l, .string (Bs f), .string (Bs g)]), (7, fun v w' => ∃ m : Nat, y.heap.size ≤ m ∧ Box w' m 38 [.int .i64 0, .int .i64 0, .int .i64 0, .int .i64 0, .int .i64 0, .string (Bs []), .string (Bs [])] ∧ v = pB m 0)]) z (by kernel_rfl) ⟨fun _ _ _ _ h => h, fun _ _ _ _ h => h, fun _ _ _ _ h => h, fun _ _ _ _ h => h, fun _ _ _ _ h => h, fun _ _ _ _ h => h, fun _ _ _ hE ⟨j, k, c, d, l, f, g, h0_, e⟩ => ⟨j, k, c, d, l, f, g, (aR j k c d l f g _ _ hE h0_), e⟩, fun _ _ _ hE ⟨m, h0_, h1_, e⟩ => ⟨m, h0_, (h1_.ext hE), e⟩, trivial⟩ ⟨?_, ?_, ?_, ?_, ?_, ?_, ?_, ?_, trivial⟩ ?_
   ·intro a w hT
    have hAp := hT.ag z [(1, pB q 0)] ⟨rfl, trivial⟩ (by kernel_rfl)
    exact ovr hAp rfl (r_fieldAddr (hAp.get rfl) Tryz.underlying38 rfl ti_3 (by decide)) fun _ => Eq.refl _
   ·intro a w hT
    have hAp := hT.ag z [] trivial (by kernel_rfl)
    have hAp := hAp.add (t := 35) (v := pB q 0) (hT.vals 0 rfl 35 rfl)
    exact ovr hAp rfl (r_load1 tU3 rfl (hAp.get rfl) ((am.ext hT.chg).cell 0 _ rfl)) fun _ => Eq.refl _
   ·intro a w hT
    have hAp := hT.ag z [(3, pB n 0)] ⟨rfl, trivial⟩ (by kernel_rfl)
    have hAp := hAp.add (t := 36) (v := .int .i64 b) (hT.vals 1 rfl 36 rfl)
    exact ovr hAp rfl (r_indexAddrA (hAp.get rfl) (hAp.get rfl) Tryz.underlying56 ti_55 az) fun _ => Eq.refl _
   ·intro a w hT
    have hAp := hT.ag z [] trivial (by kernel_rfl)
    have hAp := hAp.add (t := 37) (v := .pointer (some ((⟨n, 0, none⟩ : Addr).add (b.toNat * 2)))) (hT.vals 2 rfl 37 rfl)
    exact ovr hAp rfl (r_fieldAddr (hAp.get rfl) Tryz.underlying55 rfl ti_53 (by decide)) fun _ => Eq.refl _
   ·intro a w hT
    have hAp := hT.ag z [] trivial (by kernel_rfl)
    have hAp := hAp.add (t := 38) (v := .pointer (some (((⟨n, 0, none⟩ : Addr).add (b.toNat * 2)).add 1))) (hT.vals 3 rfl 38 rfl)
    exact ovr hAp rfl (r_load1 Tryz.underlying53 rfl (hAp.get rfl) (Box.cellAt (aq.ext hT.chg) rfl az (by decide))) fun _ => Eq.refl _
   ·intro a w hT
    have hAp := hT.ag z [(1, pB q 0)] ⟨rfl, trivial⟩ (by kernel_rfl)
    exact ovr hAp rfl (r_loadN (cs := [.int .i64 b, .int .i64 o, .int .i64 r, .int .i64 s, .int .i64 p, .string (Bs u), .string (Bs x)]) Tryz.underlying38 rfl ti_38 (hAp.get rfl) ((am.ext hT.chg).part 0 _ rfl)) fun _ => Eq.refl _
   ·intro a w hT
    have hAp := hT.ag z [] trivial (by kernel_rfl)
    have hAp := hAp.add (t := 39) (v := (([.nilFunc, .nilFunc, .func (.func 31) #[] #[], .func (.func 33) #[] #[], .func (.func 34) #[] #[], .func (.func 36) #[] #[], .func (.func 37) #[] #[], .func (.func 39) #[] #[], .func (.func 40) #[] #[], .func (.func 42) #[] #[], .func (.func 43) #[] #[], .func (.func 45) #[] #[], .func (.func 46) #[] #[], .func (.func 48) #[] #[]] : List Value).getD (b.toNat * 2 + 1) .nilFunc)) (hT.vals 4 rfl 39 rfl)
    have hAp := hAp.add (t := 40) (v := .agg #[.int .i64 b, .int .i64 o, .int .i64 r, .int .i64 s, .int .i64 p, .string (Bs u), .string (Bs x)]) (hT.vals 5 rfl 40 rfl)
    exact opk_callX hAp rfl (r_callO (args := #[.agg #[.int .i64 b, .int .i64 o, .int .i64 r, .int .i64 s, .int .i64 p, .string (Bs u), .string (Bs x)]]) aP (map_arr (ml_cons (hAp.get rfl) ml_nil)) (((hAp.get rfl)).trans aO)) (aS w hT.chg) fun _ _ _ _ e ⟨hE, j, k, c, d, l, f, g, he, hV⟩ => ⟨_, e, hE, fun _ => ⟨j, k, c, d, l, f, g, hV, he⟩⟩
   ·intro a w hT
    have hAp := hT.ag z [] trivial (by kernel_rfl)
    exact opk_new (fun B => .pointer (some ⟨B, 0, none⟩)) hAp rfl (r_alloc (cs := [.int .i64 0, .int .i64 0, .int .i64 0, .int .i64 0, .int .i64 0, .string (Bs []), .string (Bs [])]) ti_38 rfl) fun _ bl m aV aX aY _ e => ⟨_, e, aV, fun _ => ⟨m, Nat.le_trans hT.chg.size aX.ge, aY, rfl⟩⟩
   ·intro bo ab an aZ aA
    have a0 := aZ [(1, pB q 0)] ⟨rfl, trivial⟩ (by kernel_rfl)
    obtain ⟨j, k, c, d, l, f, g, a1, a2⟩ := aA 6 rfl 41 rfl
    have a3 := a0.add a2
    obtain ⟨m, ar, au, a4⟩ := aA 7 rfl 4 rfl
    have av := a3.add a4
    have a5 := am.ext an
    have a6 := aq.ext an
    have bp : Chg [] y ab := an
    have a7 := aU ab j k c d l f g m an a1 ar au
    have aB : q ≠ m := Nat.ne_of_lt (Nat.lt_of_lt_of_le am.lt ar)
    have a8 : n ≠ m := Nat.ne_of_lt (Nat.lt_of_lt_of_le aq.lt ar)
    refine one (D := ay) (i := 8) rfl (by kernel_rfl) (opk_store av au (r_store (vs := [.int .i64 j, .int .i64 k, .int .i64 c, .int .i64 d, .int .i64 l, .string (Bs f), .string (Bs g)]) (av.get rfl) (av.get rfl) rfl ti_38 au rfl (ones_all _ rfl)) fun bq ai ax a9 ba => ?_)
    have bb : Box ai m 38 [.int .i64 j, .int .i64 k, .int .i64 c, .int .i64 d, .int .i64 l, .string (Bs f), .string (Bs g)] := a9
    have bd := a5.keep ax (by simpa using aB)
    have bt := a6.keep ax (by simpa using a8)
    have bf : Chg [m] ab ai := ax
    refine PR_end (by kernel_rfl) ?_
    have bg := ba.kp [(1, pB q 0), (4, pB m 0)] rfl
    refine gK (bs := [(m, 38, [.int .i64 j, .int .i64 k, .int .i64 c, .int .i64 d, .int .i64 l, .string (Bs f), .string (Bs g)]), (q, 38, [.int .i64 b, .int .i64 o, .int .i64 r, .int .i64 s, .int .i64 p, .string (Bs u), .string (Bs x)])]) (N := []) bg bf ⟨bb, bd, trivial⟩ (by simp [(Ne.symm aB)]) trivial (by simp) a7 ?_
    refine tn <| gS <| gR <| gF 2 Tryz.underlying38 ti_3 ?_
    refine gB 1 tU3 ?_
    refine gF 2 Tryz.underlying38 ti_3 ?_
    refine gB 0 tU3 ?_
    refine g2 r_eql ?_
    refine gM ?_
    refine GF 3 Tryz.underlying38 ti_3 ?_
    refine GB 1 tU3 ?_
    refine GF 3 Tryz.underlying38 ti_3 ?_
    refine GB 0 tU3 ?_
    refine G2 r_eql ?_
    refine gpa ?_
    refine gM ?_
    refine GF 4 Tryz.underlying38 ti_3 ?_
    refine GB 1 tU3 ?_
    refine G2 r_eql ?_
    refine gpa ?_
    refine gM ?_
    refine GF 5 Tryz.underlying38 ti_9 ?_
    refine GB 1 tU9 ?_
    refine GF 5 Tryz.underlying38 ti_9 ?_
    refine GB 0 tU9 ?_
    refine G2 r_seql ?_
    refine gpa ?_
    refine gM ?_
    refine GF 6 Tryz.underlying38 ti_9 ?_
    refine GB 1 tU9 ?_
    refine GF 6 Tryz.underlying38 ti_9 ?_
    refine GB 0 tU9 ?_
    refine G2 r_seql ?_
    refine gpa ?_
    refine gN <| ge <| tn <| gr <| gT0 ?_
    exact gz1
def apply_Each.vc (d : Int) (g : Str) (h : Str) (i : Sl) (j : Sl) (k : Sl) (R : Value → World → Prop) (w : World) : Prop :=
∀ (b : World) (l : Nat) (a : Nat), New w l b → New w a b → l ≠ a → Chg [] w b →
∀ (_ : Box b a 23 [Sl.v Sl.nil]),
CallK Tryz.prog 18 #[.agg #[.int .i64 d, .string (Bs g), .string (Bs h), Sl.v i, Sl.v j], Sl.v k, .func (.func 23) #[] #[.pointer (some (⟨a, 0, none⟩ : Addr))]] b [l] (fun v m => ∃ (o : Option Addr) (p : Int) (q : Int), v = .tuple #[.pointer o, .int .i64 p, .int .i64 q] ∧
∃ (n : Sl), (m.cell? (⟨a, 0, none⟩ : Addr) = some (Sl.v n)) ∧
R (Sl.v n) m)
theorem apply_Each.ok (d : Int) (g : Str) (h : Str) (i : Sl) (j : Sl) (k : Sl) {R : Value → World → Prop} {w : World} (r : apply_Each.vc d g h i j k R w) : Calls Tryz.prog 14 #[.agg #[.int .i64 d, .string (Bs g), .string (Bs h), Sl.v i, Sl.v j], Sl.v k] w (Ret R) := by
 refine go _ Tryz.func14 Tryz.ntmps14 r ?_
 refine gS <| gR <| nb fun t l => ?_
 refine gN <| ge <| tn <| gS <| gR ?_
 refine na ti_23 fun b a => ge <| tn <| gS <| gR ?_
 refine gBN 1 5 Tryz.underlying25 ti_25 ?_
 refine gM ?_
 refine g1 (fun s => r_makeFunc (f := #[]) (c := #[pB a 0]) (map_arr ml_nil) (map_arr (ml_cons s ml_nil))) <| gT2 ?_
 refine gX 0 ?_
 refine gC [1] Tryz.func18 fun _ m => gE fun o => gE fun p => gE fun q => gQ <| ge <| tn <| gS <| gR ?_
 refine gE fun n => gL tU23 ?_
 refine gN <| ge <| tn <| gr ?_
 exact gz1
def apply_run.vc (ad : Int) (af : Str) (ah : Str) (ai : Sl) (aj : Sl) (d : Sl) (u : Value) (R : Value → World → Prop) (w : World) : Prop :=
∀ (w5 : World) (ax : Nat), New w ax w5 → Chg [] w w5 →
CallK Tryz.prog 27 #[.agg #[.int .i64 ad, .string (Bs af), .string (Bs ah), Sl.v ai, Sl.v aj]] w5 [ax] (fun v w9 => ∃ (g : Option Addr) (z : Int), v = .tuple #[.pointer g, .int .i64 z] ∧
((z ≠ 0) →
R (.tuple #[.pointer none, .int .i64 0, .int .i64 z]) w9) ∧
((¬ (z ≠ 0)) →
((1500 < (d.n : Int)) →
R (.tuple #[.pointer none, .int .i64 0, .int .i64 2]) w9) ∧
((¬ (1500 < (d.n : Int))) →
CallK Tryz.prog 22 #[] w9 [] (fun v ay => v = .agg #[.nilFunc, .nilFunc, .func (.func 31) #[] #[], .func (.func 33) #[] #[], .func (.func 34) #[] #[], .func (.func 36) #[] #[], .func (.func 37) #[] #[], .func (.func 39) #[] #[], .func (.func 40) #[] #[], .func (.func 42) #[] #[], .func (.func 43) #[] #[], .func (.func 45) #[] #[], .func (.func 46) #[] #[], .func (.func 48) #[] #[]] ∧
∀ (am : World) (f : Nat), New ay f am → Chg [] ay am →
∃ (az : Int → World → Prop) (aP : Int → World → Nat),
az 0 am ∧
(∀ (b : Int) (s : World), az b s →
((b < (d.n : Int)) →
((0 : Int) ≤ b ∧ b < (d.n : Int)) ∧ ∃ aA : Addr, d.a = some aA ∧
∃ (c : Int) (k : Int) (l : Int) (m : Int) (o : Int) (p : Str) (q : Str), (Cells s (aA.add (b.toNat * 7)) [.int .i64 c, .int .i64 k, .int .i64 l, .int .i64 m, .int .i64 o, .string (Bs p), .string (Bs q)]) ∧
∀ (an : World) (j : Nat), New s j an → Chg [] s an →
CallK Tryz.prog 12 #[.agg #[.int .i64 c, .int .i64 k, .int .i64 l, .int .i64 m, .int .i64 o, .string (Bs p), .string (Bs q)]] an [f, j] (fun v ao => ∃ (ap : Bool), v = .bool ap ∧
((ap = false) →
R (.tuple #[.pointer none, .int .i64 b, .int .i64 15]) ao) ∧
((ap = true) →
∀ (x : World), Chg [] ao x →
((0 : Int) ≤ c ∧ c < 7) ∧
∃ (aq : FuncId) (aB aC : Array Value), ((([.nilFunc, .nilFunc, .func (.func 31) #[] #[], .func (.func 33) #[] #[], .func (.func 34) #[] #[], .func (.func 36) #[] #[], .func (.func 37) #[] #[], .func (.func 39) #[] #[], .func (.func 40) #[] #[], .func (.func 42) #[] #[], .func (.func 43) #[] #[], .func (.func 45) #[] #[], .func (.func 46) #[] #[], .func (.func 48) #[] #[]] : List Value).getD (c.toNat * 2 + 0) .nilFunc) = .func (.func aq) aB aC) ∧
∀ (aa : World), Chg [] x aa →
Body Tryz.prog aq ∧
CallK Tryz.prog aq (aB ++ #[.pointer g, .agg #[.int .i64 c, .int .i64 k, .int .i64 l, .int .i64 m, .int .i64 o, .string (Bs p), .string (Bs q)]] ++ aC) aa [f, j] (fun v aD => ∃ (y : Int), v = .int .i64 y ∧
((y ≠ 0) →
R (.tuple #[.pointer none, .int .i64 b, .int .i64 y]) aD) ∧
((¬ (y ≠ 0)) →
∃ (ar : FuncId) (aG aH : Array Value), (u = .func (.func ar) aG aH) ∧
Body Tryz.prog ar ∧
CallK Tryz.prog ar (aG ++ #[.pointer g] ++ aH) aD [f] (fun v aI => v = .tuple #[] ∧
(I64 (b + 1)) ∧
az (b + 1) aI ∧ aP (b + 1) aI < aP b s)))))) ∧
((¬ (b < (d.n : Int))) →
R (.tuple #[.pointer g, .int .i64 (d.n : Int), .int .i64 0]) s))))))
theorem apply_run.ok (ad : Int) (af : Str) (ah : Str) (ai : Sl) (aj : Sl) (d : Sl) (u : Value) {R : Value → World → Prop} {w : World} (aV : apply_run.vc ad af ah ai aj d u R w) : Calls Tryz.prog 18 #[.agg #[.int .i64 ad, .string (Bs af), .string (Bs ah), Sl.v ai, Sl.v aj], Sl.v d, u] w (Ret R) := by
 refine go _ Tryz.func18 Tryz.ntmps18 aV ?_
 refine gS <| gR <| nb fun w5 ax => ?_
 refine gN ?_
 refine gN ?_
 refine gN <| ge <| tn <| gS <| gR ?_
 refine gBN 0 5 Tryz.underlying25 ti_25 <| gT1 ?_
 refine gC [0] Tryz.func27 fun _ w9 => gE fun g => gE fun z => gQ ?_
 refine gM ?_
 refine gx1 ?_
 refine gx1 ?_
 refine gN ?_
 refine gN <| ge <| tn <| gS <| gb <| gS <| gR ?_
 refine gM ?_
 refine g2 r_neq ?_
 refine gN <| ge <| tn ?_
 refine gi dT dF ?_ ?_
 ·refine gS <| gR <| gM ?_
  refine gN ?_
  refine gN ?_
  refine gN <| ge <| tn <| gr <| br <| tr ?_
  exact gz3
 ·refine gS <| gR <| gM ?_
  refine g1 (fun ab => r_len ab tU26) ?_
  refine g2 r_gtr ?_
  refine gN <| ge <| tn ?_
  refine gi dT dF ?_ ?_
  ·refine gS <| gR <| gN ?_
   refine gN ?_
   refine gN <| ge <| tn <| gr <| br <| tr ?_
   exact gz3
  ·refine gk <| bn <| tn <| gS <| gR <| gC [] Tryz.func22 fun _ ay => gQ ?_
   refine na ti_56 fun bu f => ?_
   refine wn 0 0 ti_56 fun am => ge <| tn <| gS <| gS <| gR ?_
   refine gM ?_
   refine g1 (fun ab => r_len ab tU26) ?_
   refine gM <| ge <| tn <| gb <| gT1 <| gE fun _ => gE fun mu => ?_
   refine l1 mu (fun b => [(31, .int .i64 b)]) [(1, _), (2, _), (9, _), (11, _), (29, _), (30, _)] (fun _ => []) [(f, _, _)] [0] fun b s _ => gS <| gR ?_
   refine g2 r_lss <| ge <| tn <| gS ?_
   refine gi dT dF ?_ ?_
   ·refine gk <| tn <| gS <| gb <| gS <| gR <| gM ?_
    refine gI1 tU26 ti_38 fun aA => ?_
    refine gE fun c => gE fun k => gE fun l => gE fun m => gE fun o => gE fun p => gE fun q => gLN Tryz.underlying38 ti_38 ?_
    refine na ti_38 fun bv j => ?_
    refine gN ?_
    refine wn 0 0 ti_38 fun an => ge <| tn <| gS <| gS <| gR ?_
    refine gBN 0 7 Tryz.underlying38 ti_38 <| gT1 ?_
    refine gC [1, 0] Tryz.func12 fun _ ao => gE fun ap => gQ ?_
    refine g1 r_not <| ge <| tn ?_
    refine gi nT nF ?_ ?_
    ·refine gS <| gR <| gM ?_
     refine gN ?_
     refine gN ?_
     refine gN <| ge <| tn <| gr <| tr <| br <| tr <| tr <| br <| tr ?_
     exact gz3
    ·refine gk <| tn <| gS <| gS ?_
     intro bz au aX
     have r := au.ag
     have aY := au.bx 1 rfl
     have aZ := au.bx 0 rfl
     have bA : f ≠ j := au.ne 1 0
     let aJ : List (List Nat) := [[], [0], [0, 1], [0, 1, 2], [0, 1, 2, 3], [], [], [0, 1, 2, 3, 4, 5, 6], [0, 1, 2, 3, 4, 5, 6, 7]]
     refine draw' (by kernel_rfl) fun x aK => ?_
     have aQ := aY.ext aK
     have aL := aZ.ext aK
     have a0 : Chg [] ao x := aK
     have a1 := aX x    a0
     obtain ⟨aR, a2⟩ := a1
     refine par (D := aJ) (S := [0, 1, 2, 3, 4, 5, 6]) (F := []) (V := VL [(0, fun v _ => v = pB j 0), (1, fun v _ => v = .int .i64 c), (2, fun v _ => v = .pointer (some ((⟨f, 0, none⟩ : Addr).add (c.toNat * 2)))), (3, fun v _ => v = .pointer (some (((⟨f, 0, none⟩ : Addr).add (c.toNat * 2)).add 0))), (4, fun v _ => v = (([.nilFunc, .nilFunc, .func (.func 31) #[] #[], .func (.func 33) #[] #[], .func (.func 34) #[] #[], .func (.func 36) #[] #[], .func (.func 37) #[] #[], .func (.func 39) #[] #[], .func (.func 40) #[] #[], .func (.func 42) #[] #[], .func (.func 43) #[] #[], .func (.func 45) #[] #[], .func (.func 46) #[] #[], .func (.func 48) #[] #[]] : List Value).getD (c.toNat * 2 + 0) .nilFunc)), (5, fun v _ => v = .pointer g), (6, fun v _ => v = .agg #[.int .i64 c, .int .i64 k, .int .i64 l, .int .i64 m, .int .i64 o, .string (Bs p), .string (Bs q)])]) r (by kernel_rfl) ⟨fun _ _ _ _ h => h, fun _ _ _ _ h => h, fun _ _ _ _ h => h, fun _ _ _ _ h => h, fun _ _ _ _ h => h, fun _ _ _ _ h => h, fun _ _ _ _ h => h, trivial⟩ ⟨?_, ?_, ?_, ?_, ?_, ?_, ?_, trivial⟩ ?_
     ·intro a w hT
      have hAp := hT.ag r [(13, pB j 0)] ⟨rfl, trivial⟩ (by kernel_rfl)
      exact ovr hAp rfl (r_fieldAddr (hAp.get rfl) Tryz.underlying38 rfl ti_3 (by decide)) fun _ => Eq.refl _
     ·intro a w hT
      have hAp := hT.ag r [] trivial (by kernel_rfl)
      have hAp := hAp.add (t := 40) (v := pB j 0) (hT.vals 0 rfl 40 rfl)
      exact ovr hAp rfl (r_load1 tU3 rfl (hAp.get rfl) ((aL.ext hT.chg).cell 0 _ rfl)) fun _ => Eq.refl _
     ·intro a w hT
      have hAp := hT.ag r [(11, pB f 0)] ⟨rfl, trivial⟩ (by kernel_rfl)
      have hAp := hAp.add (t := 41) (v := .int .i64 c) (hT.vals 1 rfl 41 rfl)
      exact ovr hAp rfl (r_indexAddrA (hAp.get rfl) (hAp.get rfl) Tryz.underlying56 ti_55 aR) fun _ => Eq.refl _
     ·intro a w hT
      have hAp := hT.ag r [] trivial (by kernel_rfl)
      have hAp := hAp.add (t := 42) (v := .pointer (some ((⟨f, 0, none⟩ : Addr).add (c.toNat * 2)))) (hT.vals 2 rfl 42 rfl)
      exact ovr hAp rfl (r_fieldAddr (hAp.get rfl) Tryz.underlying55 rfl ti_52 (by decide)) fun _ => Eq.refl _
     ·intro a w hT
      have hAp := hT.ag r [] trivial (by kernel_rfl)
      have hAp := hAp.add (t := 43) (v := .pointer (some (((⟨f, 0, none⟩ : Addr).add (c.toNat * 2)).add 0))) (hT.vals 3 rfl 43 rfl)
      exact ovr hAp rfl (r_load1 Tryz.underlying52 rfl (hAp.get rfl) (Box.cellAt (aQ.ext hT.chg) rfl aR (by decide))) fun _ => Eq.refl _
     ·intro a w hT
      have hAp := hT.ag r [(9, .pointer g)] ⟨rfl, trivial⟩ (by kernel_rfl)
      exact ovr hAp rfl (r_move (hAp.get rfl)) fun _ => Eq.refl _
     ·intro a w hT
      have hAp := hT.ag r [(13, pB j 0)] ⟨rfl, trivial⟩ (by kernel_rfl)
      exact ovr hAp rfl (r_loadN (cs := [.int .i64 c, .int .i64 k, .int .i64 l, .int .i64 m, .int .i64 o, .string (Bs p), .string (Bs q)]) Tryz.underlying38 rfl ti_38 (hAp.get rfl) ((aL.ext hT.chg).part 0 _ rfl)) fun _ => Eq.refl _
     ·intro aM aa aN a3 aO
      have a4 := a3 [(1, Sl.v d), (2, u), (9, .pointer g), (11, pB f 0), (12, .int .i64 b), (29, Sl.v d), (30, .int .i64 (d.n : Int)), (31, .int .i64 b)] ⟨rfl, rfl, rfl, rfl, rfl, rfl, rfl, rfl, trivial⟩ (by kernel_rfl)
      have a5 : aM.tmps.getD 44 undef = (([.nilFunc, .nilFunc, .func (.func 31) #[] #[], .func (.func 33) #[] #[], .func (.func 34) #[] #[], .func (.func 36) #[] #[], .func (.func 37) #[] #[], .func (.func 39) #[] #[], .func (.func 40) #[] #[], .func (.func 42) #[] #[], .func (.func 43) #[] #[], .func (.func 45) #[] #[], .func (.func 46) #[] #[], .func (.func 48) #[] #[]] : List Value).getD (c.toNat * 2 + 0) .nilFunc) := aO 4 rfl 44 rfl
      have a6 := a4.add a5
      have a7 : aM.tmps.getD 45 undef = .pointer g := aO 5 rfl 45 rfl
      have a8 := a6.add a7
      have a9 : aM.tmps.getD 46 undef = .agg #[.int .i64 c, .int .i64 k, .int .i64 l, .int .i64 m, .int .i64 o, .string (Bs p), .string (Bs q)] := aO 6 rfl 46 rfl
      have av := a8.add a9
      have ba := aQ.ext aN
      have bb := aL.ext aN
      have bd : Chg [] x aa := aN
      obtain ⟨aq, aB, aC, bf, bg⟩ := a2
      have bi := bg aa    bd
      obtain ⟨bj, bk⟩ := bi
      refine one (D := aJ) (i := 7) rfl (by kernel_rfl) (opk_call av rfl (r_callO (args := #[.pointer g, .agg #[.int .i64 c, .int .i64 k, .int .i64 l, .int .i64 m, .int .i64 o, .string (Bs p), .string (Bs q)]]) bj (map_arr (ml_cons (av.get rfl) (ml_cons (av.get rfl) ml_nil))) (((av.get rfl)).trans bf)) bk fun bB bC aD aS _ aU bD bl => ?_)
      obtain ⟨y, rfl, bo⟩ := bl
      have bp := ba.kept aU (.head _)
      have bF := bb.kept aU (.tail _ (.head _))
      refine one (D := aJ) (i := 8) rfl (by kernel_rfl) (opk_val aS rfl (r_assign (aS.get rfl)) fun bG bq _ => ?_)
      refine PR_end (by kernel_rfl) ?_
      have bt := bq.kp [(1, Sl.v d), (2, u), (9, .pointer g), (11, pB f 0), (12, .int .i64 b), (14, .int .i64 y), (29, Sl.v d), (30, .int .i64 (d.n : Int)), (31, .int .i64 b)] rfl
      refine gK (bs := [(f, 56, [.nilFunc, .nilFunc, .func (.func 31) #[] #[], .func (.func 33) #[] #[], .func (.func 34) #[] #[], .func (.func 36) #[] #[], .func (.func 37) #[] #[], .func (.func 39) #[] #[], .func (.func 40) #[] #[], .func (.func 42) #[] #[], .func (.func 43) #[] #[], .func (.func 45) #[] #[], .func (.func 46) #[] #[], .func (.func 48) #[] #[]])]) (N := []) bt (Chg.refl [] _) ⟨bp, trivial⟩ (by simp) trivial (by simp) bo ?_
      refine tn <| gS <| gR <| gM ?_
      refine g2 r_neq <| ge <| tn ?_
      refine gi dT dF ?_ ?_
      ·refine gS <| gR <| gM ?_
       refine gM ?_
       refine gN ?_
       refine gN ?_
       refine gN <| ge <| tn <| gr <| tr <| br <| tr <| tr <| br <| tr ?_
       exact gz3
      ·refine gk <| tn <| gR <| gM ?_
       refine gM <| gE fun ar => gE fun aG => gE fun aH => gA fun hp => ?_
       refine gA fun hb => gCo [0] hb (fun _ h => ((h.opv rfl).trans hp)) fun _ aI => gQ <| ge <| bn <| tn <| gR ?_
       refine g2s r_addI ?_
       refine gM <| ge ?_
       exact k1 [0]
   ·refine gx <| te <| te <| bh <| tn <| gS <| gR <| gM ?_
    refine gM ?_
    refine g1 (fun ab => r_len ab tU26) ?_
    refine gN ?_
    refine gN ?_
    refine gN <| ge <| tn <| gr ?_
    exact gz3
def apply_Apply_1.vc (a : Addr) (R : Value → World → Prop) (w : World) : Prop :=
R (.tuple #[]) w
theorem apply_Apply_1.ok (a : Addr) {R : Value → World → Prop} {w : World} (b : apply_Apply_1.vc a R w) : Calls Tryz.prog 19 #[.pointer (some a)] w (Ret R) := by
 refine go _ Tryz.func19 Tryz.ntmps19 b ?_
 exact gk <| gze <| gz0
def apply_calls.vc  (R : Value → World → Prop) (w : World) : Prop :=
∀ (a : World) (b : Nat), New w b a → Chg [] w a →
R (.agg #[.nilFunc, .nilFunc, .func (.func 31) #[] #[], .func (.func 33) #[] #[], .func (.func 34) #[] #[], .func (.func 36) #[] #[], .func (.func 37) #[] #[], .func (.func 39) #[] #[], .func (.func 40) #[] #[], .func (.func 42) #[] #[], .func (.func 43) #[] #[], .func (.func 45) #[] #[], .func (.func 46) #[] #[], .func (.func 48) #[] #[]]) a
theorem apply_calls.ok  {R : Value → World → Prop} {w : World} (c : apply_calls.vc  R w) : Calls Tryz.prog 22 #[] w (Ret R) := by
 refine go _ Tryz.func22 Tryz.ntmps22 c ?_
 refine gS <| gR <| na ti_56 fun d b => ge <| tn <| gS <| gR ?_
 refine gbu ti_55 Tryz.underlying55 pl_55 (OPs.of rfl) ?_
 refine gbu ti_55 Tryz.underlying55 pl_55 (OPs.of rfl) ?_
 refine gbu ti_55 Tryz.underlying55 pl_55 (OPs.of rfl) ?_
 refine gbu ti_55 Tryz.underlying55 pl_55 (OPs.of rfl) ?_
 refine gbu ti_55 Tryz.underlying55 pl_55 (OPs.of rfl) ?_
 refine gbu ti_55 Tryz.underlying55 pl_55 (OPs.of rfl) ?_
 refine gv (fun _ _ s _ => r_buildA (cells := #[.nilFunc, .nilFunc, .func (.func 31) #[] #[], .func (.func 33) #[] #[], .func (.func 34) #[] #[], .func (.func 36) #[] #[], .func (.func 37) #[] #[], .func (.func 39) #[] #[], .func (.func 40) #[] #[], .func (.func 42) #[] #[], .func (.func 43) #[] #[], .func (.func 45) #[] #[], .func (.func 46) #[] #[], .func (.func 48) #[] #[]]) (map_arr2 (ml2_cons (s.ag.opv rfl) (ml2_cons (s.ag.opv rfl) (ml2_cons (s.ag.opv rfl) (ml2_cons (s.ag.opv rfl) (ml2_cons (s.ag.opv rfl) (ml2_cons (s.ag.opv rfl) (ml2_nil)))))))) ti_56 Tryz.underlying56 ti_55 (by kernel_rfl)) ?_
 refine wn 0 0 ti_56 fun a => ge <| tn <| gr <| gT1 ?_
 exact gzB 0 Tryz.underlying56 ti_56
def apply_Each_1.vc (p : Addr) (m : Addr) (R : Value → World → Prop) (w : World) : Prop :=
∀ (q : World), Chg [] w q →
∃ (k : Sl), (q.cell? m = some (Sl.v k)) ∧
∃ x : Int → Str → Str → Sl → Sl → World → Prop, (∀ d : Int, ∀ f : Str, ∀ g : Str, ∀ i : Sl, ∀ j : Sl, ∀ w' w'' : World, Ext w' w'' → x d f g i j w' → x d f g i j w'') ∧
(∀ w' : World, Ext q w' → Calls Tryz.prog 20 #[.pointer (some p)] w' (Ret fun v w'' => Ext w' w'' ∧ ∃ d : Int, ∃ f : Str, ∃ g : Str, ∃ i : Sl, ∃ j : Sl, v = .agg #[.int .i64 d, .string (Bs f), .string (Bs g), Sl.v i, Sl.v j] ∧ x d f g i j w'')) ∧
∀ (s : World) (d : Int) (f : Str) (g : Str) (i : Sl) (j : Sl) (o : Nat), Ext q s → x d f g i j s → q.heap.size ≤ o → Box s o 25 [.int .i64 0, .string (Bs []), .string (Bs []), Sl.v Sl.nil, Sl.v Sl.nil] → 
∀ (_ : Box s o 25 [.int .i64 0, .string (Bs []), .string (Bs []), Sl.v Sl.nil, Sl.v Sl.nil]),
RunK Tryz.prog (Builtin.append_ #[23, 23] 23 #[Sl.v k, Sl.v (Sl.mk (some ⟨o, 0, none⟩) 1 1)]) s [] (fun v y => ∃ (l : Sl), v = Sl.v l ∧
(y.cell? m = some (Sl.v k)) ∧
∃ u : Addr, (((0 : Int) ≤ (k.n : Int) ∧ (k.n : Int) < (l.n : Int)) ∧ l.a = some u) ∧
(∃ (z am : Nat) (aA : TypeId) (an : List Value), (u.add ((k.n : Int).toNat * 5)) = ⟨z, am, none⟩ ∧ Box y z aA an ∧ am + 5 ≤ an.length ∧ (∀ b ∈ [], b ≠ z) ∧
(∀ aa : World, Chg [z] y aa → Box aa z aA (putAt an am [.int .i64 d, .string (Bs f), .string (Bs g), Sl.v i, Sl.v j]) →
∃ (ab ao : Nat) (aB : TypeId) (ap : List Value), m = ⟨ab, ao, none⟩ ∧ Box aa ab aB ap ∧ ao + 1 ≤ ap.length ∧ (∀ b ∈ [], b ≠ ab) ∧
(∀ ad : World, Chg [ab] aa ad → Box ad ab aB (putAt ap ao [Sl.v l]) →
∀ (aq : World), Chg [] ad aq →
R (.tuple #[]) aq))) ∧
(∃ (af ar : Nat) (aC : TypeId) (au : List Value), m = ⟨af, ar, none⟩ ∧ Box y af aC au ∧ ar + 1 ≤ au.length ∧ (∀ b ∈ [], b ≠ af) ∧
(∀ ah : World, Chg [af] y ah → Box ah af aC (putAt au ar [Sl.v l]) →
∃ (ai av : Nat) (aD : TypeId) (ax : List Value), (u.add ((k.n : Int).toNat * 5)) = ⟨ai, av, none⟩ ∧ Box ah ai aD ax ∧ av + 5 ≤ ax.length ∧ (∀ b ∈ [], b ≠ ai) ∧
(∀ aj : World, Chg [ai] ah aj → Box aj ai aD (putAt ax av [.int .i64 d, .string (Bs f), .string (Bs g), Sl.v i, Sl.v j]) →
∀ (ay : World), Chg [] aj ay →
R (.tuple #[]) ay))))
theorem apply_Each_1.ok (p : Addr) (m : Addr) {R : Value → World → Prop} {w : World} (a0 : apply_Each_1.vc p m R w) : Calls Tryz.prog 23 #[.pointer (some p), .pointer (some m)] w (Ret R) := by
 refine go _ Tryz.func23 Tryz.ntmps23 a0 ?_
 intro a4 s3 a2
 have ak := s3.ag
 let aO : List (List Nat) := [[], [], [1], [0], [], [0, 1, 2, 3, 4], [0, 1, 2, 3, 4, 5], [0, 1, 2, 3, 4, 5, 6], [0, 1, 2, 3, 4, 5]]
 refine draw' (by kernel_rfl) fun q a3 => ?_
 have hC8 : Chg [] w q := a3
 have a5 := a2 q    hC8
 obtain ⟨k, aP, a6⟩ := a5
 refine startF (D := aO) (Fs := [0, 1, 3]) (Ef := [(0, fun v _ => v = Sl.v k), (1, fun v _ => v = .pointer (some p)), (3, fun v _ => v = .int .i64 (k.n : Int))]) (by kernel_rfl) ?_
 obtain ⟨x, a7, a8, a9⟩ := a6
 refine parF (D := aO) (S := [2, 4]) (F := []) (KE := [2, 4]) (E := [(2, fun v w' => ∃ d : Int, ∃ f : Str, ∃ g : Str, ∃ i : Sl, ∃ j : Sl, x d f g i j w' ∧ v = .agg #[.int .i64 d, .string (Bs f), .string (Bs g), Sl.v i, Sl.v j]), (4, fun v w' => ∃ o : Nat, q.heap.size ≤ o ∧ Box w' o 25 [.int .i64 0, .string (Bs []), .string (Bs []), Sl.v Sl.nil, Sl.v Sl.nil] ∧ v = Sl.v (Sl.mk (some ⟨o, 0, none⟩) 1 1))]) ak rfl (by kernel_rfl) ⟨fun _ _ _ hE ⟨d, f, g, i, j, h0_, e⟩ => ⟨d, f, g, i, j, (a7 d f g i j _ _ hE h0_), e⟩, fun _ _ _ hE ⟨o, h0_, h1_, e⟩ => ⟨o, h0_, (h1_.ext hE), e⟩, fun _ _ _ _ h => h, fun _ _ _ _ h => h, fun _ _ _ _ h => h, trivial⟩ ⟨?_, ?_, ?_, ?_, ?_, trivial⟩ ?_
 ·intro a w hT
  have hAp := hT.ag ak [] trivial (by kernel_rfl)
  have hAp := hAp.add (t := 4) (v := .pointer (some p)) (hT.vals 1 rfl 4 rfl)
  exact opk_callX hAp rfl (r_call (args := #[.pointer (some p)]) Tryz.func20 (by decide) rfl (map_arr (ml_cons (hAp.get rfl) ml_nil)) rfl) (a8 w hT.chg) fun _ _ _ _ e ⟨hE, d, f, g, i, j, he, hV⟩ => ⟨_, e, hE, fun _ => ⟨d, f, g, i, j, hV, he⟩⟩
 ·intro a w hT
  have hAp := hT.ag ak [] trivial (by kernel_rfl)
  exact opk_new (fun B => .slice (some ⟨B, 0, none⟩) 1 1) hAp rfl (r_buildSlice (vs := #[(0, .agg #[.int .i64 0, .string (Bs []), .string (Bs []), Sl.v Sl.nil, Sl.v Sl.nil])]) (cs := [.int .i64 0, .string (Bs []), .string (Bs []), Sl.v Sl.nil, Sl.v Sl.nil]) (map_arr2 (ml2_cons rfl (ml2_nil))) tU23 ti_25 rfl rfl (by kernel_rfl)) fun _ cv o ba bb bd _ e => ⟨_, e, ba, fun _ => ⟨o, Nat.le_trans hT.chg.size bb.ge, bd, rfl⟩⟩
 ·intro a w hT
  have hAp := hT.ag ak [(1, .pointer (some m))] ⟨rfl, trivial⟩ (by kernel_rfl)
  exact ovr hAp rfl (r_load1 tU23 rfl (hAp.get rfl) (Ext.cell hT.chg aP)) fun _ => Eq.refl _
 ·intro a w hT
  have hAp := hT.ag ak [(0, .pointer (some p))] ⟨rfl, trivial⟩ (by kernel_rfl)
  exact ovr hAp rfl (r_move (hAp.get rfl)) fun _ => Eq.refl _
 ·intro a w hT
  have hAp := hT.ag ak [] trivial (by kernel_rfl)
  have hAp := hAp.add (t := 3) (v := Sl.v k) (hT.vals 0 rfl 3 rfl)
  exact ovr hAp rfl (r_len (hAp.get rfl) tU23) fun _ => Eq.refl _
 ·intro cx s aG bf aQ
  have bg := bf [(0, .pointer (some p)), (1, .pointer (some m))] ⟨rfl, rfl, trivial⟩ (by kernel_rfl)
  obtain ⟨d, f, g, i, j, bi, bj⟩ := aQ 2 rfl 5 rfl
  have bk := bg.add bj
  obtain ⟨o, bl, aR, bo⟩ := aQ 4 rfl 7 rfl
  have al := bk.add bo
  have cy : Chg [] q s := aG
  have bp := Ext.cell aG aP
  have bq := a9 s d f g i j o aG bi bl aR
  refine oneF (c := 5) al rfl (by kernel_rfl) (constF ⟨fun _ _ _ h => h, fun _ _ _ h => h, fun _ _ _ h => h, trivial⟩) ⟨?_, ?_, ?_, trivial⟩ ?_
  ·intro a hT
   have hAp := hT.ag al [(1, .pointer (some m))] ⟨rfl, trivial⟩ (by kernel_rfl)
   exact opk_val hAp rfl (r_load1 tU23 rfl (hAp.get rfl) (Ext.cell hT.chg bp)) fun _ _ e => ⟨_, e, rfl, fun _ => Eq.refl _⟩
  ·intro a hT
   have hAp := hT.ag al [(0, .pointer (some p))] ⟨rfl, trivial⟩ (by kernel_rfl)
   exact opk_val hAp rfl (r_move (hAp.get rfl)) fun _ _ e => ⟨_, e, rfl, fun _ => Eq.refl _⟩
  ·intro a hT
   have hAp := hT.ag al [] trivial (by kernel_rfl)
   have hAp := hAp.add (t := 3) (v := Sl.v k) (hT.vals 0 rfl 3 rfl)
   exact opk_val hAp rfl (r_len (hAp.get rfl) tU23) fun _ _ e => ⟨_, e, rfl, fun _ => Eq.refl _⟩
  ·intro bt hT
   have bu := hT.ag al [(0, .pointer (some p)), (1, .pointer (some m)), (5, .agg #[.int .i64 d, .string (Bs f), .string (Bs g), Sl.v i, Sl.v j]), (7, Sl.v (Sl.mk (some ⟨o, 0, none⟩) 1 1))] ⟨rfl, rfl, rfl, rfl, trivial⟩ (by kernel_rfl)
   have bv : bt.tmps.getD 3 undef = Sl.v k := hT.vals 0 rfl 3 rfl
   have aH := bu.add bv
   have bx := bq aR
   refine (opk_run aH rfl (fun _ _ hr => r_append (aH.get rfl) (aH.get rfl) hr) bx fun cz cA y bz bA cB cC bB => ?_)
   refine ⟨_, bA, ?_⟩
   obtain ⟨l, rfl, bC⟩ := bB
   obtain ⟨cD, bD⟩ := bC
   refine PRF_drop (X := [0, 1, 3]) (Fs' := []) bz (by kernel_rfl) fun bF bG bH => ?_
   have bI := bG [(1, .pointer (some m)), (5, .agg #[.int .i64 d, .string (Bs f), .string (Bs g), Sl.v i, Sl.v j]), (8, Sl.v l)] ⟨rfl, rfl, rfl, trivial⟩ (by kernel_rfl)
   have bJ : bF.tmps.getD 6 undef = .int .i64 (k.n : Int) := bH 3 rfl 6 rfl
   have az := bI.add bJ
   obtain ⟨u, r, bK⟩ := bD
   refine PRF_more (Fs' := [6]) (En := [(6, fun v _ => v = .pointer (some (u.add ((k.n : Int).toNat * 5))))]) (by kernel_rfl) ?_
   obtain ⟨bL, bM⟩ := bK
   refine twoF (c := 7) (e := 8) az rfl rfl (by kernel_rfl) (constF ⟨fun _ _ _ h => h, trivial⟩) ⟨?_, trivial⟩ ?_ ?_
   ·intro a hT
    have hAp := hT.ag az [(6, .int .i64 (k.n : Int)), (8, Sl.v l)] ⟨rfl, rfl, trivial⟩ (by kernel_rfl)
    exact opk_val hAp rfl (r_indexAddr (hAp.get rfl) (hAp.get rfl) tU23 ti_25 r.1 r.2) fun _ _ e => ⟨_, e, rfl, fun _ => Eq.refl _⟩
   ·intro bN hT
    have bO := hT.ag az [(1, .pointer (some m)), (5, .agg #[.int .i64 d, .string (Bs f), .string (Bs g), Sl.v i, Sl.v j]), (6, .int .i64 (k.n : Int)), (8, Sl.v l)] ⟨rfl, rfl, rfl, rfl, trivial⟩ (by kernel_rfl)
    have bP : bN.tmps.getD 9 undef = .pointer (some (u.add ((k.n : Int).toNat * 5))) := hT.vals 6 rfl 9 rfl
    have aI := bO.add bP
    obtain ⟨z, am, aA, an, bQ, aS, bR, cF, bS⟩ := bL
    refine opk_storeF aI aS (r_store (vs := [.int .i64 d, .string (Bs f), .string (Bs g), Sl.v i, Sl.v j]) (((aI.get rfl)).trans (congrArg (fun a => Value.pointer (some a)) bQ)) (aI.get rfl) rfl ti_25 aS (Nat.ble_eq_true_of_le bR) (ones_all _ rfl)) fun aa bT bU aJ => ⟨undef, Eq.refl _, ?_⟩
    have bV := bS aa bT bU
    refine oneF (c := 8) aJ rfl (by kernel_rfl) (constF ⟨fun _ _ _ h => h, trivial⟩) ⟨?_, trivial⟩ ?_
    ·intro a hT
     have hAp := hT.ag aJ [(6, .int .i64 (k.n : Int)), (8, Sl.v l)] ⟨rfl, rfl, trivial⟩ (by kernel_rfl)
     exact opk_val hAp rfl (r_indexAddr (hAp.get rfl) (hAp.get rfl) tU23 ti_25 r.1 r.2) fun _ _ e => ⟨_, e, rfl, fun _ => Eq.refl _⟩
    ·intro cG hT
     have aK := hT.ag aJ [(1, .pointer (some m)), (5, .agg #[.int .i64 d, .string (Bs f), .string (Bs g), Sl.v i, Sl.v j]), (6, .int .i64 (k.n : Int)), (8, Sl.v l)] ⟨rfl, rfl, rfl, rfl, trivial⟩ (by kernel_rfl)
     obtain ⟨ab, ao, aB, ap, bX, aU, bY, cH, bZ⟩ := bV
     refine opk_storeF aK aU (r_store (vs := [Sl.v l]) (((aK.get rfl)).trans (congrArg (fun a => Value.pointer (some a)) bX)) (aK.get rfl) rfl ti_23 aU (Nat.ble_eq_true_of_le bY) (ones_all _ rfl)) fun ad b0 b1 aV => ⟨undef, Eq.refl _, ?_⟩
     have b2 := bZ ad b0 b1
     refine joinF aV (by kernel_rfl) ⟨fun _ _ _ _ h => h, trivial⟩ ⟨?_, trivial⟩ ?_
     ·intro a w hT
      have hAp := hT.ag aV [(6, .int .i64 (k.n : Int)), (8, Sl.v l)] ⟨rfl, rfl, trivial⟩ (by kernel_rfl)
      exact ovr hAp rfl (r_indexAddr (hAp.get rfl) (hAp.get rfl) tU23 ti_25 r.1 r.2) fun _ => Eq.refl _
     ·intro cI aq b3 b4 cJ
      have b5 := b4 [] trivial (by kernel_rfl)
      have b6 : Chg [] ad aq := b3
      refine PR_end (by kernel_rfl) ?_
      have b7 := b5.kp [] rfl
      refine gK (bs := []) (N := []) b7 b6 trivial (by simp) trivial (by simp) b2 ?_
      exact gze <| gT0 <| gz0
   ·intro cK hT
    have aL := hT.ag az [(1, .pointer (some m)), (5, .agg #[.int .i64 d, .string (Bs f), .string (Bs g), Sl.v i, Sl.v j]), (6, .int .i64 (k.n : Int)), (8, Sl.v l)] ⟨rfl, rfl, rfl, rfl, trivial⟩ (by kernel_rfl)
    obtain ⟨af, ar, aC, au, b8, aX, b9, cL, ca⟩ := bM
    refine opk_storeF aL aX (r_store (vs := [Sl.v l]) (((aL.get rfl)).trans (congrArg (fun a => Value.pointer (some a)) b8)) (aL.get rfl) rfl ti_23 aX (Nat.ble_eq_true_of_le b9) (ones_all _ rfl)) fun ah cb cc aM => ⟨undef, Eq.refl _, ?_⟩
    have cd := ca ah cb cc
    refine oneF (c := 7) aM rfl (by kernel_rfl) (constF ⟨fun _ _ _ h => h, trivial⟩) ⟨?_, trivial⟩ ?_
    ·intro a hT
     have hAp := hT.ag aM [(6, .int .i64 (k.n : Int)), (8, Sl.v l)] ⟨rfl, rfl, trivial⟩ (by kernel_rfl)
     exact opk_val hAp rfl (r_indexAddr (hAp.get rfl) (hAp.get rfl) tU23 ti_25 r.1 r.2) fun _ _ e => ⟨_, e, rfl, fun _ => Eq.refl _⟩
    ·intro cf hT
     have cg := hT.ag aM [(1, .pointer (some m)), (5, .agg #[.int .i64 d, .string (Bs f), .string (Bs g), Sl.v i, Sl.v j]), (6, .int .i64 (k.n : Int)), (8, Sl.v l)] ⟨rfl, rfl, rfl, rfl, trivial⟩ (by kernel_rfl)
     have ch : cf.tmps.getD 9 undef = .pointer (some (u.add ((k.n : Int).toNat * 5))) := hT.vals 6 rfl 9 rfl
     have aN := cg.add ch
     obtain ⟨ai, av, aD, ax, ci, aY, cj, cM, ck⟩ := cd
     refine opk_storeF aN aY (r_store (vs := [.int .i64 d, .string (Bs f), .string (Bs g), Sl.v i, Sl.v j]) (((aN.get rfl)).trans (congrArg (fun a => Value.pointer (some a)) ci)) (aN.get rfl) rfl ti_25 aY (Nat.ble_eq_true_of_le cj) (ones_all _ rfl)) fun aj cl cm aZ => ⟨undef, Eq.refl _, ?_⟩
     have cn := ck aj cl cm
     refine joinF aZ (by kernel_rfl) ⟨fun _ _ _ _ h => h, trivial⟩ ⟨?_, trivial⟩ ?_
     ·intro a w hT
      have hAp := hT.ag aZ [(6, .int .i64 (k.n : Int)), (8, Sl.v l)] ⟨rfl, rfl, trivial⟩ (by kernel_rfl)
      exact ovr hAp rfl (r_indexAddr (hAp.get rfl) (hAp.get rfl) tU23 ti_25 r.1 r.2) fun _ => Eq.refl _
     ·intro cN ay co cp cO
      have cq := cp [] trivial (by kernel_rfl)
      have cr : Chg [] aj ay := co
      refine PR_end (by kernel_rfl) ?_
      have ct := cq.kp [] rfl
      refine gK (bs := []) (N := []) ct cr trivial (by simp) trivial (by simp) cn ?_
      exact gze <| gT0 <| gz0
def apply_calls_1.vc (a : Addr) (j : Int) (b : Int) (c : Int) (d : Int) (f : Int) (g : Str) (h : Str) (R : Value → World → Prop) (w : World) : Prop :=
∀ (i : World) (k : Nat), New w k i → Chg [] w i →
CallK Tryz.prog 32 #[.pointer (some a), .int .i64 b, .int .i64 c, .int .i64 d, .agg #[.int .i64 f, .string (Bs g), .string (Bs h), Sl.v Sl.nil, Sl.v Sl.nil]] i [k] (fun v m => ∃ (l : Int), v = .int .i64 l ∧
R (.int .i64 l) m)
theorem apply_calls_1.ok (a : Addr) (j : Int) (b : Int) (c : Int) (d : Int) (f : Int) (g : Str) (h : Str) {R : Value → World → Prop} {w : World} (n : apply_calls_1.vc a j b c d f g h R w) : Calls Tryz.prog 31 #[.pointer (some a), .agg #[.int .i64 j, .int .i64 b, .int .i64 c, .int .i64 d, .int .i64 f, .string (Bs g), .string (Bs h)]] w (Ret R) := by
 refine go _ Tryz.func31 Tryz.ntmps31 n ?_
 refine gS <| gR <| nb fun i k => ?_
 refine gN <| ge <| tn <| gS <| gR ?_
 refine gM ?_
 refine gF 1 Tryz.underlying38 ti_3 ?_
 refine gB 0 tU3 ?_
 refine gF 2 Tryz.underlying38 ti_3 ?_
 refine gB 0 tU3 ?_
 refine gF 3 Tryz.underlying38 ti_3 ?_
 refine gB 0 tU3 ?_
 refine gF 4 Tryz.underlying38 ti_3 ?_
 refine gB 0 tU3 ?_
 refine gF 5 Tryz.underlying38 ti_9 ?_
 refine gB 0 tU9 ?_
 refine gF 6 Tryz.underlying38 ti_9 ?_
 refine gB 0 tU9 ?_
 refine gbu ti_25 Tryz.underlying25 pl_25 (OPs.of rfl) <| gT1 ?_
 refine gC [0] Tryz.func32 fun _ m => gE fun l => gQ ?_
 refine gN <| ge <| tn <| gr ?_
 exact gz1
def apply_calls_3.vc (a : Addr) (d : Int) (b : Int) (f : Int) (g : Int) (h : Int) (i : Str) (j : Str) (R : Value → World → Prop) (w : World) : Prop :=
∀ (c : World) (k : Nat), New w k c → Chg [] w c →
CallK Tryz.prog 35 #[.pointer (some a), .int .i64 b] c [k] (fun v m => ∃ (l : Int), v = .int .i64 l ∧
R (.int .i64 l) m)
theorem apply_calls_3.ok (a : Addr) (d : Int) (b : Int) (f : Int) (g : Int) (h : Int) (i : Str) (j : Str) {R : Value → World → Prop} {w : World} (n : apply_calls_3.vc a d b f g h i j R w) : Calls Tryz.prog 34 #[.pointer (some a), .agg #[.int .i64 d, .int .i64 b, .int .i64 f, .int .i64 g, .int .i64 h, .string (Bs i), .string (Bs j)]] w (Ret R) := by
 refine go _ Tryz.func34 Tryz.ntmps34 n ?_
 refine gS <| gR <| nb fun c k => ?_
 refine gN <| ge <| tn <| gS <| gR ?_
 refine gM ?_
 refine gF 1 Tryz.underlying38 ti_3 ?_
 refine gB 0 tU3 <| gT1 ?_
 refine gC [0] Tryz.func35 fun _ m => gE fun l => gQ ?_
 refine gN <| ge <| tn <| gr ?_
 exact gz1
def apply_calls_4.vc (b : Int) (c : Int) (d : Int) (f : Int) (g : Int) (h : Str) (i : Str) (R : Value → World → Prop) (w : World) : Prop :=
∀ (a : World) (j : Nat) (k : Nat), New w j a → New w k a → j ≠ k → Chg [] w a →
R (.agg #[.int .i64 0, .int .i64 0, .int .i64 0, .int .i64 0, .int .i64 0, .string (Bs []), .string (Bs [])]) a
theorem apply_calls_4.ok (b : Int) (c : Int) (d : Int) (f : Int) (g : Int) (h : Str) (i : Str) {R : Value → World → Prop} {w : World} (l : apply_calls_4.vc b c d f g h i R w) : Calls Tryz.prog 36 #[.agg #[.int .i64 b, .int .i64 c, .int .i64 d, .int .i64 f, .int .i64 g, .string (Bs h), .string (Bs i)]] w (Ret R) := by
 refine go _ Tryz.func36 Tryz.ntmps36 l ?_
 refine gS <| gR <| nb fun m j => ?_
 refine na ti_38 fun n k => ge <| tn <| gS <| gR ?_
 refine gbK #[.int .i64 0, .int .i64 0, .int .i64 0, .int .i64 0, .int .i64 0, .string (Bs []), .string (Bs [])] ti_38 Tryz.underlying38 pl_38 ?_
 refine wn 0 0 ti_38 fun a => ge <| tn <| gr <| gT2 ?_
 exact gzB 0 Tryz.underlying38 ti_38
def apply_calls_5.vc (a : Addr) (g : Int) (b : Int) (c : Int) (d : Int) (h : Int) (i : Str) (j : Str) (R : Value → World → Prop) (w : World) : Prop :=
∀ (f : World) (k : Nat), New w k f → Chg [] w f →
CallK Tryz.prog 38 #[.pointer (some a), .int .i64 b, .int .i64 c, .int .i64 d] f [k] (fun v m => ∃ (l : Int), v = .int .i64 l ∧
R (.int .i64 l) m)
theorem apply_calls_5.ok (a : Addr) (g : Int) (b : Int) (c : Int) (d : Int) (h : Int) (i : Str) (j : Str) {R : Value → World → Prop} {w : World} (n : apply_calls_5.vc a g b c d h i j R w) : Calls Tryz.prog 37 #[.pointer (some a), .agg #[.int .i64 g, .int .i64 b, .int .i64 c, .int .i64 d, .int .i64 h, .string (Bs i), .string (Bs j)]] w (Ret R) := by
 refine go _ Tryz.func37 Tryz.ntmps37 n ?_
 refine gS <| gR <| nb fun f k => ?_
 refine gN <| ge <| tn <| gS <| gR ?_
 refine gM ?_
 refine gF 1 Tryz.underlying38 ti_3 ?_
 refine gB 0 tU3 ?_
 refine gF 2 Tryz.underlying38 ti_3 ?_
 refine gB 0 tU3 ?_
 refine gF 3 Tryz.underlying38 ti_3 ?_
 refine gB 0 tU3 <| gT1 ?_
 refine gC [0] Tryz.func38 fun _ m => gE fun l => gQ ?_
 refine gN <| ge <| tn <| gr ?_
 exact gz1
def apply_calls_6.vc (d : Int) (f : Int) (a : Int) (b : Int) (g : Int) (h : Str) (i : Str) (R : Value → World → Prop) (w : World) : Prop :=
∀ (c : World) (j : Nat) (k : Nat), New w j c → New w k c → j ≠ k → Chg [] w c →
R (.agg #[.int .i64 0, .int .i64 0, .int .i64 a, .int .i64 b, .int .i64 0, .string (Bs []), .string (Bs [])]) c
theorem apply_calls_6.ok (d : Int) (f : Int) (a : Int) (b : Int) (g : Int) (h : Str) (i : Str) {R : Value → World → Prop} {w : World} (l : apply_calls_6.vc d f a b g h i R w) : Calls Tryz.prog 39 #[.agg #[.int .i64 d, .int .i64 f, .int .i64 a, .int .i64 b, .int .i64 g, .string (Bs h), .string (Bs i)]] w (Ret R) := by
 refine go _ Tryz.func39 Tryz.ntmps39 l ?_
 refine gS <| gR <| nb fun m j => ?_
 refine na ti_38 fun n k => ge <| tn <| gS <| gR ?_
 refine gF 2 Tryz.underlying38 ti_3 ?_
 refine gB 1 tU3 ?_
 refine gF 3 Tryz.underlying38 ti_3 ?_
 refine gB 1 tU3 ?_
 refine gbK #[.int .i64 0, .int .i64 0, .int .i64 a, .int .i64 b, .int .i64 0, .string (Bs []), .string (Bs [])] ti_38 Tryz.underlying38 pl_38 ?_
 refine wn 0 0 ti_38 fun c => ge <| tn <| gr <| gT2 ?_
 exact gzB 0 Tryz.underlying38 ti_38
def apply_calls_7.vc (a : Addr) (g : Int) (b : Int) (h : Int) (i : Int) (j : Int) (c : Str) (d : Str) (R : Value → World → Prop) (w : World) : Prop :=
∀ (f : World) (k : Nat), New w k f → Chg [] w f →
CallK Tryz.prog 41 #[.pointer (some a), .int .i64 b, .string (Bs c), .string (Bs d)] f [k] (fun v m => ∃ (l : Int), v = .int .i64 l ∧
R (.int .i64 l) m)
theorem apply_calls_7.ok (a : Addr) (g : Int) (b : Int) (h : Int) (i : Int) (j : Int) (c : Str) (d : Str) {R : Value → World → Prop} {w : World} (n : apply_calls_7.vc a g b h i j c d R w) : Calls Tryz.prog 40 #[.pointer (some a), .agg #[.int .i64 g, .int .i64 b, .int .i64 h, .int .i64 i, .int .i64 j, .string (Bs c), .string (Bs d)]] w (Ret R) := by
 refine go _ Tryz.func40 Tryz.ntmps40 n ?_
 refine gS <| gR <| nb fun f k => ?_
 refine gN <| ge <| tn <| gS <| gR ?_
 refine gM ?_
 refine gF 1 Tryz.underlying38 ti_3 ?_
 refine gB 0 tU3 ?_
 refine gF 5 Tryz.underlying38 ti_9 ?_
 refine gB 0 tU9 ?_
 refine gF 6 Tryz.underlying38 ti_9 ?_
 refine gB 0 tU9 <| gT1 ?_
 refine gC [0] Tryz.func41 fun _ m => gE fun l => gQ ?_
 refine gN <| ge <| tn <| gr ?_
 exact gz1
def apply_calls_8.vc (d : Int) (f : Int) (g : Int) (h : Int) (i : Int) (a : Str) (b : Str) (R : Value → World → Prop) (w : World) : Prop :=
∀ (c : World) (j : Nat) (k : Nat), New w j c → New w k c → j ≠ k → Chg [] w c →
R (.agg #[.int .i64 0, .int .i64 0, .int .i64 0, .int .i64 0, .int .i64 0, .string (Bs a), .string (Bs b)]) c
theorem apply_calls_8.ok (d : Int) (f : Int) (g : Int) (h : Int) (i : Int) (a : Str) (b : Str) {R : Value → World → Prop} {w : World} (l : apply_calls_8.vc d f g h i a b R w) : Calls Tryz.prog 42 #[.agg #[.int .i64 d, .int .i64 f, .int .i64 g, .int .i64 h, .int .i64 i, .string (Bs a), .string (Bs b)]] w (Ret R) := by
 refine go _ Tryz.func42 Tryz.ntmps42 l ?_
 refine gS <| gR <| nb fun m j => ?_
 refine na ti_38 fun n k => ge <| tn <| gS <| gR ?_
 refine gF 5 Tryz.underlying38 ti_9 ?_
 refine gB 1 tU9 ?_
 refine gF 6 Tryz.underlying38 ti_9 ?_
 refine gB 1 tU9 ?_
 refine gbK #[.int .i64 0, .int .i64 0, .int .i64 0, .int .i64 0, .int .i64 0, .string (Bs a), .string (Bs b)] ti_38 Tryz.underlying38 pl_38 ?_
 refine wn 0 0 ti_38 fun c => ge <| tn <| gr <| gT2 ?_
 exact gzB 0 Tryz.underlying38 ti_38
def apply_calls_9.vc (a : Addr) (f : Int) (b : Int) (g : Int) (h : Int) (i : Int) (c : Str) (j : Str) (R : Value → World → Prop) (w : World) : Prop :=
∀ (d : World) (k : Nat), New w k d → Chg [] w d →
CallK Tryz.prog 44 #[.pointer (some a), .int .i64 b, .string (Bs c)] d [k] (fun v m => ∃ (l : Int), v = .int .i64 l ∧
R (.int .i64 l) m)
theorem apply_calls_9.ok (a : Addr) (f : Int) (b : Int) (g : Int) (h : Int) (i : Int) (c : Str) (j : Str) {R : Value → World → Prop} {w : World} (n : apply_calls_9.vc a f b g h i c j R w) : Calls Tryz.prog 43 #[.pointer (some a), .agg #[.int .i64 f, .int .i64 b, .int .i64 g, .int .i64 h, .int .i64 i, .string (Bs c), .string (Bs j)]] w (Ret R) := by
 refine go _ Tryz.func43 Tryz.ntmps43 n ?_
 refine gS <| gR <| nb fun d k => ?_
 refine gN <| ge <| tn <| gS <| gR ?_
 refine gM ?_
 refine gF 1 Tryz.underlying38 ti_3 ?_
 refine gB 0 tU3 ?_
 refine gF 5 Tryz.underlying38 ti_9 ?_
 refine gB 0 tU9 <| gT1 ?_
 refine gC [0] Tryz.func44 fun _ m => gE fun l => gQ ?_
 refine gN <| ge <| tn <| gr ?_
 exact gz1
def apply_calls_10.vc (c : Int) (d : Int) (f : Int) (g : Int) (h : Int) (a : Str) (i : Str) (R : Value → World → Prop) (w : World) : Prop :=
∀ (b : World) (j : Nat) (k : Nat), New w j b → New w k b → j ≠ k → Chg [] w b →
R (.agg #[.int .i64 0, .int .i64 0, .int .i64 0, .int .i64 0, .int .i64 0, .string (Bs a), .string (Bs [])]) b
theorem apply_calls_10.ok (c : Int) (d : Int) (f : Int) (g : Int) (h : Int) (a : Str) (i : Str) {R : Value → World → Prop} {w : World} (l : apply_calls_10.vc c d f g h a i R w) : Calls Tryz.prog 45 #[.agg #[.int .i64 c, .int .i64 d, .int .i64 f, .int .i64 g, .int .i64 h, .string (Bs a), .string (Bs i)]] w (Ret R) := by
 refine go _ Tryz.func45 Tryz.ntmps45 l ?_
 refine gS <| gR <| nb fun m j => ?_
 refine na ti_38 fun n k => ge <| tn <| gS <| gR ?_
 refine gF 5 Tryz.underlying38 ti_9 ?_
 refine gB 1 tU9 ?_
 refine gbK #[.int .i64 0, .int .i64 0, .int .i64 0, .int .i64 0, .int .i64 0, .string (Bs a), .string (Bs [])] ti_38 Tryz.underlying38 pl_38 ?_
 refine wn 0 0 ti_38 fun b => ge <| tn <| gr <| gT2 ?_
 exact gzB 0 Tryz.underlying38 ti_38
def apply_calls_11.vc (a : Addr) (f : Int) (b : Int) (g : Int) (h : Int) (i : Int) (j : Str) (c : Str) (R : Value → World → Prop) (w : World) : Prop :=
∀ (d : World) (k : Nat), New w k d → Chg [] w d →
CallK Tryz.prog 47 #[.pointer (some a), .int .i64 b, .string (Bs c)] d [k] (fun v m => ∃ (l : Int), v = .int .i64 l ∧
R (.int .i64 l) m)
theorem apply_calls_11.ok (a : Addr) (f : Int) (b : Int) (g : Int) (h : Int) (i : Int) (j : Str) (c : Str) {R : Value → World → Prop} {w : World} (n : apply_calls_11.vc a f b g h i j c R w) : Calls Tryz.prog 46 #[.pointer (some a), .agg #[.int .i64 f, .int .i64 b, .int .i64 g, .int .i64 h, .int .i64 i, .string (Bs j), .string (Bs c)]] w (Ret R) := by
 refine go _ Tryz.func46 Tryz.ntmps46 n ?_
 refine gS <| gR <| nb fun d k => ?_
 refine gN <| ge <| tn <| gS <| gR ?_
 refine gM ?_
 refine gF 1 Tryz.underlying38 ti_3 ?_
 refine gB 0 tU3 ?_
 refine gF 6 Tryz.underlying38 ti_9 ?_
 refine gB 0 tU9 <| gT1 ?_
 refine gC [0] Tryz.func47 fun _ m => gE fun l => gQ ?_
 refine gN <| ge <| tn <| gr ?_
 exact gz1
def apply_calls_12.vc (c : Int) (d : Int) (f : Int) (g : Int) (h : Int) (i : Str) (a : Str) (R : Value → World → Prop) (w : World) : Prop :=
∀ (b : World) (j : Nat) (k : Nat), New w j b → New w k b → j ≠ k → Chg [] w b →
R (.agg #[.int .i64 0, .int .i64 0, .int .i64 0, .int .i64 0, .int .i64 0, .string (Bs []), .string (Bs a)]) b
theorem apply_calls_12.ok (c : Int) (d : Int) (f : Int) (g : Int) (h : Int) (i : Str) (a : Str) {R : Value → World → Prop} {w : World} (l : apply_calls_12.vc c d f g h i a R w) : Calls Tryz.prog 48 #[.agg #[.int .i64 c, .int .i64 d, .int .i64 f, .int .i64 g, .int .i64 h, .string (Bs i), .string (Bs a)]] w (Ret R) := by
 refine go _ Tryz.func48 Tryz.ntmps48 l ?_
 refine gS <| gR <| nb fun m j => ?_
 refine na ti_38 fun n k => ge <| tn <| gS <| gR ?_
 refine gF 6 Tryz.underlying38 ti_9 ?_
 refine gB 1 tU9 ?_
 refine gbK #[.int .i64 0, .int .i64 0, .int .i64 0, .int .i64 0, .int .i64 0, .string (Bs []), .string (Bs a)] ti_38 Tryz.underlying38 pl_38 ?_
 refine wn 0 0 ti_38 fun b => ge <| tn <| gr <| gT2 ?_
 exact gzB 0 Tryz.underlying38 ti_38
end Go.Proofs.YtghmgfkdnolcdaaGreat
