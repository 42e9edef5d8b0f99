/-
  PRINTED BY PROGRAM: for each function its condition (vc), and that this suffices (ok).
-/
import Derived.Test.YtghmgfkdnolcdaaGreatQApplyAllGT
namespace Go.Proofs.YtghmgfkdnolcdaaGreat
open Go.RowKit
set_option linter.unusedVariables false
set_option maxHeartbeats 1000000
set_option maxRecDepth 10000
def ref06_without.vc (f : Sl) (g : Int) (R : Value → World → Prop) (w : World) : Prop :=
∃ (i : Sl → Int → World → Prop) (j : Sl → Int → World → Nat),
i Sl.nil 0 w ∧
(∀ (d : Sl) (b : Int) (c : World), i d b c →
((b < (f.n : Int)) →
((0 : Int) ≤ b ∧ b < (f.n : Int)) ∧ ∃ p : Addr, f.a = some p ∧
∃ (k : Int), (c.cell? (p.add (b.toNat * 1)) = some (.int .i64 k)) ∧
((k ≠ g) →
((0 : Int) ≤ b ∧ b < (f.n : Int)) ∧ ∃ q : Addr, f.a = some q ∧
∃ (l : Int), (c.cell? (q.add (b.toNat * 1)) = some (.int .i64 l)) ∧
∀ (h : World) (m : Nat), New c m h → Chg [] c h →
∀ (_ : Box h m 3 [.int .i64 l]),
RunK Tryz.prog (Builtin.append_ #[78, 78] 78 #[Sl.v d, Sl.v (Sl.mk (some ⟨m, 0, none⟩) 1 1)]) h [] (fun v r => ∃ (o : Sl), v = Sl.v o ∧
(I64 (b + 1)) ∧
i o (b + 1) r ∧ j o (b + 1) r < j d b c)) ∧
((¬ (k ≠ g)) →
(I64 (b + 1)) ∧
i d (b + 1) c ∧ j d (b + 1) c < j d b c)) ∧
((¬ (b < (f.n : Int))) →
R (Sl.v d) c))
theorem ref06_without.ok (f : Sl) (g : Int) {R : Value → World → Prop} {w : World} (s : ref06_without.vc f g R w) : Calls Tryz.prog 82 #[Sl.v f, .int .i64 g] w (Ret R) := by
 refine go _ Tryz.func82 Tryz.ntmps82 s ?_
 refine gS <| gR <| gN <| ge <| tn <| gS <| gR ?_
 refine gN <| ge <| tn <| gS <| gS <| gR ?_
 refine gN <| ge <| tn <| gb <| gE fun _ => gE fun mu => ?_
 refine l2 mu (fun d b => [(5, Sl.v d), (6, .int .i64 b)]) [(0, _), (1, _)] (fun _ _ => []) [] [] fun d b c _ => gS <| gS <| gR ?_
 refine gM ?_
 refine gM ?_
 refine g1 (fun t => r_len t tU78) ?_
 refine g2 r_lss <| ge <| tn ?_
 refine gi dT dF ?_ ?_
 ·refine gk <| tn <| gS <| gb <| gS <| gR <| gM ?_
  refine gM ?_
  refine gI1 tU78 ti_3 fun p => ?_
  refine gE fun k => gL tU3 ?_
  refine gM ?_
  refine g2 r_neq <| ge <| tn ?_
  refine gi dT dF ?_ ?_
  ·refine gR <| gM ?_
   refine gM ?_
   refine gM ?_
   refine gI1 tU78 ti_3 fun q => ?_
   refine gE fun l => gL tU3 ?_
   refine ns [.int .i64 l] tU78 ti_3 fun h m => gT1 ?_
   refine gX 0 ?_
   refine gR2 [] r_append fun _ r => gE fun o => gQ ?_
   refine gN <| ge <| bn <| tn <| gR ?_
   refine gM ?_
   refine g2s r_addI ?_
   refine gN <| ge ?_
   exact k2 []
  ·refine gk <| bn <| tn <| gR <| gM ?_
   refine g2s r_addI ?_
   refine gN <| ge ?_
   exact k2 []
 ·refine gx <| te <| te <| bh <| tn <| gS <| gR <| gM ?_
  refine gN <| ge <| tn <| gr ?_
  exact gz1
def ref06_D_Within.vc (c : Addr) (d : Int) (g : Int) (R : Value → World → Prop) (w : World) : Prop :=
CallK Tryz.prog 57 #[.pointer (some c), .int .i64 g] w [] (fun v s => ∃ (l : Option Addr), v = .pointer l ∧
∃ (m : (Option Addr) → World → Prop) (t : (Option Addr) → World → Nat),
m l s ∧
(∀ (a : Option Addr) (f : World), m a f →
∃ (i : Int), ((((Option.isNone a) = false)) → Calls Tryz.prog 77 #[.pointer (some c), .int .i64 d] f (Ret fun v w' => Ext f w' ∧ v = .int .i64 i)) ∧
(∀ b : World, Ext f b →
((((Option.isNone a) = false) ∧ (0 ≤ i)) →
∃ n : Addr, (a = some n) ∧
∃ (j : Int), (b.cell? (n.add 0) = some (.int .i64 j)) ∧
((j = d) →
R (.bool true) b) ∧
((¬ (j = d)) →
∃ p : Addr, (a = some p) ∧
∃ (q : Int), (b.cell? (p.add 1) = some (.int .i64 q)) ∧
CallK Tryz.prog 57 #[.pointer (some c), .int .i64 q] b [] (fun v r => ∃ (k : Option Addr), v = .pointer k ∧
m k r ∧ t k r < t a f))) ∧
((((Option.isNone a) = true) ∨ (¬ (0 ≤ i))) →
R (.bool false) b))))
theorem ref06_D_Within.ok (c : Addr) (d : Int) (g : Int) {R : Value → World → Prop} {w : World} (u : ref06_D_Within.vc c d g R w) : Calls Tryz.prog 83 #[.pointer (some c), .int .i64 d, .int .i64 g] w (Ret R) := by
 refine go _ Tryz.func83 Tryz.ntmps83 u ?_
 refine gS <| gR <| gN <| ge <| tn <| gS <| gS <| gR ?_
 refine gM ?_
 refine gM ?_
 refine gC [] Tryz.func57 fun _ s => gE fun l => gQ ?_
 refine gN <| ge <| tn <| gb <| gE fun _ => gE fun mu => ?_
 refine l1 mu (fun a => [(7, .pointer a)]) [(0, _), (1, _)] (fun _ => []) [] [] fun a f _ => gS <| gS <| gR ?_
 refine gM ?_
 refine g2 (fun x y => r_pnnil (o := a) x y tU76) ?_
 refine gM ?_
 refine G1 r_move ?_
 refine G1 r_move ?_
 refine gE fun i => GC Tryz.func77 (fun hg => (nT (g_t hg))) fun b => ?_
 refine G2 r_geq ?_
 refine gpa <| ge <| tn ?_
 refine gi (fun h => ⟨(nT (aT h).1), (dT (aT h).2)⟩) (fun h => ((aF h).imp (fun h => (nF h)) (fun h => (dF h)))) ?_ ?_
 ·refine gk <| tn <| gS <| gb <| gS <| gR <| gM ?_
  refine gnP fun n => ?_
  refine gF 0 Tryz.underlying80 ti_3 ?_
  refine gE fun j => gL tU3 ?_
  refine gM ?_
  refine g2 r_eql <| ge <| tn ?_
  refine gi dT dF ?_ ?_
  ·refine gS <| gR <| gN <| ge <| tn <| gr <| br <| tr <| tr <| br <| tr ?_
   exact gz1
  ·refine gk <| bn <| tn <| gR <| gM ?_
   refine gM ?_
   refine gnP fun p => ?_
   refine gF 1 Tryz.underlying80 ti_3 ?_
   refine gE fun q => gL tU3 ?_
   refine gC [] Tryz.func57 fun _ r => gE fun k => gQ ?_
   refine gN <| ge ?_
   exact k1 []
 ·refine gx <| te <| te <| bh <| tn <| gS <| gR <| gN <| ge <| tn <| gr ?_
  exact gz1
def ref06_With.vc (c : Sl) (d : Str) (l : Str) (R : Value → World → Prop) (w : World) : Prop :=
∃ (r : Sl → Bool → Int → World → Prop) (s : Sl → Bool → Int → World → Nat),
r Sl.nil false 0 w ∧
(∀ (i : Sl) (f : Bool) (b : Int) (g : World), r i f b g →
((b < (c.n : Int)) →
((0 : Int) ≤ b ∧ b < (c.n : Int)) ∧ ∃ af : Addr, c.a = some af ∧
∃ (t : Str), (g.cell? ((af.add (b.toNat * 2)).add 0) = some (.string (Bs t))) ∧
∃ ag : Sl → Bool → World → Prop,
(((((Op.bytesLess t d) = false) ∧ (f = false)) →
∀ (o : World) (u : Nat), New g u o → Chg [] g o →
∀ (_ : Box o u 63 [.string (Bs d), .string (Bs l)]),
RunK Tryz.prog (Builtin.append_ #[22, 22] 22 #[Sl.v i, Sl.v (Sl.mk (some ⟨u, 0, none⟩) 1 1)]) o [] (fun v am => ∃ (ah : Sl), v = Sl.v ah ∧
ag ah true am)) ∧
((((Op.bytesLess t d) = true) ∨ (f = true)) →
ag i f g)) ∧
(∀ (m : Sl) (j : Bool) (k : World), ag m j k →
((0 : Int) ≤ b ∧ b < (c.n : Int)) ∧ ∃ ai : Addr, c.a = some ai ∧
∃ (x : Str), (k.cell? ((ai.add (b.toNat * 2)).add 0) = some (.string (Bs x))) ∧
((x ≠ d) →
((0 : Int) ≤ b ∧ b < (c.n : Int)) ∧ ∃ aj : Addr, c.a = some aj ∧
∃ (y : Str) (z : Str), (Cells k (aj.add (b.toNat * 2)) [.string (Bs y), .string (Bs z)]) ∧
∀ (p : World) (aa : Nat), New k aa p → Chg [] k p →
∀ (_ : Box p aa 63 [.string (Bs y), .string (Bs z)]),
RunK Tryz.prog (Builtin.append_ #[22, 22] 22 #[Sl.v m, Sl.v (Sl.mk (some ⟨aa, 0, none⟩) 1 1)]) p [] (fun v ak => ∃ (ab : Sl), v = Sl.v ab ∧
(I64 (b + 1)) ∧
r ab j (b + 1) ak ∧ s ab j (b + 1) ak < s i f b g)) ∧
((¬ (x ≠ d)) →
(I64 (b + 1)) ∧
r m j (b + 1) k ∧ s m j (b + 1) k < s i f b g))) ∧
((¬ (b < (c.n : Int))) →
((f = false) →
∀ (q : World) (ad : Nat), New g ad q → Chg [] g q →
∀ (_ : Box q ad 63 [.string (Bs d), .string (Bs l)]),
RunK Tryz.prog (Builtin.append_ #[22, 22] 22 #[Sl.v i, Sl.v (Sl.mk (some ⟨ad, 0, none⟩) 1 1)]) q [] (fun v an => ∃ (al : Sl), v = Sl.v al ∧
R (Sl.v al) an)) ∧
((f = true) →
R (Sl.v i) g)))
theorem ref06_With.ok (c : Sl) (d : Str) (l : Str) {R : Value → World → Prop} {w : World} (ao : ref06_With.vc c d l R w) : Calls Tryz.prog 86 #[Sl.v c, .string (Bs d), .string (Bs l)] w (Ret R) := by
 refine go _ Tryz.func86 Tryz.ntmps86 ao ?_
 refine gS <| gR <| gN <| ge <| tn <| gS <| gR ?_
 refine gN <| ge <| tn <| gS <| gR ?_
 refine gN <| ge <| tn <| gS <| gS <| gR ?_
 refine gN <| ge <| tn <| gb <| gE fun _ => gE fun mu => ?_
 refine l3 mu (fun i f b => [(7, Sl.v i), (8, .bool f), (9, .int .i64 b)]) [(0, _), (1, _), (2, _)] (fun _ _ _ => []) [] [] fun i f b g _ => gS <| gS <| gR ?_
 refine gM ?_
 refine gM ?_
 refine g1 (fun ap => r_len ap tU22) ?_
 refine g2 r_lss <| ge <| tn ?_
 refine gi dT dF ?_ ?_
 ·refine gk <| tn <| gS <| gb <| gS <| gS <| gR <| gM ?_
  refine gM ?_
  refine gI1 tU22 ti_63 fun af => ?_
  refine gF 0 Tryz.underlying63 ti_9 ?_
  refine gE fun t => gL tU9 ?_
  refine gM ?_
  refine g2 r_sgeq ?_
  refine gM ?_
  refine G1 r_move ?_
  refine G1 r_not ?_
  refine gpa <| ge <| tn <| gE fun J => ?_
  refine m2 (fun m j => [(7, Sl.v m), (8, .bool j)]) [(0, _), (1, _), (2, _), (9, _)] (fun _ _ => []) [] [] ?_ fun m j k _ => ?_
  ·refine gi (fun h => ⟨(nT (aT h).1), (nT (aT h).2)⟩) (fun h => ((aF h).imp (fun h => (nF h)) (fun h => (nF h)))) ?_ ?_
   ·refine gS <| gR <| gM ?_
    refine gM ?_
    refine gM ?_
    refine gbu ti_63 Tryz.underlying63 pl_63 (OPs.of rfl) ?_
    refine ns [.string (Bs d), .string (Bs l)] tU22 ti_63 fun o u => gT1 ?_
    refine gX 0 ?_
    refine gR2 [] r_append fun _ am => gE fun ah => gQ ?_
    refine gN <| ge <| tn <| gR ?_
    refine gN <| ge ?_
    exact j2 []
   ·exact gk <| j2 []
  ·refine tn <| gS <| gR <| gM ?_
   refine gM ?_
   refine gI1 tU22 ti_63 fun ai => ?_
   refine gF 0 Tryz.underlying63 ti_9 ?_
   refine gE fun x => gL tU9 ?_
   refine gM ?_
   refine g2 r_sneq <| ge <| tn ?_
   refine gi dT dF ?_ ?_
   ·refine gR <| gM ?_
    refine gM ?_
    refine gM ?_
    refine gI1 tU22 ti_63 fun aj => ?_
    refine gE fun y => gE fun z => gLN Tryz.underlying63 ti_63 ?_
    refine ns [.string (Bs y), .string (Bs z)] tU22 ti_63 fun p aa => gT1 ?_
    refine gX 0 ?_
    refine gR2 [] r_append fun _ ak => gE fun ab => gQ ?_
    refine gN <| ge <| bn <| tn <| gR ?_
    refine gM ?_
    refine g2s r_addI ?_
    refine gN <| ge ?_
    exact k3 []
   ·refine gk <| bn <| tn <| gR <| gM ?_
    refine g2s r_addI ?_
    refine gN <| ge ?_
    exact k3 []
 ·refine gx <| te <| te <| bh <| tn <| gS <| gS <| gR <| gM ?_
  refine g1 r_not <| ge <| tn ?_
  refine gi nT nF ?_ ?_
  ·refine gR <| gM ?_
   refine gM ?_
   refine gM ?_
   refine gbu ti_63 Tryz.underlying63 pl_63 (OPs.of rfl) ?_
   refine ns [.string (Bs d), .string (Bs l)] tU22 ti_63 fun q ad => gT1 ?_
   refine gX 0 ?_
   refine gR2 [] r_append fun _ an => gE fun al => gQ ?_
   refine gN <| ge <| tn <| gS <| gR ?_
   refine gM ?_
   refine gN <| ge <| tn <| gr ?_
   exact gz1
  ·refine gk <| tn <| gS <| gR <| gM ?_
   refine gN <| ge <| tn <| gr ?_
   exact gz1
def ref06_Without.vc (f : Sl) (g : Str) (R : Value → World → Prop) (w : World) : Prop :=
∃ (i : Sl → Int → World → Prop) (j : Sl → Int → World → Nat),
i Sl.nil 0 w ∧
(∀ (d : Sl) (b : Int) (c : World), i d b c →
((b < (f.n : Int)) →
((0 : Int) ≤ b ∧ b < (f.n : Int)) ∧ ∃ q : Addr, f.a = some q ∧
∃ (k : Str), (c.cell? ((q.add (b.toNat * 2)).add 0) = some (.string (Bs k))) ∧
((k ≠ g) →
((0 : Int) ≤ b ∧ b < (f.n : Int)) ∧ ∃ r : Addr, f.a = some r ∧
∃ (l : Str) (m : Str), (Cells c (r.add (b.toNat * 2)) [.string (Bs l), .string (Bs m)]) ∧
∀ (h : World) (o : Nat), New c o h → Chg [] c h →
∀ (_ : Box h o 63 [.string (Bs l), .string (Bs m)]),
RunK Tryz.prog (Builtin.append_ #[22, 22] 22 #[Sl.v d, Sl.v (Sl.mk (some ⟨o, 0, none⟩) 1 1)]) h [] (fun v s => ∃ (p : Sl), v = Sl.v p ∧
(I64 (b + 1)) ∧
i p (b + 1) s ∧ j p (b + 1) s < j d b c)) ∧
((¬ (k ≠ g)) →
(I64 (b + 1)) ∧
i d (b + 1) c ∧ j d (b + 1) c < j d b c)) ∧
((¬ (b < (f.n : Int))) →
R (Sl.v d) c))
theorem ref06_Without.ok (f : Sl) (g : Str) {R : Value → World → Prop} {w : World} (t : ref06_Without.vc f g R w) : Calls Tryz.prog 87 #[Sl.v f, .string (Bs g)] w (Ret R) := by
 refine go _ Tryz.func87 Tryz.ntmps87 t ?_
 refine gS <| gR <| gN <| ge <| tn <| gS <| gR ?_
 refine gN <| ge <| tn <| gS <| gS <| gR ?_
 refine gN <| ge <| tn <| gb <| gE fun _ => gE fun mu => ?_
 refine l2 mu (fun d b => [(5, Sl.v d), (6, .int .i64 b)]) [(0, _), (1, _)] (fun _ _ => []) [] [] fun d b c _ => gS <| gS <| gR ?_
 refine gM ?_
 refine gM ?_
 refine g1 (fun u => r_len u tU22) ?_
 refine g2 r_lss <| ge <| tn ?_
 refine gi dT dF ?_ ?_
 ·refine gk <| tn <| gS <| gb <| gS <| gR <| gM ?_
  refine gM ?_
  refine gI1 tU22 ti_63 fun q => ?_
  refine gF 0 Tryz.underlying63 ti_9 ?_
  refine gE fun k => gL tU9 ?_
  refine gM ?_
  refine g2 r_sneq <| ge <| tn ?_
  refine gi dT dF ?_ ?_
  ·refine gR <| gM ?_
   refine gM ?_
   refine gM ?_
   refine gI1 tU22 ti_63 fun r => ?_
   refine gE fun l => gE fun m => gLN Tryz.underlying63 ti_63 ?_
   refine ns [.string (Bs l), .string (Bs m)] tU22 ti_63 fun h o => gT1 ?_
   refine gX 0 ?_
   refine gR2 [] r_append fun _ s => gE fun p => gQ ?_
   refine gN <| ge <| bn <| tn <| gR ?_
   refine gM ?_
   refine g2s r_addI ?_
   refine gN <| ge ?_
   exact k2 []
  ·refine gk <| bn <| tn <| gR <| gM ?_
   refine g2s r_addI ?_
   refine gN <| ge ?_
   exact k2 []
 ·refine gx <| te <| te <| bh <| tn <| gS <| gR <| gM ?_
  refine gN <| ge <| tn <| gr ?_
  exact gz1
end Go.Proofs.YtghmgfkdnolcdaaGreat
