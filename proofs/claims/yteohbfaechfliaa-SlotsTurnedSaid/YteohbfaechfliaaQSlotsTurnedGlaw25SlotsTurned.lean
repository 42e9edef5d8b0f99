/-
  PRINTED BY PROGRAM: for each function its condition (vc), and that this suffices (ok).
-/
import Derived.Test.YteohbfaechfliaaQSlotsTurnedGT
namespace Go.Proofs.Yteohbfaechfliaa
open Go.RowKit
set_option linter.unusedVariables false
set_option maxHeartbeats 1000000
set_option maxRecDepth 10000
def law25_SlotsTurned.vc (x : Sl) (y : Sl) (R : Value → World → Prop) (w : World) : Prop :=
CallK Try.prog 8 #[Sl.v x] w [] (fun v w5 => ∃ (d : Int) (f : Str) (g : Str) (i : Sl) (j : Sl), v = .agg #[.int .i64 d, .string (Bs f), .string (Bs g), Sl.v i, Sl.v j] ∧
∀ (z : World) (n : Nat), New w5 n z → Chg [] w5 z →
CallK Try.prog 9 #[.agg #[.int .i64 d, .string (Bs f), .string (Bs g), Sl.v i, Sl.v j], Sl.v y] z [n] (fun v ak => ∃ (o : Int) (p : Str) (q : Str) (r : Sl) (t : Sl), v = .agg #[.int .i64 o, .string (Bs p), .string (Bs q), Sl.v r, Sl.v t] ∧
∀ (aa : World) (ab : Nat), New ak ab aa → Chg [] ak aa →
CallK Try.prog 10 #[.agg #[.int .i64 d, .string (Bs f), .string (Bs g), Sl.v i, Sl.v j], .agg #[.int .i64 o, .string (Bs p), .string (Bs q), Sl.v r, Sl.v t]] aa [n, ab] (fun v ao => ∃ (ad : Sl), v = Sl.v ad ∧
∀ (af : World), Chg [] ao af →
∃ k : Sl → World → Prop, (∀ a : Sl, ∀ w' w'' : World, Ext w' w'' → k a w' → k a w'') ∧
(∀ w' : World, Ext af w' → Calls Try.prog 20 #[Sl.v ad] w' (Ret fun v w'' => Ext w' w'' ∧ ∃ a : Sl, v = Sl.v a ∧ k a w'')) ∧
∀ (ag : World) (a : Sl), Ext af ag → k a ag → 
CallK Try.prog 12 #[.agg #[.int .i64 d, .string (Bs f), .string (Bs g), Sl.v i, Sl.v j], .agg #[.int .i64 o, .string (Bs p), .string (Bs q), Sl.v r, Sl.v t], Sl.v a] ag [n, ab] (fun v ap => ∃ (al : Sl) (c : Int), v = .tuple #[Sl.v al, .int .i64 c] ∧
∀ (ah : World), Chg [] ap ah →
∃ l : (Option Addr) → World → Prop, (∀ b : Option Addr, ∀ w' w'' : World, Ext w' w'' → l b w' → l b w'') ∧
(((c = 0)) → ∀ w' : World, Ext ah w' → Calls Try.prog 21 #[.agg #[.int .i64 d, .string (Bs f), .string (Bs g), Sl.v i, Sl.v j], .agg #[.int .i64 o, .string (Bs p), .string (Bs q), Sl.v r, Sl.v t], Sl.v ad] w' (Ret fun v w'' => Ext w' w'' ∧ ∃ b : Option Addr, v = .pointer b ∧ l b w'')) ∧
∀ (m : World) (b : Option Addr), Ext ah m → (((c = 0)) → l b m) → 
∃ (ai : Bool), (((c = 0)) → Calls Try.prog 22 #[.agg #[.int .i64 d, .string (Bs f), .string (Bs g), Sl.v i, Sl.v j], Sl.v al, .pointer b, .int .i64 (-1)] m (Ret fun v w' => Ext m w' ∧ v = .bool ai)) ∧
(∀ u : World, Ext m u →
∃ (am : Bool), ((((c = 0) ∧ (ai = true))) → Calls Try.prog 14 #[] u (Ret fun v w' => Ext u w' ∧ v = .bool am)) ∧
(∀ an : World, Ext u an →
R (.bool (((decide (c = 0)) && ai) && am)) an))))))
theorem law25_SlotsTurned.ok (x : Sl) (y : Sl) {R : Value → World → Prop} {w : World} (aq : law25_SlotsTurned.vc x y R w) : Calls Try.prog 6 #[Sl.v x, Sl.v y] w (Ret R) := by
 refine go _ Try.func6 Try.ntmps6 aq ?_
 refine gS <| gR <| gN <| ge <| tn <| gS <| gR ?_
 refine gM ?_
 refine gC [] Try.func8 fun _ w5 => gE fun d => gE fun f => gE fun g => gE fun i => gE fun j => gQ ?_
 refine na ti_26 fun w7 n => ?_
 refine wn 0 0 ti_26 fun z => ge <| tn <| gS <| gR ?_
 refine gBN 0 5 Try.underlying26 ti_26 ?_
 refine gM <| gT1 ?_
 refine gC [0] Try.func9 fun _ ak => gE fun o => gE fun p => gE fun q => gE fun r => gE fun t => gQ ?_
 refine na ti_26 fun az ab => ?_
 refine wn 0 0 ti_26 fun aa => ge <| tn <| gS <| gR ?_
 refine gBN 1 5 Try.underlying26 ti_26 ?_
 refine gBN 0 5 Try.underlying26 ti_26 <| gT1 ?_
 refine gC [1, 0] Try.func10 fun _ ao => gE fun ad => gQ ?_
 refine gN <| ge <| tn <| gS ?_
 refine gD fun af => gT0 <| gE fun k => gA fun ar => gA fun au => ?_
 refine gW 0 4 [(3, ⟨Sl, default, fun s => Sl.v s, fun s w => k s w, ar⟩)] ?_
 refine gBN 1 5 Try.underlying26 ti_26 ?_
 refine gBN 0 5 Try.underlying26 ti_26 ?_
 refine gM ?_
 refine yc rfl Try.func20 (fun w' hE _ => au w' hE) (fun _ _ h => h) fun a => ?_
 refine eF (fun v w' hE hF => v w' a hE hF.1) fun ag => ?_
 refine gO 4 ?_
 refine gC [1, 0] Try.func12 fun _ ap => gE fun al => gE fun c => gQ <| geO ?_
 refine gO 5 ?_
 refine gM <| geO ?_
 refine gW 6 3 [] ?_
 refine gx1 ?_
 refine gx1 ?_
 refine gN <| geT fun aA => ?_
 refine gO 9 ?_
 refine gN <| geO ?_
 refine gZ <| tn <| gS ?_
 refine gD fun ah => ?_
 refine gO 0 ?_
 refine gM <| geO ?_
 refine gO 1 ?_
 refine g2 r_eql <| geO ?_
 refine gO 2 ?_
 refine gM <| geO <| gT0 <| gE fun l => gA fun av => gA fun ax => ?_
 refine gW 3 6 [(8, rsG (true && ((decide (c = 0)) == true)) (α := (Option Addr)) default (fun s => .pointer s) (fun s w => l s w) (av))] ?_
 refine GBN 1 5 Try.underlying26 ti_26 ?_
 refine G1 r_move ?_
 refine GBN 1 5 Try.underlying26 ti_26 ?_
 refine GBN 0 5 Try.underlying26 ti_26 ?_
 refine G1 r_move ?_
 refine YC rfl Try.func21 (fun hg w' hE _ => ax (dT (g_t hg)) w' hE) (fun _ _ h => h) fun b => ?_
 refine eF (fun v w' hE hF => v w' b hE (fun hp => hF.1 (g_mkt rfl (decide_eq_true hp)))) fun m => ?_
 refine gO 9 ?_
 refine gE fun ai => GC Try.func22 (fun hg => (dT (g_t hg))) fun u => geO ?_
 refine gO 10 ?_
 refine gpa <| geO ?_
 refine gO 11 ?_
 refine gM <| geO ?_
 refine gO 12 ?_
 refine gE fun am => GC Try.func14 (fun hg => ⟨(dT (aT (g_t hg)).1), (aT (g_t hg)).2⟩) fun an => geO ?_
 refine gO 13 ?_
 refine gpa <| geO ?_
 refine gO 14 ?_
 refine gN <| geO ?_
 refine gZ <| tn <| gr ?_
 exact gz1
end Go.Proofs.Yteohbfaechfliaa
