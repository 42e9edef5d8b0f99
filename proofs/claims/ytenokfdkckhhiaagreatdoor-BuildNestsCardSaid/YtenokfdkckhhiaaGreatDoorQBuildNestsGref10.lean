/-
  PRINTED BY PROGRAM: for each function its condition (vc), and that this suffices (ok).
-/
import Derived.Test.YtenokfdkckhhiaaGreatDoorQBuildNestsGT
namespace Go.Proofs.YtenokfdkckhhiaaGreatDoor
open Go.RowKit
set_option linter.unusedVariables false
theorem gKb {n : Nat} {L : List (Nat × Value)} {wa w : World} {G N : List Nat} {V : Prop} {C : Act → World → Prop} {bs : List BX} (bs' : List BX) (k : Go n L wa w G bs' N V C) (e : bs' = bs := by kernel_rfl) : Go n L wa w G bs N V C := e ▸ k
set_option maxHeartbeats 1000000
set_option maxRecDepth 10000
def ref10_Next.vc (c : Str) (a : Int) (g : Str) (R : Value → World → Prop) (w : World) : Prop :=
(((a < 0) ∨ ((c.length : Int) ≤ a)) →
∀ (o : World) (b : Nat),New w b o → Chg [] w o →
R (.tuple #[.agg #[.int .i64 6,.string (Bs []),.string (Bs []),Sl.v Sl.nil,.bool false],.int .i64 (c.length : Int),.bool true]) o) ∧
(((¬ (a < 0)) ∧ (¬ ((c.length : Int) ≤ a))) →
∀ (m : World) (b : Nat),New w b m → Chg [] w m →
∃ bg : World → Prop,
(((g ≠ ([] : Str)) →
CallK Tryz.prog 46 #[.string (Bs g)] m [b] (fun v bK => ∃ (p : Str),v = .string (Bs p) ∧
∃ (bi : Int → World → Prop) (bL : Int → World → Nat),
bi a bK ∧
(∀ (d : Int) (i : World),bi d i →
∃ (q : Bool),(((d < (c.length : Int))) → Calls Tryz.prog 47 #[.string (Bs c),.int .i64 d,.string (Bs p)] i (Ret fun v w' => Ext i w' ∧ v = .bool q)) ∧
(∀ j : World,Ext i j →
(((d < (c.length : Int)) ∧ (q = false)) →
(I64 (d + 1)) ∧
bi (d + 1) j ∧ bL (d + 1) j < bL d i) ∧
(((¬ (d < (c.length : Int))) ∨ (q = true)) →
((a < d) →
((0 : Int) ≤ a ∧ (a : Int) ≤ d ∧ d ≤ (c.length : Int)) ∧
CallK Tryz.prog 30 #[.string (Bs p)] j [b] (fun v bj => ∃ (r : Int),v = .int .i64 r ∧
((r = 1) →
CallK Tryz.prog 48 #[.string (Bs ((List.drop a.toNat c).take (d.toNat - a.toNat))),.bool false] bj [b] (fun v bM => ∃ (t : Str),v = .string (Bs t) ∧
∀ (bk : World),Chg [b] bM bk →
R (.tuple #[.agg #[.int .i64 3,.string (Bs []),.string (Bs t),Sl.v Sl.nil,.bool true],.int .i64 d,.bool true]) bk)) ∧
((¬ (r = 1)) →
∀ (bl : World),Chg [b] bj bl →
R (.tuple #[.agg #[.int .i64 3,.string (Bs []),.string (Bs ((List.drop a.toNat c).take (d.toNat - a.toNat))),Sl.v Sl.nil,.bool true],.int .i64 d,.bool true]) bl))) ∧
((¬ (a < d)) →
bg j)))))) ∧
((¬ (g ≠ ([] : Str))) →
bg m)) ∧
(∀ (u : World),bg u →
((0 : Int) ≤ a ∧ a < (c.length : Int)) ∧
((((c.getD a.toNat 0).toNat : Int) ≠ 60) →
CallK Tryz.prog 49 #[.string (Bs c),.int .i64 a] u [b] (fun v bN => ∃ (x : Int) (y : Str) (z : Str) (aa : Sl) (ab : Bool) (ad : Int) (af : Bool),v = .tuple #[.agg #[.int .i64 x,.string (Bs y),.string (Bs z),Sl.v aa,.bool ab],.int .i64 ad,.bool af] ∧
∀ (bo : World),Chg [b] bN bo →
R (.tuple #[.agg #[.int .i64 x,.string (Bs y),.string (Bs z),Sl.v aa,.bool ab],.int .i64 ad,.bool af]) bo)) ∧
((¬ (((c.getD a.toNat 0).toNat : Int) ≠ 60)) →
(I64 (a + 1)) ∧
CallK Tryz.prog 50 #[.string (Bs c),.int .i64 (a + 1)] u [b] (fun v bp => ∃ (ah : Bool),v = .bool ah ∧
((ah = true) →
(I64 (a + 1)) ∧
CallK Tryz.prog 51 #[.string (Bs c),.int .i64 (a + 1),.int .i64 1] bp [b] (fun v bO => ∃ (ai : Int) (aj : Str) (ak : Str) (al : Sl) (am : Bool) (an : Int) (ao : Bool),v = .tuple #[.agg #[.int .i64 ai,.string (Bs aj),.string (Bs ak),Sl.v al,.bool am],.int .i64 an,.bool ao] ∧
∀ (bq : World),Chg [b] bO bq →
R (.tuple #[.agg #[.int .i64 ai,.string (Bs aj),.string (Bs ak),Sl.v al,.bool am],.int .i64 an,.bool ao]) bq)) ∧
((ah = false) →
CallK Tryz.prog 52 #[.string (Bs c),.int .i64 a,.string (Bs ([60,47] : Str))] bp [b] (fun v ap => ∃ (k : Bool),v = .bool k ∧
(((k = true)) → I64 (a + 2)) ∧
∃ (aq : Bool),(((k = true)) → Calls Tryz.prog 50 #[.string (Bs c),.int .i64 (a + 2)] ap (Ret fun v w' => Ext ap w' ∧ v = .bool aq)) ∧
(∀ ar : World,Ext ap ar →
(((k = true) ∧ (aq = true)) →
(I64 (a + 2)) ∧
CallK Tryz.prog 51 #[.string (Bs c),.int .i64 (a + 2),.int .i64 2] ar [b] (fun v bP => ∃ (au : Int) (av : Str) (ax : Str) (ay : Sl) (az : Bool) (aA : Int) (aB : Bool),v = .tuple #[.agg #[.int .i64 au,.string (Bs av),.string (Bs ax),Sl.v ay,.bool az],.int .i64 aA,.bool aB] ∧
∀ (bs : World),Chg [b] bP bs →
R (.tuple #[.agg #[.int .i64 au,.string (Bs av),.string (Bs ax),Sl.v ay,.bool az],.int .i64 aA,.bool aB]) bs)) ∧
(((k = false) ∨ (aq = false)) →
CallK Tryz.prog 52 #[.string (Bs c),.int .i64 a,.string (Bs ([60,33,45,45] : Str))] ar [b] (fun v bt => ∃ (aC : Bool),v = .bool aC ∧
((aC = true) →
(I64 (a + 4)) ∧
CallK Tryz.prog 53 #[.string (Bs c),.int .i64 (a + 4)] bt [b] (fun v bQ => ∃ (aD : Int) (aG : Str) (aH : Str) (aI : Sl) (aJ : Bool) (aK : Int) (aL : Bool),v = .tuple #[.agg #[.int .i64 aD,.string (Bs aG),.string (Bs aH),Sl.v aI,.bool aJ],.int .i64 aK,.bool aL] ∧
∀ (bu : World),Chg [b] bQ bu →
R (.tuple #[.agg #[.int .i64 aD,.string (Bs aG),.string (Bs aH),Sl.v aI,.bool aJ],.int .i64 aK,.bool aL]) bu)) ∧
((aC = false) →
CallK Tryz.prog 52 #[.string (Bs c),.int .i64 a,.string (Bs ([60,33,100,111,99,116,121,112,101] : Str))] bt [b] (fun v bv => ∃ (aM : Bool),v = .bool aM ∧
((aM = true) →
(I64 (a + 9)) ∧
CallK Tryz.prog 54 #[.string (Bs c),.int .i64 (a + 9)] bv [b] (fun v bR => ∃ (aN : Int) (aO : Str) (aP : Str) (aQ : Sl) (aR : Bool) (aS : Int) (aU : Bool),v = .tuple #[.agg #[.int .i64 aN,.string (Bs aO),.string (Bs aP),Sl.v aQ,.bool aR],.int .i64 aS,.bool aU] ∧
∀ (bz : World),Chg [b] bR bz →
R (.tuple #[.agg #[.int .i64 aN,.string (Bs aO),.string (Bs aP),Sl.v aQ,.bool aR],.int .i64 aS,.bool aU]) bz)) ∧
((aM = false) →
CallK Tryz.prog 52 #[.string (Bs c),.int .i64 a,.string (Bs ([60,47,62] : Str))] bv [b] (fun v bA => ∃ (aV : Bool),v = .bool aV ∧
((aV = true) →
(I64 (a + 3)) ∧
∀ (bB : World),Chg [b] bA bB →
R (.tuple #[.agg #[.int .i64 0,.string (Bs []),.string (Bs []),Sl.v Sl.nil,.bool false],.int .i64 (a + 3),.bool false]) bB) ∧
((aV = false) →
CallK Tryz.prog 52 #[.string (Bs c),.int .i64 a,.string (Bs ([60,33] : Str))] bA [b] (fun v bC => ∃ (n : Bool),v = .bool n ∧
∃ bD : Bool → World → Prop,
(((n = true) →
bD n bC) ∧
((n = false) →
CallK Tryz.prog 52 #[.string (Bs c),.int .i64 a,.string (Bs ([60,47] : Str))] bC [b] (fun v bS => ∃ (aX : Bool),v = .bool aX ∧
(((aX = true)) → I64 (a + 2)) ∧
bD (aX && (decide ((a + 2) < (c.length : Int)))) bS))) ∧
(∀ (l : Bool) (aY : World),bD l aY →
((l = true) →
(I64 (a + 2)) ∧
CallK Tryz.prog 55 #[.string (Bs c),.int .i64 (a + 2)] aY [b] (fun v bT => ∃ (aZ : Int) (a0 : Str) (a1 : Str) (a2 : Sl) (a3 : Bool) (a4 : Int) (a5 : Bool),v = .tuple #[.agg #[.int .i64 aZ,.string (Bs a0),.string (Bs a1),Sl.v a2,.bool a3],.int .i64 a4,.bool a5] ∧
∀ (bF : World),Chg [b] bT bF →
R (.tuple #[.agg #[.int .i64 aZ,.string (Bs a0),.string (Bs a1),Sl.v a2,.bool a3],.int .i64 a4,.bool a5]) bF)) ∧
((l = false) →
CallK Tryz.prog 52 #[.string (Bs c),.int .i64 a,.string (Bs ([60,63] : Str))] aY [b] (fun v bG => ∃ (a6 : Bool),v = .bool a6 ∧
((a6 = true) →
(I64 (a + 1)) ∧
CallK Tryz.prog 55 #[.string (Bs c),.int .i64 (a + 1)] bG [b] (fun v bU => ∃ (a7 : Int) (a8 : Str) (a9 : Str) (ba : Sl) (bb : Bool) (bd : Int) (bf : Bool),v = .tuple #[.agg #[.int .i64 a7,.string (Bs a8),.string (Bs a9),Sl.v ba,.bool bb],.int .i64 bd,.bool bf] ∧
∀ (bH : World),Chg [b] bU bH →
R (.tuple #[.agg #[.int .i64 a7,.string (Bs a8),.string (Bs a9),Sl.v ba,.bool bb],.int .i64 bd,.bool bf]) bH)) ∧
((a6 = false) →
(I64 (a + 1)) ∧
∀ (bI : World),Chg [b] bG bI →
R (.tuple #[.agg #[.int .i64 3,.string (Bs []),.string (Bs ([60] : Str)),Sl.v Sl.nil,.bool false],.int .i64 (a + 1),.bool true]) bI)))))))))))))))))))
theorem ref10_Next.ok (c : Str) (a : Int) (g : Str) {R : Value → World → Prop} {w : World} (bX : ref10_Next.vc c a g R w) : Calls Tryz.prog 29 #[.string (Bs c),.int .i64 a,.string (Bs g)] w (Ret R) := by
 refine go _ Tryz.func29 Tryz.ntmps29 bX ?_
 refine gS <| gR <| na ti_51 fun m b => ?_
 refine gN ?_
 refine gN <| ge <| tn <| gS <| gS <| gR ?_
 refine gM ?_
 refine g2 r_lss ?_
 refine gM ?_
 refine G1 r_move ?_
 refine G1 r_move ?_
 refine G1 (fun f => r_slen f tU9) ?_
 refine G2 r_geq ?_
 refine gpo <| ge <| tn ?_
 refine gi (fun h => ((oT h).imp (fun h => (dT h)) (fun h => (dT h)))) (fun h => ⟨(dF (oF h).1),(dF (oF h).2)⟩) ?_ ?_
 ·refine gS <| gR <| gbu ti_51 Tryz.underlying51 pl_51 (OPs.of rfl) ?_
  refine gM ?_
  refine g1 (fun f => r_slen f tU9) ?_
  refine wn 0 0 ti_51 fun o => ?_
  refine gN ?_
  refine gN <| ge <| tn <| gr <| tr <| gT1 ?_
  exact gz [.agg #[.int .i64 6,.string (Bs []),.string (Bs []),Sl.v Sl.nil,.bool false],.int .i64 (c.length : Int),.bool true] rfl (fun _ s => ⟨res_of_cell s.ag rfl (s.bx 0 rfl) Tryz.underlying51 rfl ti_51,res_of_tmp s.ag rfl,res_of_tmp s.ag rfl,trivial⟩)
 ·refine gk <| tn <| gS <| gS <| gR <| gM ?_
  refine g2 r_sneq <| ge <| tn <| gT1 <| gE fun J => ?_
  refine m0 [] [(0,_),(1,_),(6,_)] [] [(b,_,_)] [0] ?_ fun  u _ => ?_
  ·refine gi dT dF ?_ ?_
   ·refine gS <| gR <| gM ?_
    refine gC [0] Tryz.func46 fun _ bK => gE fun p => gQ ?_
    refine gN <| ge <| tn <| gS <| gR ?_
    refine gM ?_
    refine gN <| ge <| tn <| gS <| gb <| gE fun _ => gE fun mu => ?_
    refine l1 mu (fun d => [(10,.int .i64 d)]) [(0,_),(1,_),(6,_),(9,_)] (fun _ => []) [(b,_,_)] [0] fun d i _ => gS <| gS <| gR ?_
    refine gM ?_
    refine gM ?_
    refine g1 (fun f => r_slen f tU9) ?_
    refine g2 r_lss ?_
    refine gM ?_
    refine G1 r_move ?_
    refine G1 r_move ?_
    refine G1 r_move ?_
    refine gE fun q => GC Tryz.func47 (fun hg => (dT (g_t hg))) fun j => ?_
    refine G1 r_not ?_
    refine gpa <| ge <| tn ?_
    refine gi (fun h => ⟨(dT (aT h).1),(nT (aT h).2)⟩) (fun h => ((aF h).imp (fun h => (dF h)) (fun h => (nF h)))) ?_ ?_
    ·refine gk <| tn <| gb <| gR <| gM ?_
     refine g2s r_addI ?_
     refine gN <| ge <| bn ?_
     exact k1 [0]
    ·refine gx <| te <| te <| bh <| tn <| gS <| gR <| gM ?_
     refine gM ?_
     refine g2 r_gtr <| ge <| tn ?_
     refine gi dT dF ?_ ?_
     ·refine gS <| gR <| gM ?_
      refine gM ?_
      refine gM ?_
      refine g3s (fun f bJ bY h => r_sslice2 f bJ bY tU9 h) ?_
      refine gN <| ge <| tn <| gS <| gS <| gR ?_
      refine gM ?_
      refine gKb [(b,51,[.int .i64 0,.string (Bs []),.string (Bs []),Sl.v Sl.nil,.bool false])] ?_
      refine gC [0] Tryz.func30 fun _ bj => gE fun r => gQ ?_
      refine g2 r_eql <| ge <| tn ?_
      refine gi dT dF ?_ ?_
      ·refine gR <| gM ?_
       refine gKb [(b,51,[.int .i64 0,.string (Bs []),.string (Bs []),Sl.v Sl.nil,.bool false])] ?_
       refine gC [0] Tryz.func48 fun _ bM => gE fun t => gQ ?_
       refine gN <| ge <| tn <| gS <| gR ?_
       refine gM ?_
       refine gbu ti_51 Tryz.underlying51 pl_51 (OPs.of rfl) ?_
       refine gM ?_
       refine wo 0 ti_51 fun bk => ?_
       refine gN ?_
       refine gN <| ge <| tn <| gr <| tr <| tr <| gT0 ?_
       exact gz [.agg #[.int .i64 3,.string (Bs []),.string (Bs t),Sl.v Sl.nil,.bool true],.int .i64 d,.bool true] rfl (fun _ s => ⟨res_of_cell s.ag rfl (s.bx 0 rfl) Tryz.underlying51 rfl ti_51,res_of_tmp s.ag rfl,res_of_tmp s.ag rfl,trivial⟩)
      ·refine gk <| tn <| gS <| gR <| gM ?_
       refine gbu ti_51 Tryz.underlying51 pl_51 (OPs.of rfl) ?_
       refine gM ?_
       refine wo 0 ti_51 fun bl => ?_
       refine gN ?_
       refine gN <| ge <| tn <| gr <| tr <| tr <| gT0 ?_
       exact gz [.agg #[.int .i64 3,.string (Bs []),.string (Bs ((List.drop a.toNat c).take (d.toNat - a.toNat))),Sl.v Sl.nil,.bool true],.int .i64 d,.bool true] rfl (fun _ s => ⟨res_of_cell s.ag rfl (s.bx 0 rfl) Tryz.underlying51 rfl ti_51,res_of_tmp s.ag rfl,res_of_tmp s.ag rfl,trivial⟩)
     ·exact gk <| j0 [0]
   ·exact gk <| j0 [0]
  ·refine tn <| gS <| gb <| gS <| gR <| gM ?_
   refine gM ?_
   refine g2s (fun f bJ h => r_sindex f bJ tU9 h) ?_
   refine g2 r_neq ?_
   refine gN <| ge <| tn ?_
   refine gi dT dF ?_ ?_
   ·refine gS <| gR <| gM ?_
    refine gM ?_
    refine gC [0] Tryz.func49 fun _ bN => gE fun x => gE fun y => gE fun z => gE fun aa => gE fun ab => gE fun ad => gE fun af => gQ ?_
    refine gx1 ?_
    refine gx1 ?_
    refine gx1 ?_
    refine wo 0 ti_51 fun bo => ?_
    refine gN ?_
    refine gN <| ge <| tn <| gr <| br <| tr <| gT0 ?_
    exact gz [.agg #[.int .i64 x,.string (Bs y),.string (Bs z),Sl.v aa,.bool ab],.int .i64 ad,.bool af] rfl (fun _ s => ⟨res_of_cell s.ag rfl (s.bx 0 rfl) Tryz.underlying51 rfl ti_51,res_of_tmp s.ag rfl,res_of_tmp s.ag rfl,trivial⟩)
   ·refine gS <| gR <| gM ?_
    refine gM ?_
    refine g2s r_addI ?_
    refine gC [0] Tryz.func50 fun _ bp => gE fun ah => gQ ?_
    refine gN <| ge <| tn ?_
    refine gi id id ?_ ?_
    ·refine gS <| gR <| gM ?_
     refine gM ?_
     refine g2s r_addI ?_
     refine gC [0] Tryz.func51 fun _ bO => gE fun ai => gE fun aj => gE fun ak => gE fun al => gE fun am => gE fun an => gE fun ao => gQ ?_
     refine gx1 ?_
     refine gx1 ?_
     refine gx1 ?_
     refine wo 0 ti_51 fun bq => ?_
     refine gN ?_
     refine gN <| ge <| tn <| gr <| br <| tr <| gT0 ?_
     exact gz [.agg #[.int .i64 ai,.string (Bs aj),.string (Bs ak),Sl.v al,.bool am],.int .i64 an,.bool ao] rfl (fun _ s => ⟨res_of_cell s.ag rfl (s.bx 0 rfl) Tryz.underlying51 rfl ti_51,res_of_tmp s.ag rfl,res_of_tmp s.ag rfl,trivial⟩)
    ·refine gS <| gR <| gM ?_
     refine gM ?_
     refine gC [0] Tryz.func52 fun _ ap => gE fun k => gQ ?_
     refine gM ?_
     refine G1 r_move ?_
     refine G1 r_move ?_
     refine G2s r_addI g_t ?_
     refine gE fun aq => GC Tryz.func50 g_t fun ar => ?_
     refine gpa ?_
     refine gN <| ge <| tn ?_
     refine gi (fun h => ⟨(aT h).1,(aT h).2⟩) (fun h => ((aF h).imp (fun h => h) (fun h => h))) ?_ ?_
     ·refine gS <| gR <| gM ?_
      refine gM ?_
      refine g2s r_addI ?_
      refine gKb [(b,51,[.int .i64 0,.string (Bs []),.string (Bs []),Sl.v Sl.nil,.bool false])] ?_
      refine gC [0] Tryz.func51 fun _ bP => gE fun au => gE fun av => gE fun ax => gE fun ay => gE fun az => gE fun aA => gE fun aB => gQ ?_
      refine gx1 ?_
      refine gx1 ?_
      refine gx1 ?_
      refine wo 0 ti_51 fun bs => ?_
      refine gN ?_
      refine gN <| ge <| tn <| gr <| br <| tr <| gT0 ?_
      exact gz [.agg #[.int .i64 au,.string (Bs av),.string (Bs ax),Sl.v ay,.bool az],.int .i64 aA,.bool aB] rfl (fun _ s => ⟨res_of_cell s.ag rfl (s.bx 0 rfl) Tryz.underlying51 rfl ti_51,res_of_tmp s.ag rfl,res_of_tmp s.ag rfl,trivial⟩)
     ·refine gS <| gR <| gM ?_
      refine gM ?_
      refine gKb [(b,51,[.int .i64 0,.string (Bs []),.string (Bs []),Sl.v Sl.nil,.bool false])] ?_
      refine gC [0] Tryz.func52 fun _ bt => gE fun aC => gQ ?_
      refine gN <| ge <| tn ?_
      refine gi id id ?_ ?_
      ·refine gS <| gR <| gM ?_
       refine gM ?_
       refine g2s r_addI ?_
       refine gKb [(b,51,[.int .i64 0,.string (Bs []),.string (Bs []),Sl.v Sl.nil,.bool false])] ?_
       refine gC [0] Tryz.func53 fun _ bQ => gE fun aD => gE fun aG => gE fun aH => gE fun aI => gE fun aJ => gE fun aK => gE fun aL => gQ ?_
       refine gx1 ?_
       refine gx1 ?_
       refine gx1 ?_
       refine wo 0 ti_51 fun bu => ?_
       refine gN ?_
       refine gN <| ge <| tn <| gr <| br <| tr <| gT0 ?_
       exact gz [.agg #[.int .i64 aD,.string (Bs aG),.string (Bs aH),Sl.v aI,.bool aJ],.int .i64 aK,.bool aL] rfl (fun _ s => ⟨res_of_cell s.ag rfl (s.bx 0 rfl) Tryz.underlying51 rfl ti_51,res_of_tmp s.ag rfl,res_of_tmp s.ag rfl,trivial⟩)
      ·refine gS <| gR <| gM ?_
       refine gM ?_
       refine gKb [(b,51,[.int .i64 0,.string (Bs []),.string (Bs []),Sl.v Sl.nil,.bool false])] ?_
       refine gC [0] Tryz.func52 fun _ bv => gE fun aM => gQ ?_
       refine gN <| ge <| tn ?_
       refine gi id id ?_ ?_
       ·refine gS <| gR <| gM ?_
        refine gM ?_
        refine g2s r_addI ?_
        refine gKb [(b,51,[.int .i64 0,.string (Bs []),.string (Bs []),Sl.v Sl.nil,.bool false])] ?_
        refine gC [0] Tryz.func54 fun _ bR => gE fun aN => gE fun aO => gE fun aP => gE fun aQ => gE fun aR => gE fun aS => gE fun aU => gQ ?_
        refine gx1 ?_
        refine gx1 ?_
        refine gx1 ?_
        refine wo 0 ti_51 fun bz => ?_
        refine gN ?_
        refine gN <| ge <| tn <| gr <| br <| tr <| gT0 ?_
        exact gz [.agg #[.int .i64 aN,.string (Bs aO),.string (Bs aP),Sl.v aQ,.bool aR],.int .i64 aS,.bool aU] rfl (fun _ s => ⟨res_of_cell s.ag rfl (s.bx 0 rfl) Tryz.underlying51 rfl ti_51,res_of_tmp s.ag rfl,res_of_tmp s.ag rfl,trivial⟩)
       ·refine gS <| gR <| gM ?_
        refine gM ?_
        refine gKb [(b,51,[.int .i64 0,.string (Bs []),.string (Bs []),Sl.v Sl.nil,.bool false])] ?_
        refine gC [0] Tryz.func52 fun _ bA => gE fun aV => gQ ?_
        refine gN <| ge <| tn ?_
        refine gi id id ?_ ?_
        ·refine gS <| gR <| gbu ti_51 Tryz.underlying51 pl_51 (OPs.of rfl) ?_
         refine gM ?_
         refine g2s r_addI ?_
         refine wo 0 ti_51 fun bB => ?_
         refine gN ?_
         refine gN <| ge <| tn <| gr <| br <| tr <| gT0 ?_
         exact gz [.agg #[.int .i64 0,.string (Bs []),.string (Bs []),Sl.v Sl.nil,.bool false],.int .i64 (a + 3),.bool false] rfl (fun _ s => ⟨res_of_cell s.ag rfl (s.bx 0 rfl) Tryz.underlying51 rfl ti_51,res_of_tmp s.ag rfl,res_of_tmp s.ag rfl,trivial⟩)
        ·refine gS <| gS <| gR <| gM ?_
         refine gM ?_
         refine gKb [(b,51,[.int .i64 0,.string (Bs []),.string (Bs []),Sl.v Sl.nil,.bool false])] ?_
         refine gC [0] Tryz.func52 fun _ bC => gE fun n => gQ ?_
         refine gN <| ge <| tn <| gE fun J => ?_
         refine m1 (fun l => [(125,.bool l)]) [(0,_),(1,_),(6,_)] (fun _ => []) [(b,_,_)] [0] ?_ fun l aY _ => ?_
         ·refine gi id id ?_ ?_
          ·exact gk <| j1 [0]
          ·refine gR <| gM ?_
           refine gM ?_
           refine gKb [(b,51,[.int .i64 0,.string (Bs []),.string (Bs []),Sl.v Sl.nil,.bool false])] ?_
           refine gC [0] Tryz.func52 fun _ bS => gE fun aX => gQ ?_
           refine gM ?_
           refine G1 r_move ?_
           refine G2s r_addI g_t ?_
           refine G1 r_move ?_
           refine G1 (fun f => r_slen f tU9) ?_
           refine G2 r_lss ?_
           refine gpa ?_
           refine gN <| ge ?_
           exact j1 [0]
         ·refine tn ?_
          refine gi id id ?_ ?_
          ·refine gS <| gR <| gM ?_
           refine gM ?_
           refine g2s r_addI ?_
           refine gKb [(b,51,[.int .i64 0,.string (Bs []),.string (Bs []),Sl.v Sl.nil,.bool false])] ?_
           refine gC [0] Tryz.func55 fun _ bT => gE fun aZ => gE fun a0 => gE fun a1 => gE fun a2 => gE fun a3 => gE fun a4 => gE fun a5 => gQ ?_
           refine gx1 ?_
           refine gx1 ?_
           refine gx1 ?_
           refine wo 0 ti_51 fun bF => ?_
           refine gN ?_
           refine gN <| ge <| tn <| gr <| br <| tr <| gT0 ?_
           exact gz [.agg #[.int .i64 aZ,.string (Bs a0),.string (Bs a1),Sl.v a2,.bool a3],.int .i64 a4,.bool a5] rfl (fun _ s => ⟨res_of_cell s.ag rfl (s.bx 0 rfl) Tryz.underlying51 rfl ti_51,res_of_tmp s.ag rfl,res_of_tmp s.ag rfl,trivial⟩)
          ·refine gS <| gR <| gM ?_
           refine gM ?_
           refine gKb [(b,51,[.int .i64 0,.string (Bs []),.string (Bs []),Sl.v Sl.nil,.bool false])] ?_
           refine gC [0] Tryz.func52 fun _ bG => gE fun a6 => gQ ?_
           refine gN <| ge <| tn ?_
           refine gi id id ?_ ?_
           ·refine gS <| gR <| gM ?_
            refine gM ?_
            refine g2s r_addI ?_
            refine gKb [(b,51,[.int .i64 0,.string (Bs []),.string (Bs []),Sl.v Sl.nil,.bool false])] ?_
            refine gC [0] Tryz.func55 fun _ bU => gE fun a7 => gE fun a8 => gE fun a9 => gE fun ba => gE fun bb => gE fun bd => gE fun bf => gQ ?_
            refine gx1 ?_
            refine gx1 ?_
            refine gx1 ?_
            refine wo 0 ti_51 fun bH => ?_
            refine gN ?_
            refine gN <| ge <| tn <| gr <| br <| tr <| gT0 ?_
            exact gz [.agg #[.int .i64 a7,.string (Bs a8),.string (Bs a9),Sl.v ba,.bool bb],.int .i64 bd,.bool bf] rfl (fun _ s => ⟨res_of_cell s.ag rfl (s.bx 0 rfl) Tryz.underlying51 rfl ti_51,res_of_tmp s.ag rfl,res_of_tmp s.ag rfl,trivial⟩)
           ·refine gk <| bn <| tn <| gS <| gR <| gbu ti_51 Tryz.underlying51 pl_51 (OPs.of rfl) ?_
            refine gM ?_
            refine g2s r_addI ?_
            refine wo 0 ti_51 fun bI => ?_
            refine gN ?_
            refine gN <| ge <| tn <| gr <| gT0 ?_
            exact gz [.agg #[.int .i64 3,.string (Bs []),.string (Bs ([60] : Str)),Sl.v Sl.nil,.bool false],.int .i64 (a + 1),.bool true] rfl (fun _ s => ⟨res_of_cell s.ag rfl (s.bx 0 rfl) Tryz.underlying51 rfl ti_51,res_of_tmp s.ag rfl,res_of_tmp s.ag rfl,trivial⟩)
def ref10_text.vc (b : Str) (c : Int) (R : Value → World → Prop) (w : World) : Prop :=
∀ (m : World) (j : Nat),New w j m → Chg [] w m →
∃ (p : Int → World → Prop) (r : Int → World → Nat),
p c m ∧
(∀ (a : Int) (n : World),p a n →
∀ (i : World),Chg [] n i →
(((a < (b.length : Int))) → (0 : Int) ≤ a ∧ a < (b.length : Int)) ∧
((((a < (b.length : Int)) ∧ (((b.getD a.toNat 0).toNat : Int) ≠ 60))) → (0 : Int) ≤ a ∧ a < (b.length : Int)) ∧
∃ (k : Bool),((((a < (b.length : Int)) ∧ (((b.getD a.toNat 0).toNat : Int) ≠ 60))) → ∀ w' : World,Ext i w' → Calls Tryz.prog 79 #[.int .u8 ((b.getD a.toNat 0).toNat : Int)] w' (Ret fun v w'' => Ext w' w'' ∧ v = .bool k)) ∧
((((a < (b.length : Int)) ∧ (((b.getD a.toNat 0).toNat : Int) ≠ 60))) → (0 : Int) ≤ c ∧ c < (b.length : Int)) ∧
∃ (l : Bool),((((a < (b.length : Int)) ∧ (((b.getD a.toNat 0).toNat : Int) ≠ 60))) → ∀ w' : World,Ext i w' → Calls Tryz.prog 79 #[.int .u8 ((b.getD c.toNat 0).toNat : Int)] w' (Ret fun v w'' => Ext w' w'' ∧ v = .bool l)) ∧
((((a < (b.length : Int)) ∧ (((b.getD a.toNat 0).toNat : Int) ≠ 60)) ∧ ((k == l) = true)) →
(I64 (a + 1)) ∧
∀ (g : World),Chg [] i g →
p (a + 1) g ∧ r (a + 1) g < r a n) ∧
((((¬ (a < (b.length : Int))) ∨ (¬ (((b.getD a.toNat 0).toNat : Int) ≠ 60))) ∨ ((k == l) = false)) →
((0 : Int) ≤ c ∧ (c : Int) ≤ a ∧ a ≤ (b.length : Int)) ∧
∀ (g : World),Chg [] i g →
CallK Tryz.prog 48 #[.string (Bs ((List.drop c.toNat b).take (a.toNat - c.toNat))),.bool false] g [j] (fun v t => ∃ (o : Str),v = .string (Bs o) ∧
∀ (q : World),Chg [j] t q →
R (.tuple #[.agg #[.int .i64 3,.string (Bs []),.string (Bs o),Sl.v Sl.nil,.bool false],.int .i64 a,.bool true]) q)))
theorem ref10_text.ok (b : Str) (c : Int) {R : Value → World → Prop} {w : World} (u : ref10_text.vc b c R w) : Calls Tryz.prog 49 #[.string (Bs b),.int .i64 c] w (Ret R) := by
 refine go _ Tryz.func49 Tryz.ntmps49 u ?_
 refine gS <| gR <| na ti_51 fun m j => ?_
 refine gN ?_
 refine gN <| ge <| tn <| gS <| gR ?_
 refine gM ?_
 refine gN <| ge <| tn <| gS <| gb <| gT1 <| gE fun _ => gE fun mu => ?_
 refine l1 mu (fun a => [(7,.int .i64 a)]) [(0,_),(1,_),(4,_)] (fun _ => []) [(j,_,_)] [0] fun a n _ => gS <| gS ?_
 refine gD fun i => gT0 <| gA fun x => gA fun y => gE fun k => gA fun z => gA fun aa => gE fun l => gA fun ab => ?_
 refine gW 0 21 [(14,rsG (true && (((decide (a < (b.length : Int))) && (decide (((b.getD a.toNat 0).toNat : Int) ≠ 60))) == true)) () (fun _ => .bool k) (fun _ _ => True) (fun _ _ _ _ _ => trivial)),(18,rsG (true && (((decide (a < (b.length : Int))) && (decide (((b.getD a.toNat 0).toNat : Int) ≠ 60))) == true)) () (fun _ => .bool l) (fun _ _ => True) (fun _ _ _ _ _ => trivial))] ?_
 refine gM ?_
 refine gM ?_
 refine g1 (fun d => r_slen d tU9) ?_
 refine g2 r_lss ?_
 refine gM ?_
 refine G1 r_move ?_
 refine G1 r_move ?_
 refine gP x <| G2s (fun d f h => r_sindex d f tU9 h) (fun hg => (dT (g_t hg))) ?_
 refine G2 r_neq ?_
 refine gpa ?_
 refine gM ?_
 refine G1 r_move ?_
 refine G1 r_move ?_
 refine gP y <| G2s (fun d f h => r_sindex d f tU9 h) (fun hg => ⟨(dT (aT (g_t hg)).1),(dT (aT (g_t hg)).2)⟩) ?_
 refine YC rfl Tryz.func79 (fun hg w' hE _ => z ⟨(dT (aT (g_t hg)).1),(dT (aT (g_t hg)).2)⟩ w' hE) (fun _ _ h => ⟨(),h,trivial⟩) fun _ => ?_
 refine G1 r_move ?_
 refine G1 r_move ?_
 refine gP aa <| G2s (fun d f h => r_sindex d f tU9 h) (fun hg => ⟨(dT (aT (g_t hg)).1),(dT (aT (g_t hg)).2)⟩) ?_
 refine YC rfl Tryz.func79 (fun hg w' hE _ => ab ⟨(dT (aT (g_t hg)).1),(dT (aT (g_t hg)).2)⟩ w' hE) (fun _ _ h => ⟨(),h,trivial⟩) fun _ => ?_
 refine G2 (fun d f => r_beql d f tU4) ?_
 refine gpa ?_
 refine eT fun g => ?_
 refine gZ <| tn ?_
 refine gi (fun h => ⟨⟨(dT (aT (aT h).1).1),(dT (aT (aT h).1).2)⟩,(aT h).2⟩) (fun h => ((aF h).imp (fun h => ((aF h).imp (fun h => (dF h)) (fun h => (dF h)))) (fun h => h))) ?_ ?_
 ·refine gk <| tn <| gb <| gR <| gM ?_
  refine g2s r_addI ?_
  refine gN <| ge <| bn <| gT0 ?_
  exact k1 [0]
 ·refine gx <| te <| te <| bh <| tn <| gS <| gR <| gM ?_
  refine gM ?_
  refine gM ?_
  refine g3s (fun d f ad h => r_sslice2 d f ad tU9 h) <| gT0 ?_
  refine gC [0] Tryz.func48 fun _ t => gE fun o => gQ ?_
  refine gbu ti_51 Tryz.underlying51 pl_51 (OPs.of rfl) ?_
  refine gM ?_
  refine wo 0 ti_51 fun q => ?_
  refine gN ?_
  refine gN <| ge <| tn <| gr <| gT0 ?_
  exact gz [.agg #[.int .i64 3,.string (Bs []),.string (Bs o),Sl.v Sl.nil,.bool false],.int .i64 a,.bool true] rfl (fun _ s => ⟨res_of_cell s.ag rfl (s.bx 0 rfl) Tryz.underlying51 rfl ti_51,res_of_tmp s.ag rfl,res_of_tmp s.ag rfl,trivial⟩)
def ref10_letter.vc (b : Str) (a : Int) (R : Value → World → Prop) (w : World) : Prop :=
(((a < (b.length : Int))) → (0 : Int) ≤ a ∧ a < (b.length : Int)) ∧
∃ (c : Bool),(((a < (b.length : Int))) → Calls Tryz.prog 81 #[.int .u8 ((b.getD a.toNat 0).toNat : Int)] w (Ret fun v w' => Ext w w' ∧ v = .bool c)) ∧
(∀ d : World,Ext w d →
R (.bool ((decide (a < (b.length : Int))) && c)) d)
theorem ref10_letter.ok (b : Str) (a : Int) {R : Value → World → Prop} {w : World} (g : ref10_letter.vc b a R w) : Calls Tryz.prog 50 #[.string (Bs b),.int .i64 a] w (Ret R) := by
 refine go _ Tryz.func50 Tryz.ntmps50 g ?_
 refine gS <| gR <| gN <| ge <| tn <| gS <| gR ?_
 refine gM ?_
 refine gM ?_
 refine g1 (fun f => r_slen f tU9) ?_
 refine g2 r_lss ?_
 refine gM ?_
 refine G1 r_move ?_
 refine G1 r_move ?_
 refine G2s (fun f i h => r_sindex f i tU9 h) (fun hg => (dT (g_t hg))) ?_
 refine gE fun c => GC Tryz.func81 (fun hg => (dT (g_t hg))) fun d => ?_
 refine gpa ?_
 refine gN <| ge <| tn <| gr ?_
 exact gz1
def ref10_tag.vc (a : Str) (n : Int) (j : Int) (R : Value → World → Prop) (w : World) : Prop :=
∀ (w5 : World) (d : Nat),New w d w5 → Chg [] w w5 →
CallK Tryz.prog 82 #[.string (Bs a),.int .i64 n,.string (Bs ([47,62] : Str))] w5 [d] (fun v w8 => ∃ (t : Int),v = .int .i64 t ∧
((0 : Int) ≤ n ∧ (n : Int) ≤ t ∧ t ≤ (a.length : Int)) ∧
CallK Tryz.prog 83 #[.string (Bs ((List.drop n.toNat a).take (t.toNat - n.toNat)))] w8 [d] (fun v ap => ∃ (m : Str),v = .string (Bs m) ∧
∀ (ah : World) (f : Nat),New ap f ah → Chg [] ap ah →
∃ (ai : Int → Sl → World → Prop) (aj : Int → Sl → World → Nat),
ai t Sl.nil ah ∧
(∀ (r : Int) (g : Sl) (z : World),ai r g z →
∃ (aq : Int → World → Prop) (aM : Int → World → Nat),
aq r z ∧
(∀ (b : Int) (u : World),aq b u →
(((b < (a.length : Int))) → (0 : Int) ≤ b ∧ b < (a.length : Int)) ∧
∃ (aa : Bool),(((b < (a.length : Int))) → Calls Tryz.prog 79 #[.int .u8 ((a.getD b.toNat 0).toNat : Int)] u (Ret fun v w' => Ext u w' ∧ v = .bool aa)) ∧
(∀ o : World,Ext u o →
(((b < (a.length : Int)) ∧ (aa = false)) → (0 : Int) ≤ b ∧ b < (a.length : Int)) ∧
(((b < (a.length : Int)) ∧ ((aa = true) ∨ (((a.getD b.toNat 0).toNat : Int) = 47))) →
(I64 (b + 1)) ∧
aq (b + 1) o ∧ aM (b + 1) o < aM b u) ∧
(((¬ (b < (a.length : Int))) ∨ ((aa = false) ∧ (¬ (((a.getD b.toNat 0).toNat : Int) = 47)))) →
(((a.length : Int) ≤ b) →
∀ (ar : World),Chg [d] o ar →
R (.tuple #[.agg #[.int .i64 0,.string (Bs []),.string (Bs []),Sl.v Sl.nil,.bool false],.int .i64 (a.length : Int),.bool false]) ar) ∧
((¬ ((a.length : Int) ≤ b)) →
((0 : Int) ≤ b ∧ b < (a.length : Int)) ∧
((((a.getD b.toNat 0).toNat : Int) = 62) →
∃ au : Sl → World → Prop,
(((j = 2) →
∀ (av : World),Chg [f] o av →
au Sl.nil av) ∧
((¬ (j = 2)) →
au g o)) ∧
(∀ (x : Sl) (ax : World),au x ax →
(I64 (b + 1)) ∧
∀ (ay : World),Chg [d] ax ay →
R (.tuple #[.agg #[.int .i64 j,.string (Bs m),.string (Bs []),Sl.v x,.bool false],.int .i64 (b + 1),.bool true]) ay)) ∧
((¬ (((a.getD b.toNat 0).toNat : Int) = 62)) →
(I64 (b + 1)) ∧
CallK Tryz.prog 82 #[.string (Bs a),.int .i64 (b + 1),.string (Bs ([47,62,61] : Str))] o [d,f] (fun v aN => ∃ (y : Int),v = .int .i64 y ∧
((0 : Int) ≤ b ∧ (b : Int) ≤ y ∧ y ≤ (a.length : Int)) ∧
CallK Tryz.prog 83 #[.string (Bs ((List.drop b.toNat a).take (y.toNat - b.toNat)))] aN [d,f] (fun v az => ∃ (p : Str),v = .string (Bs p) ∧
∀ (ak : World) (i : Nat),New az i ak → Chg [] az ak →
CallK Tryz.prog 84 #[.string (Bs a),.int .i64 y] ak [d,f,i] (fun v aA => ∃ (k : Int),v = .int .i64 k ∧
(((k < (a.length : Int))) → (0 : Int) ≤ k ∧ k < (a.length : Int)) ∧
∃ aB : Int → Str → World → Prop,
((((k < (a.length : Int)) ∧ (((a.getD k.toNat 0).toNat : Int) = 61)) →
(I64 (k + 1)) ∧
CallK Tryz.prog 84 #[.string (Bs a),.int .i64 (k + 1)] aA [d,f,i] (fun v aO => ∃ (aC : Int),v = .int .i64 aC ∧
CallK Tryz.prog 85 #[.string (Bs a),.int .i64 aC] aO [d,f,i] (fun v aD => ∃ (aG : Str) (ab : Int),v = .tuple #[.string (Bs aG),.int .i64 ab] ∧
(((a.length : Int) < ab) →
∀ (aH : World),Chg [d,i] aD aH →
R (.tuple #[.agg #[.int .i64 0,.string (Bs []),.string (Bs []),Sl.v Sl.nil,.bool false],.int .i64 (a.length : Int),.bool false]) aH) ∧
((¬ ((a.length : Int) < ab)) →
∀ (aI : World),Chg [i] aD aI →
aB ab aG aI)))) ∧
(((¬ (k < (a.length : Int))) ∨ (¬ (((a.getD k.toNat 0).toNat : Int) = 61))) →
aB k ([] : Str) aA)) ∧
(∀ (q : Int) (ad : Str) (aJ : World),aB q ad aJ →
CallK Tryz.prog 86 #[Sl.v g,.string (Bs p)] aJ [d,f,i] (fun v al => ∃ (am : Bool),v = .bool am ∧
((am = false) →
CallK Tryz.prog 87 #[Sl.v g,.string (Bs p),.string (Bs ad)] al [d,f,i] (fun v aP => ∃ (an : Sl),v = Sl.v an ∧
∀ (ao : World),Chg [f] aP ao →
ai q an ao ∧ aj q an ao < aj r g z)) ∧
((am = true) →
ai q g al ∧ aj q g al < aj r g z))))))))))))))
theorem ref10_tag.ok (a : Str) (n : Int) (j : Int) {R : Value → World → Prop} {w : World} (aQ : ref10_tag.vc a n j R w) : Calls Tryz.prog 51 #[.string (Bs a),.int .i64 n,.int .i64 j] w (Ret R) := by
 refine go _ Tryz.func51 Tryz.ntmps51 aQ ?_
 refine gS <| gR <| na ti_51 fun w5 d => ?_
 refine gN ?_
 refine gN <| ge <| tn <| gS <| gR ?_
 refine gM ?_
 refine gM <| gT1 ?_
 refine gC [0] Tryz.func82 fun _ w8 => gE fun t => gQ ?_
 refine gN <| ge <| tn <| gS <| gR ?_
 refine gM ?_
 refine gM ?_
 refine gM ?_
 refine gM ?_
 refine g3s (fun c l aK h => r_sslice2 c l aK tU9 h) ?_
 refine gC [0] Tryz.func83 fun _ ap => gE fun m => gQ ?_
 refine gbu ti_51 Tryz.underlying51 pl_51 (OPs.of rfl) ?_
 refine na ti_51 fun aR f => ?_
 refine wn 0 0 ti_51 fun ah => ge <| tn <| gb <| gT1 <| gE fun _ => gE fun mu => ?_
 refine l2 mu (fun r _ => [(9,.int .i64 r)]) [(0,_),(2,_),(6,_),(10,_)] (fun _ g => [(f,51,[.int .i64 j,.string (Bs m),.string (Bs []),Sl.v g,.bool false])]) [(d,_,_)] [0,1] fun r g z _ => gb <| gS <| gb <| gE fun _ => gE fun mu => ?_
 refine l1 mu (fun b => [(9,.int .i64 b)]) [(0,_),(2,_),(6,_),(10,_)] (fun _ => []) [(d,_,_),(f,_,_)] [1,0] fun b u _ => gS <| gS <| gR ?_
 refine gM ?_
 refine gM ?_
 refine g1 (fun c => r_slen c tU9) ?_
 refine g2 r_lss ?_
 refine gM ?_
 refine G1 r_move ?_
 refine G1 r_move ?_
 refine G2s (fun c l h => r_sindex c l tU9 h) (fun hg => (dT (g_t hg))) ?_
 refine gE fun aa => GC Tryz.func79 (fun hg => (dT (g_t hg))) fun o => ?_
 refine G1 r_move ?_
 refine G1 r_move ?_
 refine G1 r_move ?_
 refine G2s (fun c l h => r_sindex c l tU9 h) (fun hg => ⟨(dT (g_t (g_up hg))),(g_f hg)⟩) ?_
 refine G2 r_eql ?_
 refine Gpo ?_
 refine gpa <| ge <| tn ?_
 refine gi (fun h => ⟨(dT (aT h).1),((oT (aT h).2).imp (fun h => h) (fun h => (dT h)))⟩) (fun h => ((aF h).imp (fun h => (dF h)) (fun h => ⟨(oF h).1,(dF (oF h).2)⟩))) ?_ ?_
 ·refine gk <| tn <| gb <| gR <| gM ?_
  refine g2s r_addI ?_
  refine gN <| ge <| bn ?_
  exact k1 [0,1]
 ·refine gx <| te <| te <| bh <| tn <| gS <| gS <| gR <| gM ?_
  refine gM ?_
  refine g1 (fun c => r_slen c tU9) ?_
  refine g2 r_geq <| ge <| tn ?_
  refine gi dT dF ?_ ?_
  ·refine gS <| gR <| gbu ti_51 Tryz.underlying51 pl_51 (OPs.of rfl) ?_
   refine gM ?_
   refine g1 (fun c => r_slen c tU9) ?_
   refine wo 0 ti_51 fun ar => ?_
   refine gN ?_
   refine gN <| ge <| tn <| gr <| tr <| br <| tr <| br <| gT0 ?_
   exact gz [.agg #[.int .i64 0,.string (Bs []),.string (Bs []),Sl.v Sl.nil,.bool false],.int .i64 (a.length : Int),.bool false] rfl (fun _ s => ⟨res_of_cell s.ag rfl (s.bx 0 rfl) Tryz.underlying51 rfl ti_51,res_of_tmp s.ag rfl,res_of_tmp s.ag rfl,trivial⟩)
  ·refine gk <| tn <| gS <| gS <| gR <| gM ?_
   refine gM ?_
   refine g2s (fun c l h => r_sindex c l tU9 h) ?_
   refine g2 r_eql <| ge <| tn ?_
   refine gi dT dF ?_ ?_
   ·refine gS <| gS <| gR <| gM ?_
    refine g2 r_eql <| ge <| tn <| gE fun J => ?_
    refine m1 (fun _ => []) [(6,_),(9,_),(10,_)] (fun x => [(f,51,[.int .i64 j,.string (Bs m),.string (Bs []),Sl.v x,.bool false])]) [(d,_,_)] [1,0] ?_ fun x ax _ => ?_
    ·refine gi dT dF ?_ ?_
     ·refine gR <| gF 3 Tryz.underlying51 ti_25 ?_
      refine wo 1 ti_25 fun av => ge <| gT0 ?_
      exact j1 [1,0]
     ·exact gk <| j1 [1,0]
    ·refine tn <| gS <| gR <| gBN 0 5 Tryz.underlying51 ti_51 ?_
     refine gM ?_
     refine g2s r_addI ?_
     refine wo 1 ti_51 fun ay => ?_
     refine gN ?_
     refine gN <| ge <| tn <| gr <| tr <| br <| tr <| br <| gT0 ?_
     exact gz [.agg #[.int .i64 j,.string (Bs m),.string (Bs []),Sl.v x,.bool false],.int .i64 (b + 1),.bool true] rfl (fun _ s => ⟨res_of_cell s.ag rfl (s.bx 1 rfl) Tryz.underlying51 rfl ti_51,res_of_tmp s.ag rfl,res_of_tmp s.ag rfl,trivial⟩)
   ·refine gk <| tn <| gS <| gR <| gM ?_
    refine gM ?_
    refine g2s r_addI ?_
    refine gC [0,1] Tryz.func82 fun _ aN => gE fun y => gQ ?_
    refine gN <| ge <| tn <| gS <| gR ?_
    refine gM ?_
    refine gM ?_
    refine gM ?_
    refine g3s (fun c l aK h => r_sslice2 c l aK tU9 h) ?_
    refine gC [0,1] Tryz.func83 fun _ az => gE fun p => gQ ?_
    refine gbu ti_79 Tryz.underlying79 pl_79 (OPs.of rfl) ?_
    refine na ti_79 fun aS i => ?_
    refine wn 0 0 ti_79 fun ak => ge <| tn <| gS <| gR ?_
    refine gM ?_
    refine gM <| gT1 ?_
    refine gC [1,2,0] Tryz.func84 fun _ aA => gE fun k => gQ ?_
    refine gN <| ge <| tn <| gS <| gS <| gR ?_
    refine gM ?_
    refine gM ?_
    refine g1 (fun c => r_slen c tU9) ?_
    refine g2 r_lss ?_
    refine gM ?_
    refine G1 r_move ?_
    refine G1 r_move ?_
    refine G2s (fun c l h => r_sindex c l tU9 h) (fun hg => (dT (g_t hg))) ?_
    refine G2 r_eql ?_
    refine gpa <| ge <| tn <| gE fun J => ?_
    refine m2 (fun q _ => [(9,.int .i64 q)]) [(0,_),(2,_),(6,_),(10,_),(12,_)] (fun _ ad => [(i,79,[.string (Bs p),.string (Bs ad)])]) [(d,_,_),(f,_,_)] [0,1,2] ?_ fun q ad aJ _ => ?_
    ·refine gi (fun h => ⟨(dT (aT h).1),(dT (aT h).2)⟩) (fun h => ((aF h).imp (fun h => (dF h)) (fun h => (dF h)))) ?_ ?_
     ·refine gS <| gR <| gM ?_
      refine gM ?_
      refine gM ?_
      refine g2s r_addI ?_
      refine gKb [(i,79,[.string (Bs p),.string (Bs [])]),(d,51,[.int .i64 0,.string (Bs []),.string (Bs []),Sl.v Sl.nil,.bool false]),(f,51,[.int .i64 j,.string (Bs m),.string (Bs []),Sl.v g,.bool false])] ?_
      refine gC [1,2,0] Tryz.func84 fun _ aO => gE fun aC => gQ ?_
      refine gKb [(i,79,[.string (Bs p),.string (Bs [])]),(d,51,[.int .i64 0,.string (Bs []),.string (Bs []),Sl.v Sl.nil,.bool false]),(f,51,[.int .i64 j,.string (Bs m),.string (Bs []),Sl.v g,.bool false])] ?_
      refine gC [1,2,0] Tryz.func85 fun _ aD => gE fun aG => gE fun ab => gQ ?_
      refine gM ?_
      refine gx1 ?_
      refine gx1 ?_
      refine gF 1 Tryz.underlying79 ti_9 ?_
      refine gKb [(i,79,[.string (Bs p),.string (Bs [])]),(d,51,[.int .i64 0,.string (Bs []),.string (Bs []),Sl.v Sl.nil,.bool false]),(f,51,[.int .i64 j,.string (Bs m),.string (Bs []),Sl.v g,.bool false])] ?_
      refine wo 0 ti_9 fun aI => ?_
      refine gN <| ge <| tn <| gS <| gR ?_
      refine gM ?_
      refine gM ?_
      refine g1 (fun c => r_slen c tU9) ?_
      refine g2 r_gtr <| ge <| tn ?_
      refine gi dT dF ?_ ?_
      ·refine gS <| gR <| gbu ti_51 Tryz.underlying51 pl_51 (OPs.of rfl) ?_
       refine gM ?_
       refine g1 (fun c => r_slen c tU9) ?_
       refine wo 1 ti_51 fun aH => ?_
       refine gN ?_
       refine gN <| ge <| tn <| gr <| tr <| tr <| br <| tr <| br <| gT0 ?_
       exact gz [.agg #[.int .i64 0,.string (Bs []),.string (Bs []),Sl.v Sl.nil,.bool false],.int .i64 (a.length : Int),.bool false] rfl (fun _ s => ⟨res_of_cell s.ag rfl (s.bx 1 rfl) Tryz.underlying51 rfl ti_51,res_of_tmp s.ag rfl,res_of_tmp s.ag rfl,trivial⟩)
      ·exact gk <| gT0 <| j2 [0,1,2]
     ·exact gk <| j2 [0,1,2]
    ·refine tn <| gS <| gR <| gF 3 Tryz.underlying51 ti_25 ?_
     refine gB 2 tU25 ?_
     refine gF 0 Tryz.underlying79 ti_9 ?_
     refine gB 0 tU9 ?_
     refine gC [1,2,0] Tryz.func86 fun _ al => gE fun am => gQ ?_
     refine g1 r_not <| ge <| tn ?_
     refine gi nT nF ?_ ?_
     ·refine gR <| gF 3 Tryz.underlying51 ti_25 ?_
      refine gB 2 tU25 ?_
      refine gF 0 Tryz.underlying79 ti_9 ?_
      refine gB 0 tU9 ?_
      refine gF 1 Tryz.underlying79 ti_9 ?_
      refine gB 0 tU9 ?_
      refine gC [1,2,0] Tryz.func87 fun _ aP => gE fun an => gQ ?_
      refine gF 3 Tryz.underlying51 ti_25 ?_
      refine wo 2 ti_25 fun ao => ge <| bn <| gT0 ?_
      exact k2 [2,1]
     ·exact gk <| bn <| k2 [2,1]
def ref10_has.vc (c : Str) (a : Int) (b : Str) (R : Value → World → Prop) (w : World) : Prop :=
(((0 ≤ a)) → I64 ((c.length : Int) - a)) ∧
((((0 ≤ a) ∧ ((b.length : Int) ≤ ((c.length : Int) - a)))) → I64 (a + (b.length : Int))) ∧
((((0 ≤ a) ∧ ((b.length : Int) ≤ ((c.length : Int) - a)))) → (0 : Int) ≤ a ∧ (a : Int) ≤ a + (b.length : Int) ∧ a + (b.length : Int) ≤ (c.length : Int)) ∧
∃ (d : Str),((((0 ≤ a) ∧ ((b.length : Int) ≤ ((c.length : Int) - a)))) → Calls Tryz.prog 46 #[.string (Bs ((List.drop a.toNat c).take ((a + (b.length : Int)).toNat - a.toNat)))] w (Ret fun v w' => Ext w w' ∧ v = .string (Bs d))) ∧
(∀ f : World,Ext w f →
R (.bool (((decide (0 ≤ a)) && (decide ((b.length : Int) ≤ ((c.length : Int) - a)))) && (decide (d = b)))) f)
theorem ref10_has.ok (c : Str) (a : Int) (b : Str) {R : Value → World → Prop} {w : World} (o : ref10_has.vc c a b R w) : Calls Tryz.prog 52 #[.string (Bs c),.int .i64 a,.string (Bs b)] w (Ret R) := by
 refine enter [.string (Bs c),.int .i64 a,.string (Bs b)] Tryz.func52 rfl Tryz.ntmps52 rfl ?_
 intro a0 am
 unfold ref10_has.vc at o
 refine wp_seq (wp_region_lit ?_)
 refine sqv am rfl (r_assign rfl) fun _ an => sq_end ?_
 have p := an.kp [(0,.string (Bs c)),(1,.int .i64 a),(2,.string (Bs b))] rfl
 refine then_normal (wp_seq (wp_region_lit ?_))
 refine sqv p rfl (r_move (p.get rfl)) fun _ q => sqv q rfl (r_geq (q.get rfl) rfl) fun _ r => sqv r rfl (r_move (r.get rfl)) fun _ s => ?_
 refine sq (opk_gval s rfl rfl (g := true) (e := (decide (0 ≤ a))) rfl (fun hg => r_move (s.get rfl)) fun a9 t _ => ?_)
 refine sq (opk_gval t rfl rfl (g := true) (e := (decide (0 ≤ a))) rfl (fun hg => r_slen (cv_get (t.get rfl) hg) tU9) fun aD u _ => ?_)
 refine sq (opk_gval u rfl rfl (g := true) (e := (decide (0 ≤ a))) rfl (fun hg => r_move (u.get rfl)) fun aG x _ => ?_)
 refine sq (opk_gval x rfl rfl (g := true) (e := (decide (0 ≤ a))) rfl (fun hg => r_slen (cv_get (x.get rfl) hg) tU9) fun aH y _ => ?_)
 refine sq (opk_gval y rfl rfl (g := true) (e := (decide (0 ≤ a))) rfl (fun hg => r_move (y.get rfl)) fun aI i _ => ?_)
 obtain ⟨ao,ap⟩ := o
 refine sq (opk_gval i rfl rfl (g := true) (e := (decide (0 ≤ a))) rfl (fun hg => r_subI (cv_get (i.get rfl) hg) (cv_get (i.get rfl) hg) (ao (of_decide_eq_true (g_t hg)))) fun aJ j _ => ?_)
 refine sq (opk_gval j rfl rfl (g := true) (e := (decide (0 ≤ a))) rfl (fun hg => r_leq (cv_get (j.get rfl) hg) (cv_get (j.get rfl) hg)) fun aK k _ => ?_)
 refine sqv k rfl (r_pick_and (g := (true && ((decide (0 ≤ a)) == true))) (k.get rfl) (k.get rfl) (fun he => g_mkt rfl he)) fun _ z => sqv z rfl (r_move (z.get rfl)) fun _ aa => ?_
 refine sq (opk_gval aa rfl rfl (g := true) (e := ((decide (0 ≤ a)) && (decide ((b.length : Int) ≤ ((c.length : Int) - a))))) rfl (fun hg => r_move (aa.get rfl)) fun aL ab _ => ?_)
 refine sq (opk_gval ab rfl rfl (g := true) (e := ((decide (0 ≤ a)) && (decide ((b.length : Int) ≤ ((c.length : Int) - a))))) rfl (fun hg => r_move (ab.get rfl)) fun aM ad _ => ?_)
 refine sq (opk_gval ad rfl rfl (g := true) (e := ((decide (0 ≤ a)) && (decide ((b.length : Int) ≤ ((c.length : Int) - a))))) rfl (fun hg => r_move (ad.get rfl)) fun aN af _ => ?_)
 refine sq (opk_gval af rfl rfl (g := true) (e := ((decide (0 ≤ a)) && (decide ((b.length : Int) ≤ ((c.length : Int) - a))))) rfl (fun hg => r_move (af.get rfl)) fun aO ag _ => ?_)
 refine sq (opk_gval ag rfl rfl (g := true) (e := ((decide (0 ≤ a)) && (decide ((b.length : Int) ≤ ((c.length : Int) - a))))) rfl (fun hg => r_slen (cv_get (ag.get rfl) hg) tU9) fun aP l _ => ?_)
 obtain ⟨aq,ar⟩ := ap
 refine sq (opk_gval l rfl rfl (g := true) (e := ((decide (0 ≤ a)) && (decide ((b.length : Int) ≤ ((c.length : Int) - a))))) rfl (fun hg => r_addI (cv_get (l.get rfl) hg) (cv_get (l.get rfl) hg) (aq ⟨(of_decide_eq_true (b_and_t (g_t hg)).1),(of_decide_eq_true (b_and_t (g_t hg)).2)⟩)) fun aQ h _ => ?_)
 obtain ⟨au,av⟩ := ar
 refine sq (opk_gval h rfl rfl (g := true) (e := ((decide (0 ≤ a)) && (decide ((b.length : Int) ≤ ((c.length : Int) - a))))) rfl (fun hg => r_sslice2 (cv_get (h.get rfl) hg) (cv_get (h.get rfl) hg) (cv_get (h.get rfl) hg) tU9 (au ⟨(of_decide_eq_true (b_and_t (g_t hg)).1),(of_decide_eq_true (b_and_t (g_t hg)).2)⟩)) fun aR ah _ => ?_)
 obtain ⟨d,ax,ay⟩ := av
 refine sq (opk_gcall ah rfl rfl (g := true) (e := ((decide (0 ≤ a)) && (decide ((b.length : Int) ≤ ((c.length : Int) - a))))) rfl (fun hg => r_call (args := #[.string (Bs ((List.drop a.toNat c).take ((a + (b.length : Int)).toNat - a.toNat)))]) Tryz.func46 (by decide) rfl (map_arr (ml_cons (cv_get (ah.get rfl) hg) ml_nil)) rfl) (fun hg => ax ⟨(of_decide_eq_true (b_and_t (g_t hg)).1),(of_decide_eq_true (b_and_t (g_t hg)).2)⟩) fun aS f ai _ aj => ?_)
 have aU : Chg [] w f := aj
 have az := ay f aj
 refine sq (opk_gval ai rfl rfl (g := true) (e := ((decide (0 ≤ a)) && (decide ((b.length : Int) ≤ ((c.length : Int) - a))))) rfl (fun hg => r_move (ai.get rfl)) fun aV m _ => ?_)
 refine sq (opk_gval m rfl rfl (g := true) (e := ((decide (0 ≤ a)) && (decide ((b.length : Int) ≤ ((c.length : Int) - a))))) rfl (fun hg => r_seql (cv_get (m.get rfl) hg) (cv_get (m.get rfl) hg)) fun aX n _ => ?_)
 refine sqv n rfl (r_pick_and (g := (true && (((decide (0 ≤ a)) && (decide ((b.length : Int) ≤ ((c.length : Int) - a)))) == true))) (n.get rfl) (n.get rfl) (fun he => g_mkt rfl he)) fun _ ak => sqv ak rfl (r_assign (ak.get rfl)) fun _ aA => sq_end ?_
 have al := aA.kp [(6,.bool (((decide (0 ≤ a)) && (decide ((b.length : Int) ≤ ((c.length : Int) - a)))) && (decide (d = b))))] rfl
 refine then_normal ?_
 refine wp_ret ?_
 exact res_all (vs := [.bool (((decide (0 ≤ a)) && (decide ((b.length : Int) ≤ ((c.length : Int) - a)))) && (decide (d = b)))]) rfl al ⟨res_of_tmp al rfl,trivial⟩ az
def ref10_upto.vc (c : Str) (l : Int) (f : Str) (R : Value → World → Prop) (w : World) : Prop :=
∃ (p : Int → World → Prop) (r : Int → World → Nat),
p l w ∧
(∀ (a : Int) (i : World),p a i →
(((a < (c.length : Int))) → (0 : Int) ≤ a ∧ a < (c.length : Int)) ∧
∃ (m : Bool),(((a < (c.length : Int))) → Calls Tryz.prog 79 #[.int .u8 ((c.getD a.toNat 0).toNat : Int)] i (Ret fun v w' => Ext i w' ∧ v = .bool m)) ∧
(∀ n : World,Ext i n →
(((a < (c.length : Int)) ∧ (m = false)) →
∃ (q : Int → World → Prop) (s : Int → World → Nat),
q 0 n ∧
(∀ (b : Int) (j : World),q b j →
((b < (f.length : Int)) →
∀ (o : World),Chg [] j o →
((0 : Int) ≤ a ∧ a < (c.length : Int)) ∧
((0 : Int) ≤ b ∧ b < (f.length : Int)) ∧
((((c.getD a.toNat 0).toNat : Int) = ((f.getD b.toNat 0).toNat : Int)) →
∀ (g : World),Chg [] o g →
R (.int .i64 a) g) ∧
((¬ (((c.getD a.toNat 0).toNat : Int) = ((f.getD b.toNat 0).toNat : Int))) →
(I64 (b + 1)) ∧
∀ (g : World),Chg [] o g →
q (b + 1) g ∧ s (b + 1) g < s b j)) ∧
((¬ (b < (f.length : Int))) →
(I64 (a + 1)) ∧
p (a + 1) j ∧ r (a + 1) j < r a i))) ∧
(((¬ (a < (c.length : Int))) ∨ (m = true)) →
R (.int .i64 a) n)))
theorem ref10_upto.ok (c : Str) (l : Int) (f : Str) {R : Value → World → Prop} {w : World} (t : ref10_upto.vc c l f R w) : Calls Tryz.prog 82 #[.string (Bs c),.int .i64 l,.string (Bs f)] w (Ret R) := by
 refine go _ Tryz.func82 Tryz.ntmps82 t ?_
 refine gS <| gR <| gN <| ge <| tn <| gS <| gb <| gE fun _ => gE fun mu => ?_
 refine l1 mu (fun a => [(1,.int .i64 a)]) [(0,_),(2,_)] (fun _ => []) [] [] fun a i _ => gS <| gS <| gR ?_
 refine gM ?_
 refine gM ?_
 refine g1 (fun d => r_slen d tU9) ?_
 refine g2 r_lss ?_
 refine gM ?_
 refine G1 r_move ?_
 refine G1 r_move ?_
 refine G2s (fun d k h => r_sindex d k tU9 h) (fun hg => (dT (g_t hg))) ?_
 refine gE fun m => GC Tryz.func79 (fun hg => (dT (g_t hg))) fun n => ?_
 refine G1 r_not ?_
 refine gpa <| ge <| tn ?_
 refine gi (fun h => ⟨(dT (aT h).1),(nT (aT h).2)⟩) (fun h => ((aF h).imp (fun h => (dF h)) (fun h => (nF h)))) ?_ ?_
 ·refine gk <| tn <| gb <| gS <| gS <| gR <| gN <| ge <| tn <| gb <| gE fun _ => gE fun mu => ?_
  refine l1 mu (fun b => [(7,.int .i64 b)]) [(0,_),(1,_),(2,_)] (fun _ => []) [] [] fun b j _ => gS <| gS <| gR ?_
  refine gM ?_
  refine gM ?_
  refine g1 (fun d => r_slen d tU9) ?_
  refine g2 r_lss <| ge <| tn ?_
  refine gi dT dF ?_ ?_
  ·refine gk <| tn <| gS <| gb <| gS <| gD fun o => gT0 ?_
   refine gW 0 7 [] ?_
   refine gM ?_
   refine gM ?_
   refine g2s (fun d k h => r_sindex d k tU9 h) ?_
   refine gM ?_
   refine gM ?_
   refine g2s (fun d k h => r_sindex d k tU9 h) ?_
   refine g2 r_eql <| geT fun g => ?_
   refine gZ <| tn ?_
   refine gi dT dF ?_ ?_
   ·refine gS <| gR <| gM ?_
    refine gN <| ge <| tn <| gr <| br <| tr <| tr <| br <| tr <| br <| tr <| br <| tr <| gT0 ?_
    exact gz1
   ·refine gk <| bn <| tn <| gR <| gM ?_
    refine g2s r_addI ?_
    refine gN <| ge <| gT0 ?_
    exact k1 []
  ·refine gx <| te <| te <| bh <| tn <| gR <| gM ?_
   refine g2s r_addI ?_
   refine gN <| ge <| bn ?_
   exact k1 []
 ·refine gx <| te <| te <| bh <| tn <| gS <| gR <| gM ?_
  refine gN <| ge <| tn <| gr ?_
  exact gz1
end Go.Proofs.YtenokfdkckhhiaaGreatDoor
