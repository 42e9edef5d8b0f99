/-
  PRINTED BY PROGRAM: for each function its condition (vc), and that this suffices (ok).
-/
import Derived.Test.YtenokfdkckhhiaaGreatDoorQBuildNestsGT
namespace Go.Proofs.YtenokfdkckhhiaaGreatDoor
open Go.RowKit
set_option linter.unusedVariables false
set_option maxHeartbeats 1000000
set_option maxRecDepth 10000
def build_Build.vc (g : Sl) (R : Value → World → Prop) (w : World) : Prop :=
∀ (m : World) (c : Nat) (i : Nat),New w c m → New w i m → c ≠ i → Chg [] w m →
CallK Tryz.prog 19 #[] m [c,i] (fun v w8 => ∃ (x : Option Addr),v = .pointer x ∧
∀ (k : World) (d : Nat),New w8 d k → Chg [] w8 k →
∃ ap : World → Prop,
(∀ (_ : Box k i 56 [.int .i64 0,.int .i64 1,.string (Bs []),.string (Bs []),Sl.v Sl.nil,.pointer none,Sl.v Sl.nil]),
∀ (_ : Box k d 60 [.pointer (some (⟨i,0,none⟩ : Addr)),.pointer none,.int .i64 1,Sl.v Sl.nil,.pointer x,.int .i64 0,.bool false,.bool false]),
∃ (y : Int → World → Prop) (z : Int → World → Nat),
y 0 k ∧
(∀ (b : Int) (f : World),y b f →
((b < (g.n : Int)) →
((0 : Int) ≤ b ∧ b < (g.n : Int)) ∧ ∃ aq : Addr,g.a = some aq ∧
∃ (j : Int) (aa : Str) (ab : Str) (ad : Sl) (af : Bool),(Cells f (aq.add (b.toNat * 5)) [.int .i64 j,.string (Bs aa),.string (Bs ab),Sl.v ad,.bool af]) ∧
∀ (l : World) (ah : Nat),New f ah l → Chg [] f l →
∃ (ai : Int),(((¬ (j = 6))) → l.cell? ((⟨d,0,none⟩ : Addr).add 2) = some (.int .i64 ai)) ∧
(((j = 6) ∨ (300 < ai)) →
ap l) ∧
(((¬ (j = 6)) ∧ (¬ (300 < ai))) →
CallK Tryz.prog 20 #[.agg #[.int .i64 j,.string (Bs aa),.string (Bs ab),Sl.v ad,.bool af]] l [c,ah] (fun v aj => ∃ (ak : Bool),v = .bool ak ∧
((ak = true) →
CallK Tryz.prog 21 #[.pointer (some (⟨d,0,none⟩ : Addr)),.agg #[.int .i64 j,.string (Bs aa),.string (Bs ab),Sl.v ad,.bool af]] aj [c,ah] (fun v ar => v = .tuple #[] ∧
(I64 (b + 1)) ∧
y (b + 1) ar ∧ z (b + 1) ar < z b f)) ∧
((ak = false) →
(I64 (b + 1)) ∧
y (b + 1) aj ∧ z (b + 1) aj < z b f)))) ∧
((¬ (b < (g.n : Int))) →
ap f))) ∧
(∀ (au : World),ap au →
CallK Tryz.prog 21 #[.pointer (some (⟨d,0,none⟩ : Addr)),.agg #[.int .i64 6,.string (Bs []),.string (Bs []),Sl.v Sl.nil,.bool false]] au [c] (fun v o => v = .tuple #[] ∧
∃ (al : Int),(o.cell? ((⟨d,0,none⟩ : Addr).add 2) = some (.int .i64 al)) ∧
((300 < al) →
∀ (av : World),Chg [c] o av →
R (.tuple #[.agg #[.int .i64 0,.string (Bs []),.string (Bs []),Sl.v Sl.nil,Sl.v Sl.nil],.int .i64 2]) av) ∧
((¬ (300 < al)) →
∃ (ax : Option Addr),(o.cell? ((⟨d,0,none⟩ : Addr).add 0) = some (.pointer ax)) ∧
CallK Tryz.prog 22 #[.pointer ax] o [c] (fun v ay => ∃ (p : Int) (q : Str) (r : Str) (t : Sl) (u : Sl),v = .agg #[.int .i64 p,.string (Bs q),.string (Bs r),Sl.v t,Sl.v u] ∧
∀ (am : World) (az : Nat),New ay az am → Chg [] ay am →
CallK Tryz.prog 23 #[.agg #[.int .i64 p,.string (Bs q),.string (Bs r),Sl.v t,Sl.v u]] am [c,az] (fun v aA => ∃ (an : Bool),v = .bool an ∧
((an = false) →
∀ (aB : World),Chg [c] aA aB →
R (.tuple #[.agg #[.int .i64 0,.string (Bs []),.string (Bs []),Sl.v Sl.nil,Sl.v Sl.nil],.int .i64 2]) aB) ∧
((an = true) →
∀ (aC : World),Chg [c] aA aC →
R (.tuple #[.agg #[.int .i64 p,.string (Bs q),.string (Bs r),Sl.v t,Sl.v u],.int .i64 0]) aC)))))))
theorem build_Build.ok (g : Sl) {R : Value → World → Prop} {w : World} (aD : build_Build.vc g R w) : Calls Tryz.prog 11 #[Sl.v g] w (Ret R) := by
 refine go _ Tryz.func11 Tryz.ntmps11 aD ?_
 refine gS <| gR <| na ti_28 fun w3 c => ?_
 refine gN <| ge <| tn <| gs <| gS <| gR ?_
 refine gbK #[.int .i64 0,.int .i64 1,.string (Bs []),.string (Bs []),Sl.v Sl.nil,.pointer none,Sl.v Sl.nil] ti_56 Tryz.underlying56 pl_56 ?_
 refine nb fun m i => gT2 ?_
 refine gC [1,0] Tryz.func19 fun _ w8 => gE fun x => gQ ?_
 refine gbK #[pB i 0,.pointer none,.int .i64 1,Sl.v Sl.nil,.pointer x,.int .i64 0,.bool false,.bool false] ti_60 Tryz.underlying60 pl_60 ?_
 refine nb fun k d => ?_
 refine gN <| ge <| tn <| gS <| gl <| tn <| gS <| gS <| gR ?_
 refine gM ?_
 refine g1 (fun aG => r_len aG tU22) ?_
 refine gM <| ge <| tn <| gT1 <| gE fun J => ?_
 refine m0 [] [(2,_),(4,_)] [] [(c,_,_)] [2] ?_ fun  au _ => ?_
 ·refine gb <| gX 1 ?_
  refine gX 0 <| gE fun _ => gE fun mu => ?_
  refine l1 mu (fun b => [(15,.int .i64 b)]) [(2,_),(4,_),(13,_),(14,_)] (fun _ => []) [(c,_,_)] [2] fun b f _ => gS <| gR ?_
  refine g2 r_lss <| ge <| tn <| gS ?_
  refine gi dT dF ?_ ?_
  ·refine gk <| tn <| gS <| gb <| gS <| gR <| gI1 tU22 ti_51 fun aq => ?_
   refine gE fun j => gE fun aa => gE fun ab => gE fun ad => gE fun af => gLN Tryz.underlying51 ti_51 ?_
   refine na ti_51 fun aI ah => ?_
   refine wn 0 0 ti_51 fun l => ge <| tn <| gS <| gS <| gR ?_
   refine gF 0 Tryz.underlying51 ti_3 ?_
   refine gB 0 tU3 ?_
   refine g2 r_eql ?_
   refine gM ?_
   refine G1 r_move ?_
   refine G1 r_nilCheck ?_
   refine GF 2 Tryz.underlying60 ti_3 <| gT1 ?_
   refine gE fun ai => GLd tU3 (fun hg => (dF (g_f hg))) ?_
   refine G2 r_gtr ?_
   refine gpo <| ge <| tn ?_
   refine gi (fun h => ((oT h).imp (fun h => (dT h)) (fun h => (dT h)))) (fun h => ⟨(dF (oF h).1),(dF (oF h).2)⟩) ?_ ?_
   ·refine gx <| te <| bm <| te <| te <| bh ?_
    exact j0 [1]
   ·refine gk <| tn <| gS <| gR <| gBN 0 5 Tryz.underlying51 ti_51 ?_
    refine gC [1,0] Tryz.func20 fun _ aj => gE fun ak => gQ <| ge <| tn ?_
    refine gi id id ?_ ?_
    ·refine gR <| gM ?_
     refine gBN 0 5 Tryz.underlying51 ti_51 ?_
     refine gC [1,0] Tryz.func21 fun _ ar => gQ <| ge <| bn <| tn <| gR ?_
     refine g2s r_addI ?_
     refine gM <| ge ?_
     exact k1 [1]
    ·refine gk <| bn <| tn <| gR <| g2s r_addI ?_
     refine gM <| ge ?_
     exact k1 [1]
  ·exact gx <| te <| te <| bh <| j0 [0]
 ·refine tn <| gS <| gR <| gM ?_
  refine gbu ti_51 Tryz.underlying51 pl_51 (OPs.of rfl) ?_
  refine gC [0] Tryz.func21 fun _ o => gQ <| ge <| tn <| gS <| gS <| gR ?_
  refine gM ?_
  refine g1 r_nilCheck ?_
  refine gF 2 Tryz.underlying60 ti_3 ?_
  refine gE fun al => gL tU3 ?_
  refine g2 r_gtr <| ge <| tn ?_
  refine gi dT dF ?_ ?_
  ·refine gS <| gR <| gbu ti_28 Tryz.underlying28 pl_28 (OPs.of rfl) ?_
   refine wo 0 ti_28 fun av => ?_
   refine gN <| ge <| tn <| gr <| tr <| sr <| gT0 ?_
   exact gz [.agg #[.int .i64 0,.string (Bs []),.string (Bs []),Sl.v Sl.nil,Sl.v Sl.nil],.int .i64 2] rfl (fun _ s => ⟨res_of_cell s.ag rfl (s.bx 0 rfl) Tryz.underlying28 rfl ti_28,res_of_tmp s.ag rfl,trivial⟩)
  ·refine gk <| tn <| gS <| gR <| gM ?_
   refine g1 r_nilCheck ?_
   refine gF 0 Tryz.underlying60 ti_53 ?_
   refine gE fun ax => gL tU53 ?_
   refine gC [0] Tryz.func22 fun _ ay => gE fun p => gE fun q => gE fun r => gE fun t => gE fun u => gQ ?_
   refine na ti_28 fun aJ az => ?_
   refine wn 0 0 ti_28 fun am => ge <| tn <| gS <| gS <| gR ?_
   refine gBN 0 5 Tryz.underlying28 ti_28 <| gT1 ?_
   refine gC [1,0] Tryz.func23 fun _ aA => gE fun an => gQ ?_
   refine g1 r_not <| ge <| tn ?_
   refine gi nT nF ?_ ?_
   ·refine gS <| gR <| gbu ti_28 Tryz.underlying28 pl_28 (OPs.of rfl) ?_
    refine wo 1 ti_28 fun aB => ?_
    refine gN <| ge <| tn <| gr <| tr <| sr <| gT0 ?_
    exact gz [.agg #[.int .i64 0,.string (Bs []),.string (Bs []),Sl.v Sl.nil,Sl.v Sl.nil],.int .i64 2] rfl (fun _ s => ⟨res_of_cell s.ag rfl (s.bx 1 rfl) Tryz.underlying28 rfl ti_28,res_of_tmp s.ag rfl,trivial⟩)
   ·refine gk <| tn <| gS <| gR <| gBN 0 5 Tryz.underlying28 ti_28 ?_
    refine wo 1 ti_28 fun aC => ?_
    refine gN <| ge <| tn <| gr <| sr <| gT0 ?_
    exact gz [.agg #[.int .i64 p,.string (Bs q),.string (Bs r),Sl.v t,Sl.v u],.int .i64 0] rfl (fun _ s => ⟨res_of_cell s.ag rfl (s.bx 1 rfl) Tryz.underlying28 rfl ti_28,res_of_tmp s.ag rfl,trivial⟩)
end Go.Proofs.YtenokfdkckhhiaaGreatDoor
