/-
  What the proof of the statement leans on: texts one behind the other.
-/
import Derived.Test.YtenokfdkckhhiaaGreatDoorQBuildNests5
import Derived.Test.YtenokfdkckhhiaaGreatDoorQBuildNests2
import Derived.Test.YtenokfdkckhhiaaGreatDoorQBuildNests4
import Derived.Test.YtenokfdkckhhiaaGreatDoorQBuildNestsGlaw14BuildNests
import Derived.Test.YtenokfdkckhhiaaGreatDoorRows
import Derived.MakeChecks
import Derived.Lib.LaidTab
import Derived.LaidSub
namespace Go.Proofs.YtenokfdkckhhiaaGreatDoor
section
namespace Ev
set_option autoImplicit false
set_option maxRecDepth 100000
open Go.RowKit
noncomputable section
section
variable [Tx]
theorem HR.same {E : En} {H H' : AH} {w0 : W0} {w : World} (h : HR E H w0 w) (hg : ∀ k,H'.get k = H.get k) (hn : H'.nx = H.nx) (hf : ∀ f,H'.fm.get f = H.fm.get f) : HR E H' w0 w := by
 have ha : ∀ b,H'.at b = H.at b := fun b => by
  unfold AH.at
  rw [hg]
  cases H.get b with
  |none => rfl
  |some o => cases o with
   |cells T c l => cases l with
    |fam f e => simp only [hf]
    |own => rfl
    |ro => rfl
   |map => rfl
   |lst => rfl
 have hl : ∀ {b},live H' b → live H b := fun {b} h => by
  unfold live at h ⊢
  rw [ha,hg] at h; exact h
 refine ⟨h.lt,h.wp,h.ch,fun b p hb => by rw [hn]; exact h.dom b p hb,fun b o hb => by rw [hn]; rw [hg] at hb; exact h.key b o hb,fun f p hp => by rw [hn]; rw [hf] at hp; exact h.fkey f p hp,fun b T c f e hb => by rw [hg] at hb; rw [hf]; exact h.bf b T c f e hb,fun b T c f e hb => ?_,fun b T c l B S hb he => by rw [ha] at hb; exact h.cel b T c l B S hb he,fun b es cl B S hb he => by rw [hg] at hb; exact h.mp b es cl B S hb he,fun b b' B S S' hbb h1 h2 h3 h4 => ?_,fun b v B S hb he => by rw [hg] at hb; exact h.ls b v B S hb he⟩
 ·rw [ha] at hb
  obtain ⟨q,T',c',g1,g2,g3⟩ := h.las b T c f e hb
  exact ⟨q,T',c',by rw [hf]; exact g1,by rw [ha]; exact g2,g3⟩
 ·obtain ⟨f,e,T,c,T',c',g1,g2⟩ := h.inj b b' B S S' hbb h1 h2 (hl h3) (hl h4)
  exact ⟨f,e,T,c,T',c',by rw [ha]; exact g1,by rw [ha]; exact g2⟩
theorem View.last {l : List AO} {v v' : List (Nat × Nat)} (hv : ∀ K w B,LsN K w B v → LsN K w B v') : View (mkH (l ++ [.lst v])) (mkH (l ++ [.lst v'])) := fun {F b w} h => by
 obtain ⟨n1,f1,g1⟩ := mkH_get (l ++ [.lst v])
 obtain ⟨n2,f2,g2⟩ := mkH_get (l ++ [.lst v'])
 have hgl : (mkH (l ++ [.lst v])).get l.length = some (.lst v) := by rw [g1]; simp
 obtain ⟨E,h'⟩ := View.lst hgl hv h
 refine ⟨E,h'.fst,h'.mem,h'.hr.same (fun k => ?_) ?_ (fun f => ?_),h'.lt⟩
 ·rw [AH.get_set,g2,g1]
  by_cases e : k = l.length
  ·subst e; simp
  ·rw [if_neg e,List.getElem?_append,List.getElem?_append]
   by_cases hk : k < l.length
   ·rw [if_pos hk,if_pos hk]
   ·rw [if_neg hk,if_neg hk]
    have : k - l.length = (k - l.length - 1) + 1 := by omega
    rw [this]; rfl
 ·show (mkH _).nx = (mkH _).nx
  rw [n1,n2]; simp
 ·show (mkH _).fm.get f = (mkH _).fm.get f
  rw [f1,f2]
end
def nmS : List Str := [[100,105,118],[98],[115,112,97,110],[117,108],[115,101,99,116,105,111,110],[105],[101,109],[120,45,121]]
def nmR (r : Nat) : Str := nmS.getD r [98]
def clR (r : Nat) : Nat := [0,1,2,0,0,1,1,2].getD r 1
theorem nmR_ok (r : Nat) : ∃ c q,nmR r = c :: q ∧ c ≠ 9 ∧ c ≠ 10 ∧ c ≠ 12 ∧ c ≠ 32 := by
 have h : ∀ r < 8,∃ c q,nmR r = c :: q ∧ c ≠ 9 ∧ c ≠ 10 ∧ c ≠ 12 ∧ c ≠ 32 := by
  intro r hr
  rcases r with _ | _ | _ | _ | _ | _ | _ | _ | r
  all_goals first | exact ⟨_,_,rfl,by decide,by decide,by decide,by decide⟩ | omega
 by_cases hr : r < 8
 ·exact h r hr
 ·have : nmR r = [98] := by
   unfold nmR
   rw [List.getD_eq_getElem?_getD,List.getElem?_eq_none (by show 8 ≤ r; omega)]; rfl
  rw [this]
  exact ⟨_,_,rfl,by decide,by decide,by decide,by decide⟩
theorem up_div (n : Nat) : upN n / 4 = n / 4 := by
 unfold upN
 cases Nat.blt n 100 with
 |true => rfl
 |false => show (4 * (n / 4) + 3) / 4 = _; omega
abbrev txN (rs : List Nat) : Tx := ⟨fun n => nmR (rs.getD (n / 4 - 25) 1),fun n => nmR_ok _,fun n => by rw [up_div]⟩
theorem nN_t (rs : List Nat) {i c : Nat} (hc : c ≤ 3) : (txN rs).t (nN i c) = nmR (rs.getD i 1) := by
 show nmR (rs.getD (nN i c / 4 - 25) 1) = _
 have : nN i c = 4 * (i + 25) + c := rfl
 rw [this,show (4 * (i + 25) + c) / 4 - 25 = i by omega]
theorem cl_mem {r : Nat} (hr : r < 8) : clR r ≤ 2 ∧ (∀ i,∃ q ∈ clsN (nN i (clR r)),nmR r = q.map UInt8.ofNat) := by
 have h : ∀ r < 8,clR r ≤ 2 ∧ ∃ q ∈ (if clR r = 0 then nmB else if clR r = 1 then nmF else nmO),nmR r = q.map UInt8.ofNat := by decide
 obtain ⟨h1,q,h2,h3⟩ := h r hr
 refine ⟨h1,fun i => ⟨q,?_,h3⟩⟩
 have e : Nat.mod (nN i (clR r)) 4 = clR r := by
  show (4 * (i + 25) + clR r) % 4 = _
  omega
 unfold clsN
 rw [e]
 have : clR r = 0 ∨ clR r = 1 ∨ clR r = 2 := by omega
 rcases this with h | h | h
 ·rw [h] at h2 ⊢; exact h2
 ·rw [h] at h2 ⊢; exact h2
 ·rw [h] at h2 ⊢; exact h2
theorem cl_no {r : Nat} (hr : r < 8) (h1 : clR r ≠ 1) : ∀ q ∈ nmF,nmR r ≠ q.map UInt8.ofNat := by
 have h : ∀ r < 8,clR r ≠ 1 → ∀ q ∈ nmF,nmR r ≠ q.map UInt8.ofNat := by decide
 exact h r hr h1
theorem vNg_snoc : ∀ (n i : Nat),vNg (n + 1) i = vNg n i ++ [(5 + (n + i),nN (n + i) 3)]
 |0,i => by
  show [(5 + i,nN i 3)] = [(5 + (0 + i),nN (0 + i) 3)]
  rw [Nat.zero_add]
 |n + 1,i => by
  show (5 + i,nN i 3) :: vNg (n + 1) (i + 1) = (5 + i,nN i 3) :: vNg n (i + 1) ++ [_]
  rw [vNg_snoc n (i + 1),List.cons_append,show n + (i + 1) = n + 1 + i by omega]
theorem vN_succ (k : Nat) : vN (k + 1) = vN k ++ [(5 + k,nN k 3)] := vNg_snoc k 0
def pSt (r : Nat) : Pc := .s (nmR r)
def pEn (r : Nat) : Pc := .e (nmR r)
theorem k20 {k : Nat} (h : k < 20) : k ∈ [0,1,2,3,4,5,6,7,8,9,10,11,12,13,14,15,16,17,18,19] := by
 have : [0,1,2,3,4,5,6,7,8,9,10,11,12,13,14,15,16,17,18,19] = List.range 20 := by decide
 rw [this]; exact List.mem_range.2 h
theorem k21 {k : Nat} (h0 : 0 < k) (h : k ≤ 20) : k ∈ [1,2,3,4,5,6,7,8,9,10,11,12,13,14,15,16,17,18,19,20] := by
 have : [1,2,3,4,5,6,7,8,9,10,11,12,13,14,15,16,17,18,19,20] = (List.range 20).map (· + 1) := by decide
 rw [this]; exact List.mem_map.2 ⟨k - 1,List.mem_range.2 (by omega),by omega⟩
theorem all_o {k : Nat} {l : List Nat} (h : AllL (stE k) l) (hl : l = List.range k) {o : Nat} (ho : o < k) : stE k o := h.mem o (by rw [hl]; exact List.mem_range.2 ho)
theorem eAll {k o : Nat} (h : k ≤ 20) (ho : o < k) : stE k o := by
 rcases k with _ | _ | _ | _ | _ | _ | _ | _ | _ | _ | _ | _ | _ | _ | _ | _ | _ | _ | _ | _ | _ | k
 ·omega
 ·exact all_o nEs1 (by decide) ho
 ·exact all_o nEs2 (by decide) ho
 ·exact all_o nEs3 (by decide) ho
 ·exact all_o nEs4 (by decide) ho
 ·exact all_o nEs5 (by decide) ho
 ·exact all_o nEs6 (by decide) ho
 ·exact all_o nEs7 (by decide) ho
 ·exact all_o nEs8 (by decide) ho
 ·exact all_o nEs9 (by decide) ho
 ·exact all_o nEs10 (by decide) ho
 ·exact all_o nEs11 (by decide) ho
 ·exact all_o nEs12 (by decide) ho
 ·exact all_o nEs13 (by decide) ho
 ·exact all_o nEs14 (by decide) ho
 ·exact all_o nEs15 (by decide) ho
 ·exact all_o nEs16 (by decide) ho
 ·exact all_o nEs17 (by decide) ho
 ·exact all_o nEs18 (by decide) ho
 ·exact all_o nEs19 (by decide) ho
 ·exact all_o nEs20 (by decide) ho
 ·omega
section
variable (rs : List Nat)
theorem sTk {i : Nat} (hi : i < rs.length) (h8 : ∀ r ∈ rs,r < 8) : (letI := txN rs; TkV (sL i (clR (rs.getD i 1))) (pSt (rs.getD i 1))) ∧ (letI := txN rs; TkV (eL i (clR (rs.getD i 1))) (pEn (rs.getD i 1))) := by
 letI := txN rs
 have hr : rs.getD i 1 < 8 := h8 _ (by rw [List.getD_eq_getElem?_getD,List.getElem?_eq_getElem hi]; exact List.getElem_mem hi)
 obtain ⟨h1,h2⟩ := cl_mem hr
 have ht := nN_t rs (i := i) (c := clR (rs.getD i 1)) (by omega)
 have hx : ∀ E,(AC.tx (nN i (clR (rs.getD i 1))) []).v E (.string (Bs (nmR (rs.getD i 1)))) := fun E => ⟨by rw [← ht]; rfl,by simp,fun _ => by rw [ht]; exact h2 i⟩
 exact ⟨fun E => ⟨tkc (pSt (rs.getD i 1)),rfl,.cons rfl (.cons (hx E) (.cons (sv_str E []) (.cons ⟨rfl,rfl,rfl⟩ (.cons rfl .nil))))⟩,fun E => ⟨tkc (pEn (rs.getD i 1)),rfl,.cons rfl (.cons (hx E) (.cons (sv_str E []) (.cons ⟨rfl,rfl,rfl⟩ (.cons rfl .nil))))⟩⟩
theorem pathA (h8 : ∀ r ∈ rs,r < 8) (hl : rs.length ≤ 20) : ∀ k,k ≤ rs.length → (letI := txN rs; Path (nA 0 []) ((rs.take k).map pSt) (nA k (vN k)))
 |0,_ => by letI := txN rs; exact .nil _
 |k + 1,hk => by
  letI := txN rs
  have ih := pathA h8 hl k (by omega)
  have hr : rs.getD k 1 < 8 := h8 _ (by rw [List.getD_eq_getElem?_getD,List.getElem?_eq_getElem (by omega)]; exact List.getElem_mem _)
  obtain ⟨t0,t1,t2,⟨c0,c1,c2⟩,_,hm⟩ := nAs.mem k (k20 (by omega))
  have hw : ∀ K w B,LsN K w B (vN k) → LsN K w B (vN (k + 1)) := fun K w B h => h.wide (by rw [vN_succ,List.map_append]; exact List.sublist_append_left _ _)
  have hw1 : ∀ K w B,LsN K w B (vN k ++ [(Nat.add 5 k,nN k 1)]) → LsN K w B (vN (k + 1)) := fun K w B h => h.wide (by
   have e1 := nN_t rs (i := k) (c := 1) (by omega)
   have e3 := nN_t rs (i := k) (c := 3) (by omega)
   rw [vN_succ,List.map_append,List.map_append]
   simp only [List.map_cons,List.map_nil]
   rw [e1,e3]
   exact List.Sublist.refl _)
  have hst : LStep (nA k (vN k)) (sL k (clR (rs.getD k 1))) (nA (k + 1) (vN (k + 1))) := by
   have : clR (rs.getD k 1) = 0 ∨ clR (rs.getD k 1) = 1 ∨ clR (rs.getD k 1) = 2 := by
    have := (cl_mem hr).1; omega
   rcases this with h | h | h
   ·rw [h]; exact ⟨hm,c0,_,t0,View.last hw⟩
   ·rw [h]; exact ⟨hm,c1,_,t1,View.last hw1⟩
   ·rw [h]; exact ⟨hm,c2,_,t2,View.last hw⟩
  have e : (rs.take (k + 1)).map pSt = (rs.take k).map pSt ++ [pSt (rs.getD k 1)] := by
   rw [List.take_succ_eq_append_getElem (by omega),List.map_append,List.getD_eq_getElem?_getD,List.getElem?_eq_getElem (by omega)]; rfl
  rw [e]
  exact ih.app (.consL (sTk rs (by omega) h8).1 hst (.nil _))
theorem pathE (h8 : ∀ r ∈ rs,r < 8) (hl : rs.length ≤ 20) : ∀ d,d ≤ rs.length → (letI := txN rs; Path (nX rs.length rs.length (vN rs.length)) ((rs.drop (rs.length - d)).reverse.map pEn) (nX rs.length (rs.length - d) (vN (rs.length - d))))
 |0,_ => by
  letI := txN rs
  rw [Nat.sub_zero,List.drop_length]; exact .nil _
 |d + 1,hd => by
  letI := txN rs
  have ih := pathE h8 hl d (by omega)
  obtain ⟨o,ho⟩ : ∃ o,rs.length - (d + 1) = o := ⟨_,rfl⟩
  have hod : rs.length - d = o + 1 := by omega
  rw [hod] at ih
  rw [ho]
  have hol : o < rs.length := by omega
  have hr : rs.getD o 1 < 8 := h8 _ (by rw [List.getD_eq_getElem?_getD,List.getElem?_eq_getElem hol]; exact List.getElem_mem _)
  obtain ⟨t0,t1,t2,hm⟩ := eAll hl hol
  obtain ⟨_,_,_,_,⟨c0,c1,c2⟩,_⟩ := nAs.mem o (k20 (by omega))
  have hv : clR (rs.getD o 1) ≠ 1 → ∀ K w B,LsN K w B (vN (o + 1)) → LsN K w B (vN o) := fun hne K w B h => by
   rw [vN_succ] at h
   exact h.drop (by
    show ∀ q ∈ nmF,(txN rs).t (nN o 3) ≠ _
    rw [nN_t rs (by omega)]; exact cl_no hr hne)
  have hst : LStep (nX rs.length (o + 1) (vN (o + 1))) (eL o (clR (rs.getD o 1))) (nX rs.length o (vN o)) := by
   have : clR (rs.getD o 1) = 0 ∨ clR (rs.getD o 1) = 1 ∨ clR (rs.getD o 1) = 2 := by
    have := (cl_mem hr).1; omega
   rcases this with h | h | h
   ·have hv := hv (by omega)
    rw [h]; exact ⟨hm,c0,_,t0,View.last hv⟩
   ·rw [h]; exact ⟨hm,c1,_,t1,View.refl _⟩
   ·have hv := hv (by omega)
    rw [h]; exact ⟨hm,c2,_,t2,View.last hv⟩
  have e : (rs.drop o).reverse.map pEn = (rs.drop (o + 1)).reverse.map pEn ++ [pEn (rs.getD o 1)] := by
   rw [List.drop_eq_getElem_cons hol,List.reverse_cons,List.map_append,List.getD_eq_getElem?_getD,List.getElem?_eq_getElem hol]; rfl
  rw [e]
  exact ih.app (.consL (sTk rs hol h8).2 hst (.nil _))
end
def bdS : Str := [98,111,100,121]
theorem t_cnt : retV (runT ftb 20 [.a (tkA (.t [120]))] H00) = some (.c (.b true)) ∧ retV (runT ftb 20 [.a (tkA (.t [121]))] H00) = some (.c (.b true)) ∧ retV (runT ftb 20 [.a (tkA (.t [120,121]))] H00) = some (.c (.b true)) ∧ retV (runT ftb 20 [.a (tkA (.s bdS))] H00) = some (.c (.b true)) ∧ madeOk initS = true ∧ S0 = nA 0 [] := ⟨by kernel_rfl,by kernel_rfl,by kernel_rfl,by kernel_rfl,by kernel_rfl,by kernel_rfl⟩
def nPs (rs : List Nat) : List Pc := .s bdS :: (rs.map pSt ++ (.t [120] :: (rs.reverse.map pEn ++ [.t [121]])))
theorem nPath (rs : List Nat) (h8 : ∀ r ∈ rs,r < 8) (h0 : 0 < rs.length) (hl : rs.length ≤ 20) : (letI := txN rs; ∃ S S2,Path initS (nPs rs) S ∧ stepM (runT ftb) 21 [.a tkA0] S = some S2 ∧ madeOk S2 = true ∧ finT S2 = some (pageT [] [nTg rs.length 0,txT [121]])) := by
 letI := txN rs
 obtain ⟨c1,c2,_,c4,m0,e0⟩ := t_cnt
 obtain ⟨x1,x2,x3,x4,x5,x6,x7⟩ := nYs.mem rs.length (k21 h0 hl)
 have hb : PStep initS (.s bdS) (nA 0 []) := ⟨m0,c4,by rw [← e0]; exact body_step⟩
 have hx : PStep (nA rs.length (vN rs.length)) (.t [120]) (nX rs.length rs.length (vN rs.length)) := ⟨x2,c1,x1⟩
 have hy : PStep (nX rs.length 0 []) (.t [121]) (nY rs.length) := ⟨x4,c2,x3⟩
 have h1 := pathA rs h8 hl rs.length (Nat.le_refl _)
 rw [List.take_length] at h1
 have h2 := pathE rs h8 hl rs.length (Nat.le_refl _)
 rw [Nat.sub_self,List.drop_zero] at h2
 exact ⟨_,_,.cons hb (h1.app (.cons hx (h2.app (.cons hy (.nil _))))),x5,x6,x7⟩
theorem n0 : xTok (.s [120,121]) (nA 0 []) = some (mkH (baseN 5 (ksN 9 2) 10 ++ [ndE 4 [98,111,100,121] (ptN 3) (ksN 7 1),rowN [ptN 8],ndX 5 [120,121] (ptN 6),opR 0,.lst []])) ∧ madeOk (nA 0 []) = true := ⟨by kernel_rfl,by kernel_rfl⟩
theorem n0f [Tx] : stepM (runT ftb) 21 [.a tkA0] (mkH (baseN 5 (ksN 9 2) 10 ++ [ndE 4 [98,111,100,121] (ptN 3) (ksN 7 1),rowN [ptN 8],ndX 5 [120,121] (ptN 6),opR 0,.lst []])) = some (mkH (baseN 5 (ksN 9 2) 10 ++ [ndE 4 [98,111,100,121] (ptN 3) (ksN 7 1),rowN [ptN 8],ndX 5 [120,121] (ptN 6),opR 0,.lst []])) ∧ madeOk (mkH (baseN 5 (ksN 9 2) 10 ++ [ndE 4 [98,111,100,121] (ptN 3) (ksN 7 1),rowN [ptN 8],ndX 5 [120,121] (ptN 6),opR 0,.lst []])) = true ∧
 finT (mkH (baseN 5 (ksN 9 2) 10 ++ [ndE 4 [98,111,100,121] (ptN 3) (ksN 7 1),rowN [ptN 8],ndX 5 [120,121] (ptN 6),opR 0,.lst []])) = some (pageT [] [txT [120,121]]) := ⟨by kernel_rfl,by kernel_rfl,by kernel_rfl⟩
theorem nm_closed : AllL (fun x : Str => retV (runT ftb 83 [.c (.s (ns x))] H00) = some (.c (.s (ns x))) ∧ retV (runT ftb 30 [.c (.s (ns x))] H00) = some (.c (.i .i64 0))) (bdS :: nmS) :=
 ⟨⟨by kernel_rfl,by kernel_rfl⟩,⟨by kernel_rfl,by kernel_rfl⟩,⟨by kernel_rfl,by kernel_rfl⟩,⟨by kernel_rfl,by kernel_rfl⟩,⟨by kernel_rfl,by kernel_rfl⟩,⟨by kernel_rfl,by kernel_rfl⟩,⟨by kernel_rfl,by kernel_rfl⟩,⟨by kernel_rfl,by kernel_rfl⟩,⟨by kernel_rfl,by kernel_rfl⟩,trivial⟩
theorem nm_good : ∀ x ∈ bdS :: nmS,x.all goodB = true ∧ nameOk x = true ∧ x.length ≤ 7 ∧ (match x with | c :: _ => letterB c | [] => false) = true := by decide
theorem pc_nm {x : Str} (hx : x ∈ bdS :: nmS) : PcG (.s x) ∧ PcG (.e x) := by
 obtain ⟨h1,_,_,h2⟩ := nm_good x hx
 obtain ⟨g1,g2⟩ := nm_closed.mem x hx
 have hg : ∀ c ∈ x,goodB c = true := fun c hc => List.all_eq_true.1 h1 c hc
 cases x with
 |nil => cases h2
 |cons a r =>
  exact ⟨⟨⟨fun c hc => hg c (by simpa [Pc.name,Pc.text] using hc),fun nm h => (by rcases h with h | h <;> cases h; exact ⟨a,_,rfl,h2⟩),fun y h => (by cases h)⟩,fun _ => g1,fun _ => g2⟩,
   ⟨⟨fun c hc => hg c (by simpa [Pc.name,Pc.text] using hc),fun nm h => (by rcases h with h | h <;> cases h; exact ⟨a,_,rfl,h2⟩),fun y h => (by cases h)⟩,fun _ => g1,fun h => absurd h (by show ¬ (2 : Int) = 1; decide)⟩⟩
theorem pc_t {x : Str} (h0 : x ≠ []) (hg : ∀ c ∈ x,goodB c = true) : PcG (.t x) :=
 ⟨⟨fun c hc => hg c (by simpa [Pc.name,Pc.text] using hc),fun nm h => (by rcases h with h | h <;> cases h),fun y h => (by injection h with h; subst h; exact h0)⟩,fun h => absurd rfl (h _),fun h => absurd h (by show ¬ (3 : Int) = 1; decide)⟩
theorem nmR_mem {r : Nat} (h : r < 8) : nmR r ∈ bdS :: nmS := by
 refine List.mem_cons_of_mem _ ?_
 unfold nmR
 rw [List.getD_eq_getElem?_getD,List.getElem?_eq_getElem (show r < nmS.length from h)]; exact List.getElem_mem _
theorem srcs_le {f : Nat → Pc} (hf : ∀ r,r < 8 → (f r).src.length ≤ 10) : ∀ {rs : List Nat},(∀ r ∈ rs,r < 8) → (srcs (rs.map f)).length ≤ 10 * rs.length
 |[],_ => by simp [srcs]
 |r :: rs,h => by
  have h1 := hf r (h r (by simp))
  have h2 := srcs_le hf (rs := rs) fun q hq => h q (by simp [hq])
  rw [List.map_cons,srcs_cons,List.length_append,List.length_cons]; omega
theorem src_st {r : Nat} (h : r < 8) : (pSt r).src.length ≤ 10 ∧ (pEn r).src.length ≤ 10 := by
 have := (nm_good _ (nmR_mem h)).2.2.1
 simp only [pSt,pEn,Pc.src,List.length_cons,List.length_append,List.length_nil]; omega
theorem nSep : ∀ (l : List Nat) (t : List Pc),Sep t → Sep (l.map pSt ++ t)
 |[],_,h => h
 |_ :: l,t,h => ⟨fun x h => (by cases h),nSep l t h⟩
theorem nSepE : ∀ (l : List Nat) (t : List Pc),Sep t → Sep (l.map pEn ++ t)
 |[],_,h => h
 |_ :: l,t,h => ⟨fun x h => (by cases h),nSepE l t h⟩
theorem nSrcs (rs : List Nat) (h8 : ∀ r ∈ rs,r < 8) (h0 : 0 < rs.length) (hl : rs.length ≤ 20) : Srcs (nPs rs) := by
 have hr8 : ∀ r ∈ rs.reverse,r < 8 := fun r hr => h8 r (List.mem_reverse.1 hr)
 refine ⟨fun p hp => ?_,⟨fun x h => (by cases h),nSep _ _ ⟨fun x hx => ?_,nSepE _ _ ⟨fun x _ => .inl rfl,trivial⟩⟩⟩,?_⟩
 ·unfold nPs at hp
  rcases List.mem_cons.1 hp with rfl | hp
  ·exact (pc_nm (by simp)).1
  rcases List.mem_append.1 hp with hp | hp
  ·obtain ⟨r,hr,rfl⟩ := List.mem_map.1 hp
   exact (pc_nm (nmR_mem (h8 r hr))).1
  rcases List.mem_cons.1 hp with rfl | hp
  ·exact pc_t (by simp) (by decide)
  rcases List.mem_append.1 hp with hp | hp
  ·obtain ⟨r,hr,rfl⟩ := List.mem_map.1 hp
   exact (pc_nm (nmR_mem (hr8 r hr))).2
  ·rw [List.mem_singleton.1 hp]
   exact pc_t (by simp) (by decide)
 ·right
  cases hr : rs.reverse with
  |nil => rw [List.reverse_eq_nil_iff] at hr; rw [hr] at h0; cases h0
  |cons r q => exact ⟨pEn r,_,rfl,fun y h => by cases h⟩
 ·have h1 := srcs_le (f := pSt) (fun r h => (src_st h).1) h8
  have h2 := srcs_le (f := pEn) (fun r h => (src_st h).2) hr8
  rw [List.length_reverse] at h2
  unfold nPs
  rw [srcs_cons,srcs_app,srcs_cons,srcs_app,srcs_one]
  simp only [List.length_append,Pc.src,bdS,List.length_cons,List.length_nil]; omega
end
section
variable [Tx]
theorem nT_eq (n i : Nat) : nTg (n + 1) i = elT (Tx.t (nN i 3)) [nTg n (i + 1)] := rfl
theorem nT_ok (hn : ∀ i,nameOk (Tx.t (nN i 3)) = true ∧ (Tx.t (nN i 3)).length ≤ 7) : ∀ n i,(nodeOk (nTg n i) = true ∧ (nTg n i).kind ≠ 5) ∧ (nTg n i).size = n + 1 ∧ (nTg n i).depth ≤ n + 1 ∧ (nTg n i).bulk ≤ 10 * n + 10
 |0,i => ⟨⟨txT_ok (x := [120]) (by simp) (by simp),by show (3 : Int) ≠ 5; decide⟩,by show (txT [120]).size = _; rw [txT_size],by show (txT [120]).depth ≤ _; rw [txT_depth]; omega,by show (txT [120]).bulk ≤ _; rw [txT_bulk]; simp⟩
 |n + 1,i => by
  obtain ⟨h1,h2,h3,h4⟩ := nT_ok hn n (i + 1)
  obtain ⟨g1,g2⟩ := hn i
  rw [nT_eq]
  refine ⟨⟨elT_ok g1 fun u hu => by rw [List.mem_singleton.1 hu]; exact h1,by show (2 : Int) ≠ 5; decide⟩,?_,?_,?_⟩
  ·rw [elT_size]; simp [h2]; omega
  ·rw [elT_depth]; simp only [List.map_cons,List.map_nil,List.foldr_cons,List.foldr_nil]; omega
  ·rw [elT_bulk]; simp only [List.map_cons,List.map_nil,List.sum_cons,List.sum_nil]; omega
end
theorem nmR_good (r : Nat) : nameOk (nmR r) = true ∧ (nmR r).length ≤ 7 := by
 by_cases h : r < 8
 ·have := nm_good _ (nmR_mem h); exact ⟨this.2.1,this.2.2.1⟩
 ·have : nmR r = [98] := by
   unfold nmR
   rw [List.getD_eq_getElem?_getD,List.getElem?_eq_none (by show 8 ≤ r; omega)]; rfl
  rw [this]; decide
theorem nRuns (rs : List Nat) (h8 : ∀ r ∈ rs,r < 8) (h0 : 0 < rs.length) (hl : rs.length ≤ 20) : (letI := txN rs; Runs (nPs rs) (pageT [] [nTg rs.length 0,txT [121]])) := by
 letI := txN rs
 obtain ⟨h1,h2,h3,h4⟩ := nT_ok (fun i => by
  show nameOk ((txN rs).t (nN i 3)) = true ∧ ((txN rs).t (nN i 3)).length ≤ 7
  rw [nN_t rs (by omega)]; exact nmR_good _) rs.length 0
 have hy : nodeOk (txT [121]) = true ∧ (txT [121]).kind ≠ 5 := ⟨txT_ok (by simp) (by simp),by show (3 : Int) ≠ 5; decide⟩
 refine ⟨nSrcs rs h8 h0 hl,nPath rs h8 h0 hl,page_check (fun u hu => ?_) ?_ ?_,page_bulk ?_⟩
 ·simp only [List.mem_cons,List.not_mem_nil,or_false] at hu
  rcases hu with rfl | rfl
  ·exact h1
  ·exact hy
 ·simp only [List.map_cons,List.map_nil,List.sum_cons,List.sum_nil,h2,txT_size]; omega
 ·simp only [List.map_cons,List.map_nil,List.foldr_cons,List.foldr_nil,txT_depth]; omega
 ·simp only [List.map_cons,List.map_nil,List.sum_cons,List.sum_nil,txT_bulk,List.length_cons,List.length_nil]; omega
theorem nRuns0 [Tx] : Runs [.s bdS,.t [120,121]] (pageT [] [txT [120,121]]) := by
 obtain ⟨_,_,c3,c4,m0,e0⟩ := t_cnt
 obtain ⟨x1,x2⟩ := n0
 obtain ⟨y1,y2,y3⟩ := n0f
 have hb : PStep initS (.s bdS) (nA 0 []) := ⟨m0,c4,by rw [← e0]; exact body_step⟩
 refine ⟨⟨fun p hp => ?_,⟨fun x h => (by cases h),fun x _ => .inl rfl,trivial⟩,by decide⟩,⟨_,_,.cons hb (.cons (S' := mkH (baseN 5 (ksN 9 2) 10 ++ [ndE 4 [98,111,100,121] (ptN 3) (ksN 7 1),rowN [ptN 8],ndX 5 [120,121] (ptN 6),opR 0,.lst []])) ⟨x2,c3,x1⟩ (.nil _)),y1,y2,y3⟩,page_check (fun u hu => ?_) (by simp [txT_size]) (by simp [txT_depth]),page_bulk (by simp [txT_bulk])⟩
 ·simp only [List.mem_cons,List.not_mem_nil,or_false] at hp
  rcases hp with rfl | rfl
  ·exact (pc_nm (by simp)).1
  ·exact pc_t (by simp) (by decide)
 ·rw [List.mem_singleton.1 hu]
  exact ⟨txT_ok (by simp) (by simp),by show (3 : Int) ≠ 5; decide⟩
end Ev
end
section
namespace Ev
set_option autoImplicit false
open Go.RowKit
noncomputable section
theorem awake_run : good (runT ftb 10 [] H00) = true := by kernel_rfl
section
variable [Tx]
theorem awakeLaw {w : World} (hw : WP w) : Calls Tryz.prog 10 #[] w (Ret fun v w' => Ext w w' ∧ v = .bool true) := closed_true ftb_ok hw .nil awake_run
end
end
end Ev
end
section
namespace Ev
set_option autoImplicit false
set_option maxRecDepth 100000
open Go.RowKit
noncomputable section
def nR (l : List Int) (k : Nat) : List Nat := (l.take k).map fun z => (z.emod 8).toNat
theorem nR_lt (l : List Int) (k : Nat) : ∀ r ∈ nR l k,r < 8 := fun r hr => by
 obtain ⟨z,_,rfl⟩ := List.mem_map.1 hr
 have h1 := Int.emod_nonneg z (show (8 : Int) ≠ 0 by decide)
 have h2 := Int.emod_lt_of_pos z (show (0 : Int) < 8 by decide)
 show (z.emod 8).toNat < 8
 have e : z.emod 8 = z % 8 := rfl
 omega
theorem nR_len {l : List Int} {k : Nat} (h : k ≤ l.length) : (nR l k).length = k := by simp [nR,h]
theorem nR_succ {l : List Int} {k : Nat} (h : k < l.length) : nR l (k + 1) = nR l k ++ [((l.getD k 0).emod 8).toNat] := by
 unfold nR
 rw [List.take_succ_eq_append_getElem h,List.map_append,List.getD_eq_getElem?_getD,List.getElem?_eq_getElem h]; rfl
abbrev tx0 : Tx := txN []
theorem getS {r : Nat} (h : r < 8) : nmEight.getD r [] = nmR r := by
 have : ∀ r < 8,nmEight.getD r [] = nmR r := by decide
 exact this r h
theorem buildNestsLaw {w : World} (hw : WP w) {s : Sl} {l : List Int} (h : Row [] w s 1 (l.map ic)) : Calls Tryz.prog 6 #[s.v] w (Ret fun v w' => Ext w w' ∧ v = .bool true) := by
 refine law14_BuildNests.ok _ ?_
 unfold law14_BuildNests.vc
 have hn : s.n = l.length := by simpa using h.len
 intro w1 B5 hN5 hE1
 have hB5 := hN5.lt
 refine ⟨fun st e want i w2 => ∃ k : Nat,i = (k : Int) ∧ k ≤ 20 ∧ k ≤ l.length ∧ st = srcs ((nR l k).map pSt) ∧ e = srcs ((nR l k).reverse.map pEn) ∧ Own (List.range w1.heap.size) w2 want 1 9 (((nR l k).map nmR).map sc) ∧ Ext w1 w2,fun _ _ _ i _ => 20 - i.toNat,⟨0,rfl,by omega,by omega,rfl,rfl,Own.nil _ _ _ _,Chg.refl _ _⟩,?_⟩
 rintro _ _ want _ w2 ⟨k,rfl,hk20,hkl,rfl,rfl,hO,hE2⟩
 have h8 := nR_lt l k
 have h8r : ∀ r ∈ (nR l k).reverse,r < 8 := fun r hr => h8 r (List.mem_reverse.1 hr)
 have hlen := nR_len hkl
 have ls := srcs_le (f := pSt) (fun r h => (src_st h).1) h8
 have le := srcs_le (f := pEn) (fun r h => (src_st h).2) h8r
 rw [List.length_reverse] at le
 rw [hlen] at ls le
 refine ⟨fun hlt => ?_,fun hge => ?_⟩
 ·have hk' : k < l.length := by omega
  obtain ⟨_,p,hp,hc⟩ := rowI (h.ext (hE1.trans hE2)) hk'
  have h1 := Int.emod_nonneg (l.getD k 0) (show (8 : Int) ≠ 0 by decide)
  have h2 := Int.emod_lt_of_pos (l.getD k 0) (show (0 : Int) < 8 by decide)
  have e8 : (l.getD k 0).emod 8 = (l.getD k 0) % 8 := rfl
  obtain ⟨r,hr⟩ : ∃ r : Nat,(l.getD k 0).emod 8 = (r : Int) := ⟨((l.getD k 0).emod 8).toNat,by omega⟩
  have hr8 : r < 8 := by omega
  have hnm := (nmR_good r).2
  have hrr : nR l (k + 1) = nR l k ++ [r] := by rw [nR_succ hk',hr,Int.toNat_natCast]
  rw [Int.toNat_natCast]
  have es : ((srcs ((nR l k).map pSt) ++ ([60] : Str)) ++ nmR r) ++ ([62] : Str) = srcs ((nR l (k + 1)).map pSt) := by
   rw [hrr,List.map_append,srcs_app,List.map_cons,List.map_nil,srcs_one]; simp [pSt,Pc.src]
  have ee : ((([60,47] : Str) ++ nmR r) ++ ([62] : Str)) ++ srcs ((nR l k).reverse.map pEn) = srcs ((nR l (k + 1)).reverse.map pEn) := by
   rw [hrr,List.reverse_append,List.reverse_singleton,List.singleton_append,List.map_cons,srcs_cons]; simp [pEn,Pc.src]
  refine ⟨⟨by omega,by omega⟩,p,hp,_,hc,CallK.exact (place _ 8 (by decide) (by decide)) fun w3 hE3 => ⟨_,rfl,⟨h1,h2⟩,?_⟩⟩
  rw [hr,Int.toNat_natCast,getS hr8,es,ee]
  refine ⟨?_,?_,?_,?_,?_,?_,?_⟩
  ·simp only [List.length_cons,List.length_nil]; omega
  ·simp only [List.length_append,List.length_cons,List.length_nil]; omega
  ·simp only [List.length_append,List.length_cons,List.length_nil]; omega
  ·simp only [List.length_cons,List.length_nil]; omega
  ·simp only [List.length_append,List.length_cons,List.length_nil]; omega
  ·simp only [List.length_append,List.length_cons,List.length_nil]; omega
  intro w4 B4 hN4 hE4 hB4
  have hE24 := hE3.trans hE4
  have hx : Row [] w4 (Sl.mk (some ⟨B4,0,none⟩) 1 1) 1 (([nmR r] : List Str).map sc) := Box.rowStr (l := [nmR r]) hB4 (by simp) (by simp)
  have hz := (hE2.trans hE24).size
  refine pushStr (hO.ext hE24) (fun b hb => by have := List.mem_range.1 hb; omega) hx (by simp [hlen]; omega) (by simpa using hB5) fun q w5 hO5 hC => ⟨q,rfl,⟨by omega,by omega⟩,⟨k + 1,by omega,by omega,by omega,rfl,rfl,?_,?_⟩,by dsimp only; omega⟩
  ·rw [hrr,List.map_append]; exact hO5
  ·exact Chg.fresh (hE2.trans hE24) hC fun b hb => by
    have := hO.tail b (by simpa using hb)
    simp at this; omega
 ·have hE := hE1.trans hE2
  have hwn : want.n = k := by have := hO.len; simpa [hlen] using this
  refine ⟨?_,?_,?_,?_,?_⟩
  ·simp only [List.length_cons,List.length_nil]; omega
  ·simp only [List.length_append,List.length_cons,List.length_nil]; omega
  ·simp only [List.length_append,List.length_cons,List.length_nil]; omega
  ·simp only [List.length_append,List.length_cons,List.length_nil]; omega
  have awk : ∀ {w' : World},Ext w w' → Calls Tryz.prog 10 #[] w' (Ret fun v w'' => Ext w' w'' ∧ v = .bool true) := fun hE => by
   letI := tx0
   exact awakeLaw (WP.ext hw hE)
  by_cases h0 : k = 0
  ·subst h0
   letI := tx0
   have e0 : (((([60,98,111,100,121,62] : Str) ++ srcs ((nR l 0).map pSt)) ++ ([120] : Str)) ++ srcs ((nR l 0).reverse.map pEn)) ++ ([121] : Str) = srcs [.s bdS,.t [120,121]] := rfl
   rw [e0]
   refine CallK.ext (bodyC (WP.ext hw hE) nRuns0) ?_
   rintro _ w3 hE3 ⟨q,rfl,hq⟩
   have hE03 := hE.trans hE3
   refine ⟨_,_,rfl,⟨0,0,none⟩,fun hx => absurd hx.2.1 (by omega),[],fun hx => absurd hx.2.1 (by omega),fun hx => ?_,fun _ => ?_⟩
   ·rcases hx with hx | hx
    ·cases hx
    ·exact absurd hx.1 (by omega)
   refine ⟨fun ks i w4 => i = 0 ∧ ks = q ∧ Ext w3 w4,fun _ _ _ => 0,⟨rfl,rfl,Chg.refl _ _⟩,?_⟩
   rintro ks _ w4 ⟨rfl,hks,hE4⟩
   subst hks
   refine ⟨fun hlt => absurd hlt (by omega),fun _ => ⟨fun _ => ?_,fun hx => absurd (by omega) hx⟩⟩
   obtain ⟨p,sa,sk,hp,hc,_⟩ := (hq.ext hE4).2 0 (by decide)
   have hn1 : ks.n = 1 := hq.1
   refine ⟨p,fun _ => ⟨⟨by omega,by omega⟩,hp⟩,[120,121],fun _ => hc 2 _ rfl,true,fun _ => awk (hE03.trans hE4),fun w5 hE5 => ⟨(hE03.trans hE4).trans hE5,?_⟩⟩
   simp [hn1]
  ·have hrl : 0 < (nR l k).length := by omega
   generalize hrs : nR l k = rs at h8 h8r hlen hO hrl
   letI := txN rs
   have e0 : (((([60,98,111,100,121,62] : Str) ++ srcs (rs.map pSt)) ++ ([120] : Str)) ++ srcs (rs.reverse.map pEn)) ++ ([121] : Str) = srcs (nPs rs) := by
    unfold nPs
    rw [srcs_cons,srcs_app,srcs_cons,srcs_app,srcs_one]
    simp [Pc.src,bdS]
   rw [e0]
   refine CallK.ext (bodyC (WP.ext hw hE) (nRuns rs h8 hrl (by omega))) ?_
   rintro _ w3 hE3 ⟨q,rfl,hq⟩
   have hE03 := hE.trans hE3
   have hq2 : q.n = 2 := hq.1
   obtain ⟨p1,sa1,sk1,hp1,hc1,_⟩ := hq.2 1 (by simp)
   refine ⟨_,_,rfl,p1,fun _ => ⟨⟨by omega,by omega⟩,hp1⟩,[121],fun _ => hc1 2 _ rfl,fun hx => ?_,fun _ => ?_⟩
   ·rcases hx with hx | hx
    ·cases hx
    ·rcases hx.2 with hx | hx
     ·exact absurd (by omega) hx
     ·exact absurd rfl hx
   refine ⟨fun ks i w4 => ∃ j : Nat,i = (j : Int) ∧ j ≤ k ∧ Ext w3 w4 ∧ ∃ tl : List T,KQ w4 (nTg (k - j) j :: tl) ks ∧ (0 < j → tl = []),fun _ i _ => k - i.toNat,⟨0,rfl,by omega,Chg.refl _ _,[txT [121]],by rw [Nat.sub_zero,← hlen]; exact hq,fun h => absurd h (by omega)⟩,?_⟩
   rintro ks _ w4 ⟨j,rfl,hj,hE4,tl,hks,htl⟩
   rw [Int.toNat_natCast]
   have hkn : 1 ≤ ks.n := by rw [hks.1]; simp
   refine ⟨fun hlt w5 hE5 => ?_,fun hge => ⟨fun hx => absurd hx (by omega),fun _ => ?_⟩⟩
   ·have hjk : j < k := by omega
    obtain ⟨p,sa,sk,hp,hc,hr⟩ := (hks.ext hE5).2 0 (by simp)
    have e1 : k - j = (k - (j + 1)) + 1 := by omega
    have e2 : ((nTg (k - j) j :: tl).getD 0 T.nul) = elT (Tx.t (nN j 3)) [nTg (k - (j + 1)) (j + 1)] := by rw [e1]; rfl
    rw [e2] at hc hr
    have hnm : Tx.t (nN j 3) = nmR (rs.getD j 1) := nN_t rs (by omega)
    obtain ⟨p2,hp2,hc2⟩ := ((hO.ext (hE3.trans (hE4.trans hE5))).row).str (i := j) (by simp [hlen]; exact hjk)
    have e3 : (rs.map nmR).getD j [] = nmR (rs.getD j 1) := by
     rw [List.getD_eq_getElem?_getD,List.getElem?_map,List.getElem?_eq_getElem (by omega),List.getD_eq_getElem?_getD,List.getElem?_eq_getElem (by omega)]; rfl
    rw [e3] at hc2
    refine ⟨p,fun _ => ⟨⟨by omega,by omega⟩,hp⟩,_,fun _ => hc 1 _ rfl,p2,fun _ => ⟨⟨by omega,by omega⟩,hp2⟩,_,fun _ => hc2,fun hx => ?_,fun _ => ⟨⟨by omega,by omega⟩,p,hp,fun w6 hE6 => ⟨sk,Ext.cell hE6 (hc 4 _ rfl),⟨by omega,by omega⟩,⟨j + 1,by omega,by omega,(hE4.trans hE5).trans hE6,[],(hr.kq).ext hE6,fun _ => rfl⟩,by dsimp only; omega⟩⟩⟩
    rcases hx with hx | hx
    ·omega
    ·exact absurd hnm hx
   ·have hjk : j = k := by omega
    subst hjk
    obtain rfl := htl (by omega)
    obtain ⟨p,sa,sk,hp,hc,_⟩ := hks.2 0 (by simp)
    rw [Nat.sub_self] at hc
    have hn1 : ks.n = 1 := hks.1
    refine ⟨p,fun _ => ⟨⟨by omega,by omega⟩,hp⟩,[120],fun _ => hc 2 _ rfl,true,fun _ => awk (hE03.trans hE4),fun w5 hE5 => ⟨(hE03.trans hE4).trans hE5,?_⟩⟩
    simp [hn1]
end
end Ev
end
section
open Go.RowKit
theorem wp_of_laid {W : World} (h : laidMetH Tryz.prog Rows.buildVoidsRow.laid W) : Ev.WP W := by
 rw [MakeChecks.laidMetH_plain _ _ _ (by kernel_rfl)] at h
 have e : (Rows.laid_strings_asciiSpace : DataW Unit) = Lib.tabData .u8 Lib.asciiSpaceTab := by kernel_rfl
 have h2 := h.filter fun x => x.1 == "strings.asciiSpace"
 have h3 : laidMet Tryz.prog [("strings.asciiSpace",Rows.laid_strings_asciiSpace)] W := h2
 rw [e] at h3
 exact Lib.tabIs_of_head (rest := []) (g := 0) (t := 160) (e := 5) (n := 256) (by kernel_rfl) (by kernel_rfl) Tryz.underlying160 Tryz.underlying5 (by kernel_rfl) (by kernel_rfl) h3
end
end Go.Proofs.YtenokfdkckhhiaaGreatDoor
