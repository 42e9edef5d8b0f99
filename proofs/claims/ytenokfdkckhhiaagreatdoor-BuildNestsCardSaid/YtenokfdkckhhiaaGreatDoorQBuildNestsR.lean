/-
  The row of BuildNests: the law, as the statement has it.
-/
import Derived.Test.YtenokfdkckhhiaaGreatDoorQBuildNests6
import Derived.Test.YtenokfdkckhhiaaGreatDoorQBuildNests0
import Derived.Test.YtenokfdkckhhiaaGreatDoorCards
import Derived.Test.YtenokfdkckhhiaaGreatDoorTie
import Derived.SevenTiedAt
import Derived.MakeChecks
import Derived.Lay
import Derived.Handed
import Derived.LaidLaws
namespace Go.Proofs.YtenokfdkckhhiaaGreatDoor.rBuildNests
open Go.RowKit Go.ChangeShapes Go.WideShapes Go.ChangeAt
set_option linter.unusedVariables false
set_option maxRecDepth 20000 in
theorem contract (H : Type) (enc : TypeId × Value → H) (W : World) (base : Nat) (args : Array Value) (ds gs : List (DataW H)) (before : List MemPlace)
  (hval : ∀ (j : Nat) t v,Tryz.f6.params[j]? = some t → args[j]? = some v → Value.okWide Tryz.prog W .any base t v)
  (hW : DataW.Whole enc Tryz.prog Tryz.f6.params.toList Rows.buildNestsSpec.vars false W args.toList ds gs before) (hL : laidMetH Tryz.prog Rows.buildNestsRow.laid W) :
  Calls Tryz.prog 6 args W fun e W' => ∃ v,e = .returned v ∧ Rows.buildNestsSpec.post enc Tryz.prog Tryz.f6 false true false false W args v W' := by
 have hW' := hW
 obtain ⟨p,q,hA,hV,rfl,hfz,hnd⟩ := hW
 rw [Tryz.params6] at hA hval
 obtain ⟨v0,vs0,d0,ds0,p0,q0,hargs,rfl,rfl,h0,r0⟩ := trodAll_cons hA
 obtain ⟨rfl,rfl,rfl⟩ := trodAll_nil r0
 obtain rfl : args = #[v0] := by cases args; simp_all
 obtain ⟨rfl,rfl⟩ := trodVars_none hV
 obtain ⟨a0,z0,rfl,w0,f0,n0,m0⟩ := open_nums Tryz.underlying42 Tryz.underlying3 (by kernel_rfl) (hval 0 42 v0 rfl rfl) h0
 have key := Ev.buildNestsLaw (wp_of_laid hL) w0
 refine key.mono fun e W' hr => ?_
 obtain ⟨v,he,hE,hv⟩ := Ret.out hr
 subst hv
 exact ⟨_,he,post_ext hW' rfl rfl Tryz.underlying4 rfl laidOut0 (of_decide_eq_true (by kernel_rfl)) hE⟩
set_option maxRecDepth 100000 in
theorem lifted (os : Os) (started : os.Started) (H : Type) (enc : TypeId × Value → H) :
  ReturnsInHanded {} Tryz.checked os 6 .any (fun w args => (Rows.buildNestsSpec.pre enc Tryz.prog Tryz.f6 Rows.buildNestsRow.domain false w args ∧ laidMetH Tryz.prog Rows.buildNestsRow.laid w) ∧ sizedMet enc Tryz.prog Tryz.f6 (OpenSpec.ofChange Rows.buildNestsSpec) false w args) (Rows.buildNestsSpec.post enc Tryz.prog Tryz.f6 false true false false) := by
 refine returnsInHanded_of_change_and (C := Tryz.checked) (X := fun w _ => laidMetH Tryz.prog Rows.buildNestsRow.laid w) (fun _ _ _ hh h => h.of_heap hh) ownKnob0 started (by kernel_rfl) Tryz.func6
  (ChangeSpec.witness_shaped (enc := enc) (C := Tryz.checked) (os := os) (X := fun w _ => laidMetH Tryz.prog Rows.buildNestsRow.laid w) false (World.laidAll Tryz.prog os Rows.buildNestsRow.laid) #[.slice none 0 0] 8 (World.laidAll_os _ _ _)
   (World.shaped_of_ZipB (by kernel_rfl) (by kernel_rfl)) (by kernel_rfl) (by kernel_rfl) (by kernel_rfl)
   (by rw [MakeChecks.laidMetH_plain _ _ _ (by kernel_rfl)]; exact laidMet_laidAll _ (by kernel_rfl) (by kernel_rfl))) ?_
 intro W base args ds gs before hval hW _ _ hL _
 exact contract H enc W base args ds gs before hval hW hL
theorem row : Rows.BuildNestsSaid :=
 OpenClaim.holds_of_wide 6 Tryz.f6 rfl rfl rfl rfl rfl rfl rfl ⟨rfl,rfl,rfl,rfl,rfl⟩ rfl rfl rfl rfl rfl (by kernel_rfl) Tryz.func6 (by kernel_rfl)
  (of_decide_eq_true (by kernel_rfl)) (by unfold Func.isWrapper; first | (rw [if_pos (by decide +kernel)]; kernel_rfl) | (rw [if_neg (by decide +kernel)]; exact ⟨rfl,rfl⟩))
  (fun os started H enc _ => lifted os started H enc)
set_option maxRecDepth 100000 in
theorem proved : Rows.BuildNestsCardSaid :=
 Claim7.holds_tied_plain_at .later [] [.data,.data,.data,.listed,.data] true (true, "2411076c44e4b2aaa645f52493c229e9a6fe1ee2ff34eba0902f6c6a6260b388") false
  row (fun _ h => by cases h) (by kernel_rfl) (fun _ h => by cases h) buildNests_row_tie rfl ⟨rfl,rfl⟩ (by kernel_rfl) rfl
  (fun f fn hf hfn => by
   obtain rfl : f = 6 := Option.some.inj ((show Tryz.prog.funcNamed "topiary/topiarylaw14.BuildNests" = some 6 by kernel_rfl).symm.trans hf) |>.symm
   obtain rfl : fn = Tryz.f6 := (Option.some.inj (Tryz.func6.symm.trans hfn)).symm
   have hall : (Tryz.f6.params.toList.all fun t => !(Tryz.prog.wantsStandIn t)) = true := by kernel_rfl
   exact ⟨by kernel_rfl,fun j t ht => by
    have := List.all_eq_true.1 hall t (Array.mem_toList_iff.2 (Array.mem_of_getElem? ht))
    exact (show Tryz.prog.wantsStandIn t = false by simpa using this)⟩)
  (by kernel_rfl)
end Go.Proofs.YtenokfdkckhhiaaGreatDoor.rBuildNests
