/-
  What the proof of the statement leans on: texts one behind the other.
-/
import Derived.Test.YtenokfdkckhhiaaGreatDoorQBuildFosters4
import Derived.Test.YtenokfdkckhhiaaGreatDoorQBuildFosters0
import Derived.Test.YtenokfdkckhhiaaGreatDoorQBuildFostersGref04
import Derived.Test.YtenokfdkckhhiaaGreatDoorQBuildFostersGref09
import Derived.Test.YtenokfdkckhhiaaGreatDoorQBuildFostersGref10P1
import Derived.Test.YtenokfdkckhhiaaGreatDoorQBuildFostersGref10P2
import Derived.Test.YtenokfdkckhhiaaGreatDoorQBuildFostersGref11
import Derived.Test.YtenokfdkckhhiaaGreatDoorQBuildFostersGbld
import Derived.Test.YtenokfdkckhhiaaGreatDoorQBuildFostersGformat
import Derived.Test.YtenokfdkckhhiaaGreatDoorQBuildFostersGT
import Derived.Test.YtenokfdkckhhiaaGreatDoorQBuildFosters3
namespace Go.Proofs.YtenokfdkckhhiaaGreatDoor
section
namespace Ev
variable [Tx]
set_option autoImplicit false
noncomputable section
def cf51 : CF := ⟨112,3,.seq (.reg [⟨some ⟨.a,.g⟩,none,.new 51 (.c (.a [.i .i64 (.ofNat 0),.s [],.s [],.sl none 0 0 0,.b false])),[]⟩,⟨some ⟨.a,.h⟩,none,.mv (.c (.c (.i .i64 (.ofNat 0)))),[]⟩,⟨some
 ⟨.a,.i⟩,none,.mv (.c (.c (.b false))),[]⟩]) (.seq (.reg [⟨some ⟨.a,.p⟩,none,.call 82 [.t ⟨.a,.a⟩,.t ⟨.a,.b⟩,.c (.c (.s [47,62]))],[]⟩,⟨some ⟨.a,.j⟩,none,.mv (.t ⟨.a,.p⟩),[]⟩])
 (.seq (.reg [⟨some ⟨.b,.e⟩,none,.sls (.t ⟨.a,.a⟩) (some (.t ⟨.a,.b⟩)) (some (.t ⟨.a,.j⟩)),[]⟩,⟨some ⟨.b,.f⟩,none,.call 83 [.t ⟨.b,.e⟩],[]⟩,⟨some ⟨.b,.g⟩,none,.bld [.i .i64 (.ofNat
 0),.s [],.s [],.sl none 0 0 0,.b false] [(0,(1,.t ⟨.a,.c⟩)),(1,(1,.t ⟨.b,.f⟩))],[]⟩,⟨some ⟨.a,.k⟩,none,.new 51 (.c (.a [.i .i64 (.ofNat 0),.s [],.s [],.sl none 0 0 0,.b false])),
 []⟩,⟨none,none,.st 5 (.t ⟨.a,.k⟩) (.t ⟨.b,.g⟩),[]⟩]) (.blk 0 (.loop (.blk 1 (.seq (.blk 2 (.loop (.seq (.seq (.reg [⟨some ⟨.b,.j⟩,none,.len false (.t ⟨.a,.a⟩),[]⟩,⟨some ⟨.b,.k⟩,none,
 .bin .lss (.t ⟨.a,.j⟩) (.t ⟨.b,.j⟩),[]⟩,⟨some ⟨.b,.l⟩,none,.mv (.t ⟨.b,.k⟩),[]⟩,⟨some ⟨.b,.m⟩,some (⟨.b,.l⟩,true),.mv (.t ⟨.a,.a⟩),[]⟩,⟨some ⟨.b,.n⟩,some (⟨.b,.l⟩,true),.mv (.t
 ⟨.a,.j⟩),[]⟩,⟨some ⟨.b,.o⟩,some (⟨.b,.l⟩,true),.sx (.t ⟨.b,.m⟩) (.t ⟨.b,.n⟩),[]⟩,⟨some ⟨.b,.p⟩,some (⟨.b,.l⟩,true),.call 79 [.t ⟨.b,.o⟩],[]⟩,⟨some ⟨.c,.a⟩,some (⟨.b,.l⟩,true),
 .mv (.t ⟨.b,.p⟩),[]⟩,⟨some ⟨.c,.b⟩,some (⟨.c,.a⟩,false),.mv (.t ⟨.a,.a⟩),[]⟩,⟨some ⟨.c,.c⟩,some (⟨.c,.a⟩,false),.mv (.t ⟨.a,.j⟩),[]⟩,⟨some ⟨.c,.d⟩,some (⟨.c,.a⟩,false),.sx (.t
 ⟨.c,.b⟩) (.t ⟨.c,.c⟩),[]⟩,⟨some ⟨.c,.e⟩,some (⟨.c,.a⟩,false),.bin .eql (.t ⟨.c,.d⟩) (.c (.c (.i .u8 (.ofNat 47)))),[]⟩,⟨some ⟨.c,.f⟩,some (⟨.b,.l⟩,true),.pk (.t ⟨.c,.a⟩) (.c (.c (.b
 true))) (.t ⟨.c,.e⟩),[]⟩,⟨some ⟨.c,.g⟩,none,.pk (.t ⟨.b,.l⟩) (.t ⟨.c,.f⟩) (.c (.c (.b false))),[]⟩]) (.cond (.t ⟨.c,.g⟩) .skip (.exit 2))) (.blk 3 (.reg [⟨some ⟨.c,.i⟩,none,.bin .add (.t
 ⟨.a,.j⟩) (.c (.c (.i .i64 (.ofNat 1)))),[]⟩,⟨some ⟨.a,.j⟩,none,.mv (.t ⟨.c,.i⟩),[]⟩]))))) (.seq (.seq (.reg [⟨some ⟨.c,.l⟩,none,.len false (.t ⟨.a,.a⟩),[]⟩,⟨some ⟨.c,.m⟩,none,.bin
 .geq (.t ⟨.a,.j⟩) (.t ⟨.c,.l⟩),[]⟩]) (.cond (.t ⟨.c,.m⟩) (.seq (.reg [⟨some ⟨.c,.n⟩,none,.bld [.i .i64 (.ofNat 0),.s [],.s [],.sl none 0 0 0,.b false] [],[]⟩,⟨some ⟨.c,.p⟩,none,.len
 false (.t ⟨.a,.a⟩),[]⟩,⟨none,none,.st 5 (.t ⟨.a,.g⟩) (.t ⟨.c,.n⟩),[]⟩,⟨some ⟨.a,.h⟩,none,.mv (.t ⟨.c,.p⟩),[]⟩,⟨some ⟨.a,.i⟩,none,.mv (.c (.c (.b false))),[]⟩]) .ret) .skip)) (.seq
 (.seq (.reg [⟨some ⟨.d,.c⟩,none,.sx (.t ⟨.a,.a⟩) (.t ⟨.a,.j⟩),[]⟩,⟨some ⟨.d,.d⟩,none,.bin .eql (.t ⟨.d,.c⟩) (.c (.c (.i .u8 (.ofNat 62)))),[]⟩]) (.cond (.t ⟨.d,.d⟩) (.seq (.seq (.reg
 [⟨some ⟨.d,.f⟩,none,.bin .eql (.t ⟨.a,.c⟩) (.c (.c (.i .i64 (.ofNat 2)))),[]⟩]) (.cond (.t ⟨.d,.f⟩) (.reg [⟨some ⟨.d,.g⟩,none,.fa 3 (.t ⟨.a,.k⟩),[]⟩,⟨none,none,.st 1 (.t ⟨.d,.g⟩) (.c
 (.c (.sl none 0 0 0))),[]⟩]) .skip)) (.seq (.reg [⟨some ⟨.d,.h⟩,none,.ld 5 true (.t ⟨.a,.k⟩),[]⟩,⟨some ⟨.d,.j⟩,none,.bin .add (.t ⟨.a,.j⟩) (.c (.c (.i .i64 (.ofNat 1)))),[]⟩,⟨none,none,
 .st 5 (.t ⟨.a,.g⟩) (.t ⟨.d,.h⟩),[]⟩,⟨some ⟨.a,.h⟩,none,.mv (.t ⟨.d,.j⟩),[]⟩,⟨some ⟨.a,.i⟩,none,.mv (.c (.c (.b true))),[]⟩]) .ret)) .skip)) (.seq (.reg [⟨some ⟨.d,.m⟩,none,.bin .add
 (.t ⟨.a,.j⟩) (.c (.c (.i .i64 (.ofNat 1)))),[]⟩,⟨some ⟨.d,.n⟩,none,.call 82 [.t ⟨.a,.a⟩,.t ⟨.d,.m⟩,.c (.c (.s [47,62,61]))],[]⟩,⟨some ⟨.a,.l⟩,none,.mv (.t ⟨.d,.n⟩),[]⟩]) (.seq
 (.reg [⟨some ⟨.e,.b⟩,none,.sls (.t ⟨.a,.a⟩) (some (.t ⟨.a,.j⟩)) (some (.t ⟨.a,.l⟩)),[]⟩,⟨some ⟨.e,.c⟩,none,.call 83 [.t ⟨.e,.b⟩],[]⟩,⟨some ⟨.e,.d⟩,none,.bld [.s [],.s []] [(0,(1,
 .t ⟨.e,.c⟩))],[]⟩,⟨some ⟨.a,.m⟩,none,.new 79 (.c (.a [.s [],.s []])),[]⟩,⟨none,none,.st 2 (.t ⟨.a,.m⟩) (.t ⟨.e,.d⟩),[]⟩]) (.seq (.reg [⟨some ⟨.e,.g⟩,none,.call 84 [.t ⟨.a,.a⟩,.t
 ⟨.a,.l⟩],[]⟩,⟨some ⟨.a,.j⟩,none,.mv (.t ⟨.e,.g⟩),[]⟩]) (.seq (.seq (.reg [⟨some ⟨.e,.j⟩,none,.len false (.t ⟨.a,.a⟩),[]⟩,⟨some ⟨.e,.k⟩,none,.bin .lss (.t ⟨.a,.j⟩) (.t ⟨.e,.j⟩),
 []⟩,⟨some ⟨.e,.l⟩,none,.mv (.t ⟨.e,.k⟩),[]⟩,⟨some ⟨.e,.m⟩,some (⟨.e,.l⟩,true),.mv (.t ⟨.a,.a⟩),[]⟩,⟨some ⟨.e,.n⟩,some (⟨.e,.l⟩,true),.mv (.t ⟨.a,.j⟩),[]⟩,⟨some ⟨.e,.o⟩,some
 (⟨.e,.l⟩,true),.sx (.t ⟨.e,.m⟩) (.t ⟨.e,.n⟩),[]⟩,⟨some ⟨.e,.p⟩,some (⟨.e,.l⟩,true),.bin .eql (.t ⟨.e,.o⟩) (.c (.c (.i .u8 (.ofNat 61)))),[]⟩,⟨some ⟨.f,.a⟩,none,.pk (.t ⟨.e,.l⟩) (.t
 ⟨.e,.p⟩) (.c (.c (.b false))),[]⟩]) (.cond (.t ⟨.f,.a⟩) (.seq (.reg [⟨some ⟨.f,.f⟩,none,.bin .add (.t ⟨.a,.j⟩) (.c (.c (.i .i64 (.ofNat 1)))),[]⟩,⟨some ⟨.f,.g⟩,none,.call 84 [.t ⟨.a,.a⟩,
 .t ⟨.f,.f⟩],[]⟩,⟨some ⟨.f,.h⟩,none,.call 85 [.t ⟨.a,.a⟩,.t ⟨.f,.g⟩],[]⟩,⟨some ⟨.f,.i⟩,none,.ext 0 (.t ⟨.f,.h⟩),[]⟩,⟨some ⟨.f,.j⟩,none,.ext 1 (.t ⟨.f,.h⟩),[]⟩,⟨some ⟨.f,.k⟩,
 none,.fa 1 (.t ⟨.a,.m⟩),[]⟩,⟨none,none,.st 1 (.t ⟨.f,.k⟩) (.t ⟨.f,.i⟩),[]⟩,⟨some ⟨.a,.j⟩,none,.mv (.t ⟨.f,.j⟩),[]⟩]) (.seq (.reg [⟨some ⟨.f,.n⟩,none,.len false (.t ⟨.a,.a⟩),[]⟩,
 ⟨some ⟨.f,.o⟩,none,.bin .gtr (.t ⟨.a,.j⟩) (.t ⟨.f,.n⟩),[]⟩]) (.cond (.t ⟨.f,.o⟩) (.seq (.reg [⟨some ⟨.f,.p⟩,none,.bld [.i .i64 (.ofNat 0),.s [],.s [],.sl none 0 0 0,.b false] [],[]⟩,
 ⟨some ⟨.g,.b⟩,none,.len false (.t ⟨.a,.a⟩),[]⟩,⟨none,none,.st 5 (.t ⟨.a,.g⟩) (.t ⟨.f,.p⟩),[]⟩,⟨some ⟨.a,.h⟩,none,.mv (.t ⟨.g,.b⟩),[]⟩,⟨some ⟨.a,.i⟩,none,.mv (.c (.c (.b false))),
 []⟩]) .ret) .skip))) .skip)) (.seq (.reg [⟨some ⟨.g,.c⟩,none,.fa 3 (.t ⟨.a,.k⟩),[]⟩,⟨some ⟨.g,.d⟩,none,.ld 1 false (.t ⟨.g,.c⟩),[]⟩,⟨some ⟨.g,.e⟩,none,.fa 0 (.t ⟨.a,.m⟩),[]⟩,⟨some
 ⟨.g,.f⟩,none,.ld 1 false (.t ⟨.g,.e⟩),[]⟩,⟨some ⟨.g,.g⟩,none,.call 86 [.t ⟨.g,.d⟩,.t ⟨.g,.f⟩],[]⟩,⟨some ⟨.g,.h⟩,none,.un .not (.t ⟨.g,.g⟩),[]⟩]) (.cond (.t ⟨.g,.h⟩) (.reg [⟨some
 ⟨.g,.i⟩,none,.fa 3 (.t ⟨.a,.k⟩),[]⟩,⟨some ⟨.g,.j⟩,none,.ld 1 false (.t ⟨.g,.i⟩),[]⟩,⟨some ⟨.g,.k⟩,none,.fa 0 (.t ⟨.a,.m⟩),[]⟩,⟨some ⟨.g,.l⟩,none,.ld 1 false (.t ⟨.g,.k⟩),[]⟩,
 ⟨some ⟨.g,.m⟩,none,.fa 1 (.t ⟨.a,.m⟩),[]⟩,⟨some ⟨.g,.n⟩,none,.ld 1 false (.t ⟨.g,.m⟩),[]⟩,⟨some ⟨.g,.o⟩,none,.call 87 [.t ⟨.g,.j⟩,.t ⟨.g,.l⟩,.t ⟨.g,.n⟩],[]⟩,⟨some ⟨.g,.p⟩,
 none,.fa 3 (.t ⟨.a,.k⟩),[]⟩,⟨none,none,.st 1 (.t ⟨.g,.p⟩) (.t ⟨.g,.o⟩),[]⟩]) .skip)))))))))))))),[(⟨.a,.g⟩,some (5,true)),(⟨.a,.h⟩,none),(⟨.a,.i⟩,none)]⟩
theorem ok51 : FnR Tryz.prog 0 51 cf51 := fnC_ok [13,14,16,17,18,19,23,24,39,41,42,46,48,49,52,56,58,59,62,63,64,68,69,71,72,81,82,83,84,91,92,96] Tryz.func51 (by kernel_rfl) (by kernel_rfl)
def cf52 : CF := ⟨30,3,.seq (.reg [⟨some ⟨.a,.g⟩,none,.mv (.c (.c (.b false))),[]⟩]) (.seq (.reg [⟨some ⟨.a,.i⟩,none,.bin .geq (.t ⟨.a,.b⟩) (.c (.c (.i .i64 (.ofNat 0)))),[]⟩,⟨some ⟨.a,.j⟩,none,.mv (.t
 ⟨.a,.i⟩),[]⟩,⟨some ⟨.a,.k⟩,some (⟨.a,.j⟩,true),.mv (.t ⟨.a,.c⟩),[]⟩,⟨some ⟨.a,.l⟩,some (⟨.a,.j⟩,true),.len false (.t ⟨.a,.k⟩),[]⟩,⟨some ⟨.a,.m⟩,some (⟨.a,.j⟩,true),.mv (.t
 ⟨.a,.a⟩),[]⟩,⟨some ⟨.a,.n⟩,some (⟨.a,.j⟩,true),.len false (.t ⟨.a,.m⟩),[]⟩,⟨some ⟨.a,.o⟩,some (⟨.a,.j⟩,true),.mv (.t ⟨.a,.b⟩),[]⟩,⟨some ⟨.a,.p⟩,some (⟨.a,.j⟩,true),.bin .sub
 (.t ⟨.a,.n⟩) (.t ⟨.a,.o⟩),[]⟩,⟨some ⟨.b,.a⟩,some (⟨.a,.j⟩,true),.bin .leq (.t ⟨.a,.l⟩) (.t ⟨.a,.p⟩),[]⟩,⟨some ⟨.b,.b⟩,none,.pk (.t ⟨.a,.j⟩) (.t ⟨.b,.a⟩) (.c (.c (.b false))),[]⟩,
 ⟨some ⟨.b,.c⟩,none,.mv (.t ⟨.b,.b⟩),[]⟩,⟨some ⟨.b,.d⟩,some (⟨.b,.c⟩,true),.mv (.t ⟨.a,.a⟩),[]⟩,⟨some ⟨.b,.e⟩,some (⟨.b,.c⟩,true),.mv (.t ⟨.a,.b⟩),[]⟩,⟨some ⟨.b,.f⟩,some (⟨.b,
 .c⟩,true),.mv (.t ⟨.a,.b⟩),[]⟩,⟨some ⟨.b,.g⟩,some (⟨.b,.c⟩,true),.mv (.t ⟨.a,.c⟩),[]⟩,⟨some ⟨.b,.h⟩,some (⟨.b,.c⟩,true),.len false (.t ⟨.b,.g⟩),[]⟩,⟨some ⟨.b,.i⟩,some (⟨.b,
 .c⟩,true),.bin .add (.t ⟨.b,.f⟩) (.t ⟨.b,.h⟩),[]⟩,⟨some ⟨.b,.j⟩,some (⟨.b,.c⟩,true),.sls (.t ⟨.b,.d⟩) (some (.t ⟨.b,.e⟩)) (some (.t ⟨.b,.i⟩)),[]⟩,⟨some ⟨.b,.k⟩,some (⟨.b,.c⟩,
 true),.call 46 [.t ⟨.b,.j⟩],[]⟩,⟨some ⟨.b,.l⟩,some (⟨.b,.c⟩,true),.mv (.t ⟨.a,.c⟩),[]⟩,⟨some ⟨.b,.m⟩,some (⟨.b,.c⟩,true),.bin .eql (.t ⟨.b,.k⟩) (.t ⟨.b,.l⟩),[]⟩,⟨some ⟨.b,.n⟩,
 none,.pk (.t ⟨.b,.c⟩) (.t ⟨.b,.m⟩) (.c (.c (.b false))),[]⟩,⟨some ⟨.a,.g⟩,none,.mv (.t ⟨.b,.n⟩),[]⟩]) .ret),[(⟨.a,.g⟩,none)]⟩
theorem ok52 : FnR Tryz.prog 0 52 cf52 := fnC_ok [7] Tryz.func52 (by kernel_rfl) (by kernel_rfl)
def cf57 : CF := ⟨19,2,.seq (.reg [⟨some ⟨.a,.e⟩,none,.mv (.c (.c (.i .i64 (.ofNat 0)))),[]⟩]) (.seq (.seq (.reg [⟨some ⟨.a,.h⟩,none,.len true (.t ⟨.a,.a⟩),[]⟩,⟨some ⟨.a,.i⟩,none,.mv (.c (.c (.i .i64
 (.ofNat 0)))),[]⟩]) (.blk 0 (.loop (.seq (.reg [⟨some ⟨.a,.j⟩,none,.bin .lss (.t ⟨.a,.i⟩) (.t ⟨.a,.h⟩),[]⟩]) (.seq (.cond (.t ⟨.a,.j⟩) .skip (.exit 0)) (.seq (.blk 1 (.seq (.reg [⟨some ⟨.a,
 .f⟩,none,.mv (.t ⟨.a,.i⟩),[]⟩]) (.seq (.reg [⟨some ⟨.a,.o⟩,none,.ia 2 (.t ⟨.a,.a⟩) (.t ⟨.a,.f⟩),[]⟩,⟨some ⟨.a,.p⟩,none,.ld 2 true (.t ⟨.a,.o⟩),[]⟩,⟨some ⟨.b,.a⟩,none,.callv (.t
 ⟨.a,.b⟩) [.t ⟨.a,.p⟩],[]⟩]) (.cond (.t ⟨.b,.a⟩) (.seq (.reg [⟨some ⟨.a,.e⟩,none,.mv (.t ⟨.a,.f⟩),[]⟩]) .ret) .skip)))) (.reg [⟨some ⟨.b,.c⟩,none,.bin .add (.t ⟨.a,.i⟩) (.c (.c (.i .i64
 (.ofNat 1)))),[]⟩,⟨some ⟨.a,.i⟩,none,.mv (.t ⟨.b,.c⟩),[]⟩]))))))) (.seq (.reg [⟨some ⟨.a,.e⟩,none,.mv (.c (.c (.i .i64 (.negSucc 0)))),[]⟩]) .ret)),[(⟨.a,.e⟩,none)]⟩
theorem ok57 : FnR Tryz.prog 0 57 cf57 := fnC_ok [6,10,11,12,13,17] Tryz.func57 (by kernel_rfl) (by kernel_rfl)
def cf58 : CF := ⟨25,1,.seq (.reg [⟨some ⟨.a,.c⟩,none,.mv (.c (.c (.p none))),[]⟩]) (.seq (.seq (.reg [⟨some ⟨.a,.e⟩,none,.nc (.t ⟨.a,.a⟩),[]⟩,⟨some ⟨.a,.f⟩,none,.fa 3 (.t ⟨.a,.e⟩),[]⟩,⟨some ⟨.a,
 .g⟩,none,.ld 1 false (.t ⟨.a,.f⟩),[]⟩,⟨some ⟨.a,.h⟩,none,.len true (.t ⟨.a,.g⟩),[]⟩,⟨some ⟨.a,.i⟩,none,.bin .eql (.t ⟨.a,.h⟩) (.c (.c (.i .i64 (.ofNat 0)))),[]⟩]) (.cond (.t ⟨.a,.i⟩)
 (.seq (.reg [⟨some ⟨.a,.k⟩,none,.nc (.t ⟨.a,.a⟩),[]⟩,⟨some ⟨.a,.l⟩,none,.fa 0 (.t ⟨.a,.k⟩),[]⟩,⟨some ⟨.a,.m⟩,none,.ld 1 false (.t ⟨.a,.l⟩),[]⟩,⟨some ⟨.a,.c⟩,none,.mv (.t ⟨.a,
 .m⟩),[]⟩]) .ret) .skip)) (.seq (.dreg [⟨some ⟨.a,.n⟩,none,.mv (.t ⟨.a,.a⟩),[]⟩,⟨some ⟨.a,.o⟩,none,.nc (.t ⟨.a,.n⟩),[]⟩,⟨some ⟨.a,.p⟩,none,.fa 3 (.t ⟨.a,.o⟩),[]⟩,⟨some ⟨.b,.a⟩,
 none,.ld 1 false (.t ⟨.a,.p⟩),[]⟩,⟨some ⟨.b,.b⟩,none,.mv (.t ⟨.a,.a⟩),[]⟩,⟨some ⟨.b,.c⟩,none,.nc (.t ⟨.b,.b⟩),[]⟩,⟨some ⟨.b,.d⟩,none,.fa 3 (.t ⟨.b,.c⟩),[]⟩,⟨some ⟨.b,.e⟩,none,
 .ld 1 false (.t ⟨.b,.d⟩),[]⟩,⟨some ⟨.b,.f⟩,none,.len true (.t ⟨.b,.e⟩),[]⟩,⟨some ⟨.b,.g⟩,none,.bin .sub (.t ⟨.b,.f⟩) (.c (.c (.i .i64 (.ofNat 1)))),[]⟩,⟨some ⟨.b,.h⟩,none,.ia 1 (.t
 ⟨.b,.a⟩) (.t ⟨.b,.g⟩),[]⟩,⟨some ⟨.b,.i⟩,none,.ld 1 false (.t ⟨.b,.h⟩),[]⟩,⟨some ⟨.a,.c⟩,none,.mv (.t ⟨.b,.i⟩),[]⟩]) .ret)),[(⟨.a,.c⟩,none)]⟩
theorem ok58 : FnR Tryz.prog 0 58 cf58 := fnC_ok [3,9] Tryz.func58 (by kernel_rfl) (by kernel_rfl)
def cf59 : CF := ⟨13,1,.seq (.reg [⟨some ⟨.a,.c⟩,none,.mv (.c (.c (.b false))),[]⟩]) (.seq (.seq (.reg [⟨some ⟨.a,.d⟩,none,.mv (.t ⟨.a,.a⟩),[]⟩]) (.blk 0 (.seq (.seq (.reg [⟨some ⟨.a,.f⟩,none,.bin .eql
 (.t ⟨.a,.d⟩) (.c (.c (.s [116,105,116,108,101]))),[]⟩,⟨some ⟨.a,.e⟩,none,.mv (.t ⟨.a,.f⟩),[]⟩]) (.cond (.t ⟨.a,.e⟩) .skip (.seq (.reg [⟨some ⟨.a,.g⟩,none,.bin .eql (.t ⟨.a,.d⟩) (.c
 (.c (.s [116,101,120,116,97,114,101,97]))),[]⟩,⟨some ⟨.a,.e⟩,none,.mv (.t ⟨.a,.g⟩),[]⟩]) (.cond (.t ⟨.a,.e⟩) .skip (.seq (.reg [⟨some ⟨.a,.h⟩,none,.bin .eql (.t ⟨.a,.d⟩) (.c (.c
 (.s [115,116,121,108,101]))),[]⟩,⟨some ⟨.a,.e⟩,none,.mv (.t ⟨.a,.h⟩),[]⟩]) (.cond (.t ⟨.a,.e⟩) .skip (.seq (.reg [⟨some ⟨.a,.i⟩,none,.bin .eql (.t ⟨.a,.d⟩) (.c (.c (.s [115,99,114,
 105,112,116]))),[]⟩,⟨some ⟨.a,.e⟩,none,.mv (.t ⟨.a,.i⟩),[]⟩]) (.cond (.t ⟨.a,.e⟩) .skip (.seq (.reg [⟨some ⟨.a,.j⟩,none,.bin .eql (.t ⟨.a,.d⟩) (.c (.c (.s [120,109,112]))),[]⟩,⟨some
 ⟨.a,.e⟩,none,.mv (.t ⟨.a,.j⟩),[]⟩]) (.cond (.t ⟨.a,.e⟩) .skip (.seq (.reg [⟨some ⟨.a,.k⟩,none,.bin .eql (.t ⟨.a,.d⟩) (.c (.c (.s [105,102,114,97,109,101]))),[]⟩,⟨some ⟨.a,.e⟩,none,
 .mv (.t ⟨.a,.k⟩),[]⟩]) (.cond (.t ⟨.a,.e⟩) .skip (.seq (.reg [⟨some ⟨.a,.l⟩,none,.bin .eql (.t ⟨.a,.d⟩) (.c (.c (.s [110,111,101,109,98,101,100]))),[]⟩,⟨some ⟨.a,.e⟩,none,.mv (.t
 ⟨.a,.l⟩),[]⟩]) (.cond (.t ⟨.a,.e⟩) .skip (.reg [⟨some ⟨.a,.m⟩,none,.bin .eql (.t ⟨.a,.d⟩) (.c (.c (.s [110,111,102,114,97,109,101,115]))),[]⟩,⟨some ⟨.a,.e⟩,none,.mv (.t ⟨.a,.m⟩),
 []⟩]))))))))))))))) (.cond (.t ⟨.a,.e⟩) (.seq (.reg [⟨some ⟨.a,.c⟩,none,.mv (.c (.c (.b true))),[]⟩]) .ret) .skip)))) (.seq (.reg [⟨some ⟨.a,.c⟩,none,.mv (.c (.c (.b false))),[]⟩]) .ret)),
 [(⟨.a,.c⟩,none)]⟩
theorem ok59 : FnR Tryz.prog 0 59 cf59 := fnC_ok [] Tryz.func59 (by kernel_rfl) (by kernel_rfl)
def cf60 : CF := ⟨56,2,.seq (.reg [⟨some ⟨.a,.i⟩,none,.call 90 [.t ⟨.a,.a⟩],[]⟩,⟨some ⟨.a,.j⟩,none,.ext 0 (.t ⟨.a,.i⟩),[]⟩,⟨some ⟨.a,.k⟩,none,.ext 1 (.t ⟨.a,.i⟩),[]⟩,⟨some ⟨.a,.e⟩,none,.mv (.t
 ⟨.a,.j⟩),[]⟩,⟨some ⟨.a,.f⟩,none,.mv (.t ⟨.a,.k⟩),[]⟩]) (.blk 0 (.seq (.reg [⟨some ⟨.b,.e⟩,none,.nc (.t ⟨.a,.a⟩),[]⟩,⟨some ⟨.b,.f⟩,none,.fa 0 (.t ⟨.b,.e⟩),[]⟩,⟨some ⟨.b,.g⟩,none,
 .ld 1 false (.t ⟨.b,.f⟩),[]⟩,⟨some ⟨.b,.h⟩,none,.pq false (.t ⟨.a,.e⟩) (.t ⟨.b,.g⟩),[]⟩,⟨some ⟨.b,.b⟩,none,.mv (.t ⟨.b,.h⟩),[]⟩]) (.cond (.t ⟨.b,.b⟩) .skip (.seq (.reg [⟨some ⟨.b,
 .k⟩,none,.bin .gtr (.t ⟨.a,.f⟩) (.c (.c (.i .i64 (.ofNat 0)))),[]⟩,⟨some ⟨.b,.l⟩,none,.mv (.t ⟨.b,.k⟩),[]⟩,⟨some ⟨.b,.m⟩,some (⟨.b,.l⟩,true),.mv (.t ⟨.a,.e⟩),[]⟩,⟨some ⟨.b,.n⟩,
 some (⟨.b,.l⟩,true),.nc (.t ⟨.b,.m⟩),[]⟩,⟨some ⟨.b,.o⟩,some (⟨.b,.l⟩,true),.fa 6 (.t ⟨.b,.n⟩),[]⟩,⟨some ⟨.b,.p⟩,some (⟨.b,.l⟩,true),.ld 1 false (.t ⟨.b,.o⟩),[]⟩,⟨some ⟨.c,.a⟩,
 some (⟨.b,.l⟩,true),.mv (.t ⟨.a,.f⟩),[]⟩,⟨some ⟨.c,.b⟩,some (⟨.b,.l⟩,true),.bin .sub (.t ⟨.c,.a⟩) (.c (.c (.i .i64 (.ofNat 1)))),[]⟩,⟨some ⟨.c,.c⟩,some (⟨.b,.l⟩,true),.ia 1 (.t
 ⟨.b,.p⟩) (.t ⟨.c,.b⟩),[]⟩,⟨some ⟨.c,.d⟩,some (⟨.b,.l⟩,true),.ld 1 false (.t ⟨.c,.c⟩),[]⟩,⟨some ⟨.c,.e⟩,some (⟨.b,.l⟩,true),.nc (.t ⟨.c,.d⟩),[]⟩,⟨some ⟨.c,.f⟩,some (⟨.b,.l⟩,
 true),.fa 1 (.t ⟨.c,.e⟩),[]⟩,⟨some ⟨.c,.g⟩,some (⟨.b,.l⟩,true),.ld 1 false (.t ⟨.c,.f⟩),[]⟩,⟨some ⟨.c,.h⟩,some (⟨.b,.l⟩,true),.bin .eql (.t ⟨.c,.g⟩) (.c (.c (.i .i64 (.ofNat 3)))),
 []⟩,⟨some ⟨.c,.i⟩,none,.pk (.t ⟨.b,.l⟩) (.t ⟨.c,.h⟩) (.c (.c (.b false))),[]⟩,⟨some ⟨.b,.i⟩,none,.mv (.t ⟨.c,.i⟩),[]⟩]) (.cond (.t ⟨.b,.i⟩) (.reg [⟨some ⟨.c,.k⟩,none,.nc (.t ⟨.a,
 .e⟩),[]⟩,⟨some ⟨.c,.l⟩,none,.fa 6 (.t ⟨.c,.k⟩),[]⟩,⟨some ⟨.c,.m⟩,none,.ld 1 false (.t ⟨.c,.l⟩),[]⟩,⟨some ⟨.c,.o⟩,none,.bin .sub (.t ⟨.a,.f⟩) (.c (.c (.i .i64 (.ofNat 1)))),[]⟩,
 ⟨some ⟨.c,.p⟩,none,.ia 1 (.t ⟨.c,.m⟩) (.t ⟨.c,.o⟩),[]⟩,⟨some ⟨.d,.a⟩,none,.ld 1 false (.t ⟨.c,.p⟩),[]⟩,⟨some ⟨.d,.b⟩,none,.nc (.t ⟨.d,.a⟩),[]⟩,⟨some ⟨.d,.c⟩,none,.fa 3 (.t ⟨.d,
 .b⟩),[]⟩,⟨some ⟨.d,.d⟩,none,.ld 1 false (.t ⟨.d,.c⟩),[]⟩,⟨some ⟨.d,.f⟩,none,.bin .add (.t ⟨.d,.d⟩) (.t ⟨.a,.b⟩),[]⟩,⟨some ⟨.d,.g⟩,none,.nc (.t ⟨.d,.a⟩),[]⟩,⟨some ⟨.d,.h⟩,none,
 .fa 3 (.t ⟨.d,.g⟩),[]⟩,⟨none,none,.st 1 (.t ⟨.d,.h⟩) (.t ⟨.d,.f⟩),[]⟩]) (.reg [⟨some ⟨.a,.o⟩,none,.call 92 [.t ⟨.a,.a⟩,.c (.c (.i .i64 (.ofNat 3))),.c (.c (.s [])),.t ⟨.a,.b⟩,.c (.c
 (.sl none 0 0 0))],[]⟩,⟨some ⟨.b,.a⟩,none,.call 91 [.t ⟨.a,.e⟩,.t ⟨.a,.o⟩,.t ⟨.a,.f⟩],[]⟩])))))),[]⟩
theorem ok60 : FnR Tryz.prog 0 60 cf60 := fnC_ok [6,7,11,12,13,15,18,19,25,41,45,52] Tryz.func60 (by kernel_rfl) (by kernel_rfl)
def cf61 : CF := ⟨14,2,.seq (.reg [⟨some ⟨.a,.c⟩,none,.new 51 (.t ⟨.a,.a⟩),[]⟩,⟨some ⟨.a,.e⟩,none,.mv (.c (.c (.b false))),[]⟩]) (.seq (.reg [⟨some ⟨.a,.f⟩,none,.fa 0 (.t ⟨.a,.c⟩),[]⟩,⟨some ⟨.a,
 .g⟩,none,.ld 1 false (.t ⟨.a,.f⟩),[]⟩,⟨some ⟨.a,.h⟩,none,.bin .eql (.t ⟨.a,.g⟩) (.c (.c (.i .i64 (.ofNat 2)))),[]⟩,⟨some ⟨.a,.i⟩,none,.mv (.t ⟨.a,.h⟩),[]⟩,⟨some ⟨.a,.j⟩,some (⟨.a,
 .i⟩,true),.fa 1 (.t ⟨.a,.c⟩),[]⟩,⟨some ⟨.a,.k⟩,some (⟨.a,.i⟩,true),.ld 1 false (.t ⟨.a,.j⟩),[]⟩,⟨some ⟨.a,.l⟩,some (⟨.a,.i⟩,true),.mv (.t ⟨.a,.b⟩),[]⟩,⟨some ⟨.a,.m⟩,some (⟨.a,
 .i⟩,true),.call 33 [.t ⟨.a,.k⟩,.t ⟨.a,.l⟩],[]⟩,⟨some ⟨.a,.n⟩,none,.pk (.t ⟨.a,.i⟩) (.t ⟨.a,.m⟩) (.c (.c (.b false))),[]⟩,⟨some ⟨.a,.e⟩,none,.mv (.t ⟨.a,.n⟩),[]⟩]) .ret),[(⟨.a,
 .e⟩,none)]⟩
theorem ok61 : FnR Tryz.prog 0 61 cf61 := fnC_ok [] Tryz.func61 (by kernel_rfl) (by kernel_rfl)
def cf62 : CF := ⟨20,2,.dreg [⟨some ⟨.a,.e⟩,none,.mv (.t ⟨.a,.a⟩),[]⟩,⟨some ⟨.a,.f⟩,none,.mv (.t ⟨.a,.a⟩),[]⟩,⟨some ⟨.a,.g⟩,none,.nc (.t ⟨.a,.f⟩),[]⟩,⟨some ⟨.a,.h⟩,none,.fa 3 (.t ⟨.a,.g⟩),
 []⟩,⟨some ⟨.a,.i⟩,none,.ld 1 false (.t ⟨.a,.h⟩),[]⟩,⟨some ⟨.a,.j⟩,none,.mv (.t ⟨.a,.a⟩),[]⟩,⟨some ⟨.a,.k⟩,none,.nc (.t ⟨.a,.j⟩),[]⟩,⟨some ⟨.a,.l⟩,none,.fa 3 (.t ⟨.a,.k⟩),[]⟩,
 ⟨some ⟨.a,.m⟩,none,.ld 1 false (.t ⟨.a,.l⟩),[]⟩,⟨some ⟨.a,.n⟩,none,.len true (.t ⟨.a,.m⟩),[]⟩,⟨some ⟨.a,.o⟩,none,.mv (.t ⟨.a,.b⟩),[]⟩,⟨some ⟨.a,.p⟩,none,.bin .sub (.t ⟨.a,.n⟩)
 (.t ⟨.a,.o⟩),[]⟩,⟨some ⟨.b,.a⟩,none,.mx (.c (.c (.i .i64 (.ofNat 0)))) (.t ⟨.a,.p⟩),[]⟩,⟨some ⟨.b,.b⟩,none,.slc 1 (.t ⟨.a,.i⟩) none (some (.t ⟨.b,.a⟩)) none,[]⟩,⟨some ⟨.b,.c⟩,none,
 .nc (.t ⟨.a,.e⟩),[]⟩,⟨some ⟨.b,.d⟩,none,.fa 3 (.t ⟨.b,.c⟩),[]⟩,⟨none,none,.st 1 (.t ⟨.b,.d⟩) (.t ⟨.b,.b⟩),[]⟩],[]⟩
theorem ok62 : FnR Tryz.prog 0 62 cf62 := fnC_ok [] Tryz.func62 (by kernel_rfl) (by kernel_rfl)
def cf63 : CF := ⟨34,2,.seq (.reg [⟨some ⟨.a,.d⟩,none,.new 51 (.t ⟨.a,.b⟩),[]⟩,⟨some ⟨.a,.e⟩,none,.mv (.c (.c (.b false))),[]⟩]) (.seq (.blk 0 (.seq (.reg [⟨some ⟨.a,.j⟩,none,.fa 0 (.t ⟨.a,.d⟩),[]⟩,
 ⟨some ⟨.a,.k⟩,none,.ld 1 false (.t ⟨.a,.j⟩),[]⟩,⟨some ⟨.a,.l⟩,none,.bin .eql (.t ⟨.a,.k⟩) (.c (.c (.i .i64 (.ofNat 4)))),[]⟩,⟨some ⟨.a,.i⟩,none,.mv (.t ⟨.a,.l⟩),[]⟩]) (.cond (.t ⟨.a,
 .i⟩) (.reg [⟨some ⟨.a,.o⟩,none,.fa 2 (.t ⟨.a,.d⟩),[]⟩,⟨some ⟨.a,.p⟩,none,.ld 1 false (.t ⟨.a,.o⟩),[]⟩,⟨some ⟨.b,.a⟩,none,.call 92 [.t ⟨.a,.a⟩,.c (.c (.i .i64 (.ofNat 4))),.c (.c (.s
 [])),.t ⟨.a,.p⟩,.c (.c (.sl none 0 0 0))],[]⟩,⟨some ⟨.b,.b⟩,none,.call 93 [.t ⟨.a,.a⟩,.t ⟨.b,.a⟩],[]⟩]) (.seq (.reg [⟨some ⟨.b,.d⟩,none,.fa 0 (.t ⟨.a,.d⟩),[]⟩,⟨some ⟨.b,.e⟩,none,
 .ld 1 false (.t ⟨.b,.d⟩),[]⟩,⟨some ⟨.b,.f⟩,none,.bin .eql (.t ⟨.b,.e⟩) (.c (.c (.i .i64 (.ofNat 5)))),[]⟩,⟨some ⟨.b,.c⟩,none,.mv (.t ⟨.b,.f⟩),[]⟩]) (.cond (.t ⟨.b,.c⟩) (.seq (.reg
 [⟨some ⟨.b,.i⟩,none,.fa 1 (.t ⟨.a,.d⟩),[]⟩,⟨some ⟨.b,.j⟩,none,.ld 1 false (.t ⟨.b,.i⟩),[]⟩,⟨some ⟨.b,.k⟩,none,.call 92 [.t ⟨.a,.a⟩,.c (.c (.i .i64 (.ofNat 5))),.t ⟨.b,.j⟩,.c (.c
 (.s [])),.c (.c (.sl none 0 0 0))],[]⟩,⟨some ⟨.b,.l⟩,none,.call 93 [.t ⟨.a,.a⟩,.t ⟨.b,.k⟩],[]⟩]) (.reg [⟨some ⟨.b,.n⟩,none,.nc (.t ⟨.a,.a⟩),[]⟩,⟨some ⟨.b,.o⟩,none,.fa 5 (.t ⟨.b,
 .n⟩),[]⟩,⟨none,none,.st 1 (.t ⟨.b,.o⟩) (.c (.c (.i .i64 (.ofNat 1)))),[]⟩])) (.seq (.reg [⟨some ⟨.c,.a⟩,none,.ld 5 true (.t ⟨.a,.d⟩),[]⟩,⟨some ⟨.c,.b⟩,none,.call 94 [.t ⟨.c,.a⟩],[]⟩,
 ⟨some ⟨.b,.p⟩,none,.mv (.t ⟨.c,.b⟩),[]⟩]) (.cond (.t ⟨.b,.p⟩) .skip (.seq (.reg [⟨some ⟨.a,.g⟩,none,.nc (.t ⟨.a,.a⟩),[]⟩,⟨some ⟨.a,.h⟩,none,.fa 5 (.t ⟨.a,.g⟩),[]⟩,⟨none,none,.st 1
 (.t ⟨.a,.h⟩) (.c (.c (.i .i64 (.ofNat 1)))),[]⟩]) (.seq (.reg [⟨some ⟨.a,.e⟩,none,.mv (.c (.c (.b true))),[]⟩]) .ret))))))))) (.seq (.reg [⟨some ⟨.a,.e⟩,none,.mv (.c (.c (.b false))),[]⟩])
 .ret)),[(⟨.a,.e⟩,none)]⟩
theorem ok63 : FnR Tryz.prog 0 63 cf63 := fnC_ok [5,12,13,22,23,28] Tryz.func63 (by kernel_rfl) (by kernel_rfl)
def cf64 : CF := ⟨50,2,.seq (.reg [⟨some ⟨.a,.d⟩,none,.new 51 (.t ⟨.a,.b⟩),[]⟩,⟨some ⟨.a,.e⟩,none,.mv (.c (.c (.b false))),[]⟩]) (.seq (.blk 0 (.seq (.reg [⟨some ⟨.a,.l⟩,none,.fa 0 (.t ⟨.a,.d⟩),[]⟩,
 ⟨some ⟨.a,.m⟩,none,.ld 1 false (.t ⟨.a,.l⟩),[]⟩,⟨some ⟨.a,.n⟩,none,.bin .eql (.t ⟨.a,.m⟩) (.c (.c (.i .i64 (.ofNat 4)))),[]⟩,⟨some ⟨.a,.k⟩,none,.mv (.t ⟨.a,.n⟩),[]⟩]) (.cond (.t ⟨.a,
 .k⟩) (.reg [⟨some ⟨.b,.a⟩,none,.fa 2 (.t ⟨.a,.d⟩),[]⟩,⟨some ⟨.b,.b⟩,none,.ld 1 false (.t ⟨.b,.a⟩),[]⟩,⟨some ⟨.b,.c⟩,none,.call 92 [.t ⟨.a,.a⟩,.c (.c (.i .i64 (.ofNat 4))),.c (.c (.s
 [])),.t ⟨.b,.b⟩,.c (.c (.sl none 0 0 0))],[]⟩,⟨some ⟨.b,.d⟩,none,.call 93 [.t ⟨.a,.a⟩,.t ⟨.b,.c⟩],[]⟩]) (.seq (.reg [⟨some ⟨.b,.f⟩,none,.fa 0 (.t ⟨.a,.d⟩),[]⟩,⟨some ⟨.b,.g⟩,none,
 .ld 1 false (.t ⟨.b,.f⟩),[]⟩,⟨some ⟨.b,.h⟩,none,.bin .eql (.t ⟨.b,.g⟩) (.c (.c (.i .i64 (.ofNat 5)))),[]⟩,⟨some ⟨.b,.i⟩,none,.mv (.t ⟨.b,.h⟩),[]⟩,⟨some ⟨.b,.j⟩,some (⟨.b,.i⟩,
 false),.ld 5 true (.t ⟨.a,.d⟩),[]⟩,⟨some ⟨.b,.k⟩,some (⟨.b,.i⟩,false),.call 94 [.t ⟨.b,.j⟩],[]⟩,⟨some ⟨.b,.l⟩,none,.pk (.t ⟨.b,.i⟩) (.c (.c (.b true))) (.t ⟨.b,.k⟩),[]⟩,⟨some ⟨.b,
 .e⟩,none,.mv (.t ⟨.b,.l⟩),[]⟩]) (.cond (.t ⟨.b,.e⟩) .skip (.seq (.reg [⟨some ⟨.b,.n⟩,none,.ld 5 true (.t ⟨.a,.d⟩),[]⟩,⟨some ⟨.b,.o⟩,none,.bsl 9 1 1 [.s []] [(0,(1,.c (.c (.s [104,
 116,109,108]))))],[]⟩,⟨some ⟨.b,.p⟩,none,.call 95 [.t ⟨.b,.n⟩,.t ⟨.b,.o⟩],[]⟩,⟨some ⟨.b,.m⟩,none,.mv (.t ⟨.b,.p⟩),[]⟩]) (.cond (.t ⟨.b,.m⟩) (.seq (.reg [⟨some ⟨.c,.b⟩,none,.fa 3
 (.t ⟨.a,.d⟩),[]⟩,⟨some ⟨.c,.c⟩,none,.ld 1 false (.t ⟨.c,.b⟩),[]⟩,⟨some ⟨.c,.d⟩,none,.call 96 [.t ⟨.a,.a⟩,.c (.c (.s [104,116,109,108])),.t ⟨.c,.c⟩],[]⟩]) (.reg [⟨some ⟨.c,.f⟩,
 none,.nc (.t ⟨.a,.a⟩),[]⟩,⟨some ⟨.c,.g⟩,none,.fa 5 (.t ⟨.c,.f⟩),[]⟩,⟨none,none,.st 1 (.t ⟨.c,.g⟩) (.c (.c (.i .i64 (.ofNat 2)))),[]⟩])) (.seq (.reg [⟨some ⟨.c,.i⟩,none,.fa 0 (.t ⟨.a,
 .d⟩),[]⟩,⟨some ⟨.c,.j⟩,none,.ld 1 false (.t ⟨.c,.i⟩),[]⟩,⟨some ⟨.c,.k⟩,none,.bin .eql (.t ⟨.c,.j⟩) (.c (.c (.i .i64 (.ofNat 2)))),[]⟩,⟨some ⟨.c,.l⟩,none,.mv (.t ⟨.c,.k⟩),[]⟩,⟨some
 ⟨.c,.m⟩,some (⟨.c,.l⟩,true),.fa 1 (.t ⟨.a,.d⟩),[]⟩,⟨some ⟨.c,.n⟩,some (⟨.c,.l⟩,true),.ld 1 false (.t ⟨.c,.m⟩),[]⟩,⟨some ⟨.c,.o⟩,some (⟨.c,.l⟩,true),.bsl 9 1 4 [.s [],.s [],.s
 [],.s []] [(0,(1,.c (.c (.s [104,101,97,100])))),(1,(1,.c (.c (.s [98,111,100,121])))),(2,(1,.c (.c (.s [104,116,109,108])))),(3,(1,.c (.c (.s [98,114]))))],[]⟩,⟨some ⟨.c,
 .p⟩,some (⟨.c,.l⟩,true),.call 33 [.t ⟨.c,.n⟩,.t ⟨.c,.o⟩],[]⟩,⟨some ⟨.d,.a⟩,some (⟨.c,.l⟩,true),.un .not (.t ⟨.c,.p⟩),[]⟩,⟨some ⟨.d,.b⟩,none,.pk (.t ⟨.c,.l⟩) (.t ⟨.d,.a⟩) (.c (.c
 (.b false))),[]⟩,⟨some ⟨.c,.h⟩,none,.mv (.t ⟨.d,.b⟩),[]⟩]) (.cond (.t ⟨.c,.h⟩) .skip (.seq (.reg [⟨some ⟨.a,.g⟩,none,.call 96 [.t ⟨.a,.a⟩,.c (.c (.s [104,116,109,108])),.c (.c (.sl
 none 0 0 0))],[]⟩]) (.seq (.reg [⟨some ⟨.a,.i⟩,none,.nc (.t ⟨.a,.a⟩),[]⟩,⟨some ⟨.a,.j⟩,none,.fa 5 (.t ⟨.a,.i⟩),[]⟩,⟨none,none,.st 1 (.t ⟨.a,.j⟩) (.c (.c (.i .i64 (.ofNat 2)))),[]⟩])
 (.seq (.reg [⟨some ⟨.a,.e⟩,none,.mv (.c (.c (.b true))),[]⟩]) .ret)))))))))))) (.seq (.reg [⟨some ⟨.a,.e⟩,none,.mv (.c (.c (.b false))),[]⟩]) .ret)),[(⟨.a,.e⟩,none)]⟩
theorem ok64 : FnR Tryz.prog 0 64 cf64 := fnC_ok [5,7,14,15,32,36] Tryz.func64 (by kernel_rfl) (by kernel_rfl)
def cf65 : CF := ⟨60,2,.seq (.reg [⟨some ⟨.a,.d⟩,none,.new 51 (.t ⟨.a,.b⟩),[]⟩,⟨some ⟨.a,.e⟩,none,.mv (.c (.c (.b false))),[]⟩]) (.seq (.blk 0 (.seq (.reg [⟨some ⟨.a,.o⟩,none,.fa 0 (.t ⟨.a,.d⟩),[]⟩,
 ⟨some ⟨.a,.p⟩,none,.ld 1 false (.t ⟨.a,.o⟩),[]⟩,⟨some ⟨.b,.a⟩,none,.bin .eql (.t ⟨.a,.p⟩) (.c (.c (.i .i64 (.ofNat 4)))),[]⟩,⟨some ⟨.a,.n⟩,none,.mv (.t ⟨.b,.a⟩),[]⟩]) (.cond (.t ⟨.a,
 .n⟩) (.reg [⟨some ⟨.b,.c⟩,none,.ld 5 true (.t ⟨.a,.d⟩),[]⟩,⟨some ⟨.b,.d⟩,none,.call 97 [.t ⟨.a,.a⟩,.t ⟨.b,.c⟩],[]⟩]) (.seq (.reg [⟨some ⟨.b,.f⟩,none,.fa 0 (.t ⟨.a,.d⟩),[]⟩,⟨some
 ⟨.b,.g⟩,none,.ld 1 false (.t ⟨.b,.f⟩),[]⟩,⟨some ⟨.b,.h⟩,none,.bin .eql (.t ⟨.b,.g⟩) (.c (.c (.i .i64 (.ofNat 5)))),[]⟩,⟨some ⟨.b,.i⟩,none,.mv (.t ⟨.b,.h⟩),[]⟩,⟨some ⟨.b,.j⟩,some
 (⟨.b,.i⟩,false),.ld 5 true (.t ⟨.a,.d⟩),[]⟩,⟨some ⟨.b,.k⟩,some (⟨.b,.i⟩,false),.call 94 [.t ⟨.b,.j⟩],[]⟩,⟨some ⟨.b,.l⟩,none,.pk (.t ⟨.b,.i⟩) (.c (.c (.b true))) (.t ⟨.b,.k⟩),[]⟩,
 ⟨some ⟨.b,.e⟩,none,.mv (.t ⟨.b,.l⟩),[]⟩]) (.cond (.t ⟨.b,.e⟩) .skip (.seq (.reg [⟨some ⟨.b,.n⟩,none,.ld 5 true (.t ⟨.a,.d⟩),[]⟩,⟨some ⟨.b,.o⟩,none,.bsl 9 1 1 [.s []] [(0,(1,.c (.c
 (.s [104,116,109,108]))))],[]⟩,⟨some ⟨.b,.p⟩,none,.call 95 [.t ⟨.b,.n⟩,.t ⟨.b,.o⟩],[]⟩,⟨some ⟨.b,.m⟩,none,.mv (.t ⟨.b,.p⟩),[]⟩]) (.cond (.t ⟨.b,.m⟩) (.seq (.reg [⟨some ⟨.c,.b⟩,
 none,.ld 5 true (.t ⟨.a,.d⟩),[]⟩,⟨some ⟨.c,.c⟩,none,.call 75 [.t ⟨.a,.a⟩,.t ⟨.c,.b⟩],[]⟩,⟨some ⟨.a,.e⟩,none,.mv (.t ⟨.c,.c⟩),[]⟩]) .ret) (.seq (.reg [⟨some ⟨.c,.e⟩,none,.ld 5 true
 (.t ⟨.a,.d⟩),[]⟩,⟨some ⟨.c,.f⟩,none,.bsl 9 1 1 [.s []] [(0,(1,.c (.c (.s [104,101,97,100]))))],[]⟩,⟨some ⟨.c,.g⟩,none,.call 95 [.t ⟨.c,.e⟩,.t ⟨.c,.f⟩],[]⟩,⟨some ⟨.c,.d⟩,none,
 .mv (.t ⟨.c,.g⟩),[]⟩]) (.cond (.t ⟨.c,.d⟩) (.seq (.reg [⟨some ⟨.c,.j⟩,none,.fa 3 (.t ⟨.a,.d⟩),[]⟩,⟨some ⟨.c,.k⟩,none,.ld 1 false (.t ⟨.c,.j⟩),[]⟩,⟨some ⟨.c,.l⟩,none,.call 96 [.t
 ⟨.a,.a⟩,.c (.c (.s [104,101,97,100])),.t ⟨.c,.k⟩],[]⟩,⟨some ⟨.c,.m⟩,none,.nc (.t ⟨.a,.a⟩),[]⟩,⟨some ⟨.c,.n⟩,none,.fa 1 (.t ⟨.c,.m⟩),[]⟩,⟨none,none,.st 1 (.t ⟨.c,.n⟩) (.t ⟨.c,
 .l⟩),[]⟩]) (.reg [⟨some ⟨.c,.p⟩,none,.nc (.t ⟨.a,.a⟩),[]⟩,⟨some ⟨.d,.a⟩,none,.fa 5 (.t ⟨.c,.p⟩),[]⟩,⟨none,none,.st 1 (.t ⟨.d,.a⟩) (.c (.c (.i .i64 (.ofNat 3)))),[]⟩])) (.seq (.reg
 [⟨some ⟨.d,.c⟩,none,.fa 0 (.t ⟨.a,.d⟩),[]⟩,⟨some ⟨.d,.d⟩,none,.ld 1 false (.t ⟨.d,.c⟩),[]⟩,⟨some ⟨.d,.e⟩,none,.bin .eql (.t ⟨.d,.d⟩) (.c (.c (.i .i64 (.ofNat 2)))),[]⟩,⟨some ⟨.d,
 .f⟩,none,.mv (.t ⟨.d,.e⟩),[]⟩,⟨some ⟨.d,.g⟩,some (⟨.d,.f⟩,true),.fa 1 (.t ⟨.a,.d⟩),[]⟩,⟨some ⟨.d,.h⟩,some (⟨.d,.f⟩,true),.ld 1 false (.t ⟨.d,.g⟩),[]⟩,⟨some ⟨.d,.i⟩,some (⟨.d,
 .f⟩,true),.bsl 9 1 4 [.s [],.s [],.s [],.s []] [(0,(1,.c (.c (.s [104,101,97,100])))),(1,(1,.c (.c (.s [98,111,100,121])))),(2,(1,.c (.c (.s [104,116,109,108])))),(3,(1,.c
 (.c (.s [98,114]))))],[]⟩,⟨some ⟨.d,.j⟩,some (⟨.d,.f⟩,true),.call 33 [.t ⟨.d,.h⟩,.t ⟨.d,.i⟩],[]⟩,⟨some ⟨.d,.k⟩,some (⟨.d,.f⟩,true),.un .not (.t ⟨.d,.j⟩),[]⟩,⟨some ⟨.d,.l⟩,none,
 .pk (.t ⟨.d,.f⟩) (.t ⟨.d,.k⟩) (.c (.c (.b false))),[]⟩,⟨some ⟨.d,.b⟩,none,.mv (.t ⟨.d,.l⟩),[]⟩]) (.cond (.t ⟨.d,.b⟩) .skip (.seq (.reg [⟨some ⟨.a,.h⟩,none,.call 96 [.t ⟨.a,.a⟩,.c (.c
 (.s [104,101,97,100])),.c (.c (.sl none 0 0 0))],[]⟩,⟨some ⟨.a,.i⟩,none,.nc (.t ⟨.a,.a⟩),[]⟩,⟨some ⟨.a,.j⟩,none,.fa 1 (.t ⟨.a,.i⟩),[]⟩,⟨none,none,.st 1 (.t ⟨.a,.j⟩) (.t ⟨.a,
 .h⟩),[]⟩]) (.seq (.reg [⟨some ⟨.a,.l⟩,none,.nc (.t ⟨.a,.a⟩),[]⟩,⟨some ⟨.a,.m⟩,none,.fa 5 (.t ⟨.a,.l⟩),[]⟩,⟨none,none,.st 1 (.t ⟨.a,.m⟩) (.c (.c (.i .i64 (.ofNat 3)))),[]⟩]) (.seq
 (.reg [⟨some ⟨.a,.e⟩,none,.mv (.c (.c (.b true))),[]⟩]) .ret)))))))))))))) (.seq (.reg [⟨some ⟨.a,.e⟩,none,.mv (.c (.c (.b false))),[]⟩]) .ret)),[(⟨.a,.e⟩,none)]⟩
theorem ok65 : FnR Tryz.prog 0 65 cf65 := fnC_ok [5,6,10,17,32,39,40,46] Tryz.func65 (by kernel_rfl) (by kernel_rfl)
def cf66 : CF := ⟨81,2,.seq (.reg [⟨some ⟨.a,.d⟩,none,.new 51 (.t ⟨.a,.b⟩),[]⟩,⟨some ⟨.a,.e⟩,none,.mv (.c (.c (.b false))),[]⟩]) (.seq (.blk 0 (.seq (.reg [⟨some ⟨.a,.m⟩,none,.ld 5 true (.t ⟨.a,.d⟩),
 []⟩,⟨some ⟨.a,.n⟩,none,.call 94 [.t ⟨.a,.m⟩],[]⟩,⟨some ⟨.a,.l⟩,none,.mv (.t ⟨.a,.n⟩),[]⟩]) (.cond (.t ⟨.a,.l⟩) (.reg [⟨some ⟨.a,.p⟩,none,.fa 2 (.t ⟨.a,.d⟩),[]⟩,⟨some ⟨.b,.a⟩,
 none,.ld 1 false (.t ⟨.a,.p⟩),[]⟩,⟨some ⟨.b,.b⟩,none,.call 60 [.t ⟨.a,.a⟩,.t ⟨.b,.a⟩],[]⟩]) (.seq (.reg [⟨some ⟨.b,.d⟩,none,.fa 0 (.t ⟨.a,.d⟩),[]⟩,⟨some ⟨.b,.e⟩,none,.ld 1 false
 (.t ⟨.b,.d⟩),[]⟩,⟨some ⟨.b,.f⟩,none,.bin .eql (.t ⟨.b,.e⟩) (.c (.c (.i .i64 (.ofNat 4)))),[]⟩,⟨some ⟨.b,.c⟩,none,.mv (.t ⟨.b,.f⟩),[]⟩]) (.cond (.t ⟨.b,.c⟩) (.reg [⟨some ⟨.b,.h⟩,none,
 .ld 5 true (.t ⟨.a,.d⟩),[]⟩,⟨some ⟨.b,.i⟩,none,.call 97 [.t ⟨.a,.a⟩,.t ⟨.b,.h⟩],[]⟩]) (.seq (.reg [⟨some ⟨.b,.k⟩,none,.fa 0 (.t ⟨.a,.d⟩),[]⟩,⟨some ⟨.b,.l⟩,none,.ld 1 false (.t ⟨.b,
 .k⟩),[]⟩,⟨some ⟨.b,.m⟩,none,.bin .eql (.t ⟨.b,.l⟩) (.c (.c (.i .i64 (.ofNat 5)))),[]⟩,⟨some ⟨.b,.n⟩,none,.mv (.t ⟨.b,.m⟩),[]⟩,⟨some ⟨.b,.o⟩,some (⟨.b,.n⟩,false),.ld 5 true (.t ⟨.a,
 .d⟩),[]⟩,⟨some ⟨.b,.p⟩,some (⟨.b,.n⟩,false),.bsl 9 1 1 [.s []] [(0,(1,.c (.c (.s [104,101,97,100]))))],[]⟩,⟨some ⟨.c,.a⟩,some (⟨.b,.n⟩,false),.call 95 [.t ⟨.b,.o⟩,.t ⟨.b,.p⟩],
 []⟩,⟨some ⟨.c,.b⟩,none,.pk (.t ⟨.b,.n⟩) (.c (.c (.b true))) (.t ⟨.c,.a⟩),[]⟩,⟨some ⟨.b,.j⟩,none,.mv (.t ⟨.c,.b⟩),[]⟩]) (.cond (.t ⟨.b,.j⟩) .skip (.seq (.reg [⟨some ⟨.c,.d⟩,none,.ld 5
 true (.t ⟨.a,.d⟩),[]⟩,⟨some ⟨.c,.e⟩,none,.bsl 9 1 1 [.s []] [(0,(1,.c (.c (.s [104,116,109,108]))))],[]⟩,⟨some ⟨.c,.f⟩,none,.call 95 [.t ⟨.c,.d⟩,.t ⟨.c,.e⟩],[]⟩,⟨some ⟨.c,.c⟩,
 none,.mv (.t ⟨.c,.f⟩),[]⟩]) (.cond (.t ⟨.c,.c⟩) (.seq (.reg [⟨some ⟨.c,.h⟩,none,.ld 5 true (.t ⟨.a,.d⟩),[]⟩,⟨some ⟨.c,.i⟩,none,.call 75 [.t ⟨.a,.a⟩,.t ⟨.c,.h⟩],[]⟩,⟨some ⟨.a,.e⟩,
 none,.mv (.t ⟨.c,.i⟩),[]⟩]) .ret) (.seq (.reg [⟨some ⟨.c,.k⟩,none,.ld 5 true (.t ⟨.a,.d⟩),[]⟩,⟨some ⟨.c,.l⟩,none,.bsl 9 1 3 [.s [],.s [],.s []] [(0,(1,.c (.c (.s [98,97,115,
 101])))),(1,(1,.c (.c (.s [108,105,110,107])))),(2,(1,.c (.c (.s [109,101,116,97]))))],[]⟩,⟨some ⟨.c,.m⟩,none,.call 95 [.t ⟨.c,.k⟩,.t ⟨.c,.l⟩],[]⟩,⟨some ⟨.c,.j⟩,none,.mv (.t
 ⟨.c,.m⟩),[]⟩]) (.cond (.t ⟨.c,.j⟩) (.reg [⟨some ⟨.c,.o⟩,none,.fa 1 (.t ⟨.a,.d⟩),[]⟩,⟨some ⟨.c,.p⟩,none,.ld 1 false (.t ⟨.c,.o⟩),[]⟩,⟨some ⟨.d,.a⟩,none,.fa 3 (.t ⟨.a,.d⟩),[]⟩,
 ⟨some ⟨.d,.b⟩,none,.ld 1 false (.t ⟨.d,.a⟩),[]⟩,⟨some ⟨.d,.c⟩,none,.call 98 [.t ⟨.a,.a⟩,.t ⟨.c,.p⟩,.t ⟨.d,.b⟩],[]⟩]) (.seq (.reg [⟨some ⟨.d,.e⟩,none,.ld 5 true (.t ⟨.a,.d⟩),[]⟩,
 ⟨some ⟨.d,.f⟩,none,.bsl 9 1 4 [.s [],.s [],.s [],.s []] [(0,(1,.c (.c (.s [116,105,116,108,101])))),(1,(1,.c (.c (.s [115,116,121,108,101])))),(2,(1,.c (.c (.s [115,99,114,
 105,112,116])))),(3,(1,.c (.c (.s [110,111,102,114,97,109,101,115]))))],[]⟩,⟨some ⟨.d,.g⟩,none,.call 95 [.t ⟨.d,.e⟩,.t ⟨.d,.f⟩],[]⟩,⟨some ⟨.d,.d⟩,none,.mv (.t ⟨.d,.g⟩),
 []⟩]) (.cond (.t ⟨.d,.d⟩) (.reg [⟨some ⟨.d,.i⟩,none,.fa 1 (.t ⟨.a,.d⟩),[]⟩,⟨some ⟨.d,.j⟩,none,.ld 1 false (.t ⟨.d,.i⟩),[]⟩,⟨some ⟨.d,.k⟩,none,.fa 3 (.t ⟨.a,.d⟩),[]⟩,⟨some ⟨.d,.l⟩,
 none,.ld 1 false (.t ⟨.d,.k⟩),[]⟩,⟨some ⟨.d,.m⟩,none,.call 96 [.t ⟨.a,.a⟩,.t ⟨.d,.j⟩,.t ⟨.d,.l⟩],[]⟩]) (.seq (.reg [⟨some ⟨.d,.o⟩,none,.ld 5 true (.t ⟨.a,.d⟩),[]⟩,⟨some ⟨.d,.p⟩,
 none,.bsl 9 1 1 [.s []] [(0,(1,.c (.c (.s [104,101,97,100]))))],[]⟩,⟨some ⟨.e,.a⟩,none,.call 61 [.t ⟨.d,.o⟩,.t ⟨.d,.p⟩],[]⟩,⟨some ⟨.d,.n⟩,none,.mv (.t ⟨.e,.a⟩),[]⟩]) (.cond (.t
 ⟨.d,.n⟩) (.seq (.reg [⟨some ⟨.e,.c⟩,none,.call 62 [.t ⟨.a,.a⟩,.c (.c (.i .i64 (.ofNat 1)))],[]⟩]) (.reg [⟨some ⟨.e,.e⟩,none,.nc (.t ⟨.a,.a⟩),[]⟩,⟨some ⟨.e,.f⟩,none,.fa 5 (.t ⟨.e,
 .e⟩),[]⟩,⟨none,none,.st 1 (.t ⟨.e,.f⟩) (.c (.c (.i .i64 (.ofNat 4)))),[]⟩])) (.seq (.reg [⟨some ⟨.e,.h⟩,none,.fa 0 (.t ⟨.a,.d⟩),[]⟩,⟨some ⟨.e,.i⟩,none,.ld 1 false (.t ⟨.e,.h⟩),[]⟩,
 ⟨some ⟨.e,.j⟩,none,.bin .eql (.t ⟨.e,.i⟩) (.c (.c (.i .i64 (.ofNat 2)))),[]⟩,⟨some ⟨.e,.k⟩,none,.mv (.t ⟨.e,.j⟩),[]⟩,⟨some ⟨.e,.l⟩,some (⟨.e,.k⟩,true),.fa 1 (.t ⟨.a,.d⟩),[]⟩,⟨some
 ⟨.e,.m⟩,some (⟨.e,.k⟩,true),.ld 1 false (.t ⟨.e,.l⟩),[]⟩,⟨some ⟨.e,.n⟩,some (⟨.e,.k⟩,true),.bsl 9 1 3 [.s [],.s [],.s []] [(0,(1,.c (.c (.s [98,111,100,121])))),(1,(1,.c (.c
 (.s [104,116,109,108])))),(2,(1,.c (.c (.s [98,114]))))],[]⟩,⟨some ⟨.e,.o⟩,some (⟨.e,.k⟩,true),.call 33 [.t ⟨.e,.m⟩,.t ⟨.e,.n⟩],[]⟩,⟨some ⟨.e,.p⟩,some (⟨.e,.k⟩,true),.un .not
 (.t ⟨.e,.o⟩),[]⟩,⟨some ⟨.f,.a⟩,none,.pk (.t ⟨.e,.k⟩) (.t ⟨.e,.p⟩) (.c (.c (.b false))),[]⟩,⟨some ⟨.e,.g⟩,none,.mv (.t ⟨.f,.a⟩),[]⟩]) (.cond (.t ⟨.e,.g⟩) .skip (.seq (.reg [⟨some ⟨.a,
 .g⟩,none,.bsl 9 1 1 [.s []] [(0,(1,.c (.c (.s [104,101,97,100]))))],[]⟩,⟨some ⟨.a,.h⟩,none,.call 99 [.t ⟨.a,.a⟩,.t ⟨.a,.g⟩],[]⟩]) (.seq (.reg [⟨some ⟨.a,.j⟩,none,.nc (.t ⟨.a,.a⟩),
 []⟩,⟨some ⟨.a,.k⟩,none,.fa 5 (.t ⟨.a,.j⟩),[]⟩,⟨none,none,.st 1 (.t ⟨.a,.k⟩) (.c (.c (.i .i64 (.ofNat 4)))),[]⟩]) (.seq (.reg [⟨some ⟨.a,.e⟩,none,.mv (.c (.c (.b true))),[]⟩])
 .ret)))))))))))))))))))) (.seq (.reg [⟨some ⟨.a,.e⟩,none,.mv (.c (.c (.b false))),[]⟩]) .ret)),[(⟨.a,.e⟩,none)]⟩
theorem ok66 : FnR Tryz.prog 0 66 cf66 := fnC_ok [5,8,14,22,38,45,55,65,67] Tryz.func66 (by kernel_rfl) (by kernel_rfl)
def cf67 : CF := ⟨119,2,.seq (.reg [⟨some ⟨.a,.d⟩,none,.new 51 (.t ⟨.a,.b⟩),[]⟩,⟨some ⟨.a,.e⟩,none,.mv (.c (.c (.b false))),[]⟩]) (.seq (.blk 0 (.seq (.reg [⟨some ⟨.a,.n⟩,none,.ld 5 true (.t ⟨.a,.d⟩),
 []⟩,⟨some ⟨.a,.o⟩,none,.call 94 [.t ⟨.a,.n⟩],[]⟩,⟨some ⟨.a,.m⟩,none,.mv (.t ⟨.a,.o⟩),[]⟩]) (.cond (.t ⟨.a,.m⟩) (.reg [⟨some ⟨.b,.a⟩,none,.fa 2 (.t ⟨.a,.d⟩),[]⟩,⟨some ⟨.b,.b⟩,
 none,.ld 1 false (.t ⟨.b,.a⟩),[]⟩,⟨some ⟨.b,.c⟩,none,.call 60 [.t ⟨.a,.a⟩,.t ⟨.b,.b⟩],[]⟩]) (.seq (.reg [⟨some ⟨.b,.e⟩,none,.fa 0 (.t ⟨.a,.d⟩),[]⟩,⟨some ⟨.b,.f⟩,none,.ld 1 false
 (.t ⟨.b,.e⟩),[]⟩,⟨some ⟨.b,.g⟩,none,.bin .eql (.t ⟨.b,.f⟩) (.c (.c (.i .i64 (.ofNat 4)))),[]⟩,⟨some ⟨.b,.d⟩,none,.mv (.t ⟨.b,.g⟩),[]⟩]) (.cond (.t ⟨.b,.d⟩) (.reg [⟨some ⟨.b,.i⟩,none,
 .ld 5 true (.t ⟨.a,.d⟩),[]⟩,⟨some ⟨.b,.j⟩,none,.call 97 [.t ⟨.a,.a⟩,.t ⟨.b,.i⟩],[]⟩]) (.seq (.reg [⟨some ⟨.b,.l⟩,none,.fa 0 (.t ⟨.a,.d⟩),[]⟩,⟨some ⟨.b,.m⟩,none,.ld 1 false (.t ⟨.b,
 .l⟩),[]⟩,⟨some ⟨.b,.n⟩,none,.bin .eql (.t ⟨.b,.m⟩) (.c (.c (.i .i64 (.ofNat 5)))),[]⟩,⟨some ⟨.b,.o⟩,none,.mv (.t ⟨.b,.n⟩),[]⟩,⟨some ⟨.b,.p⟩,some (⟨.b,.o⟩,false),.ld 5 true (.t ⟨.a,
 .d⟩),[]⟩,⟨some ⟨.c,.a⟩,some (⟨.b,.o⟩,false),.bsl 9 1 1 [.s []] [(0,(1,.c (.c (.s [104,101,97,100]))))],[]⟩,⟨some ⟨.c,.b⟩,some (⟨.b,.o⟩,false),.call 95 [.t ⟨.b,.p⟩,.t ⟨.c,.a⟩],
 []⟩,⟨some ⟨.c,.c⟩,none,.pk (.t ⟨.b,.o⟩) (.c (.c (.b true))) (.t ⟨.c,.b⟩),[]⟩,⟨some ⟨.b,.k⟩,none,.mv (.t ⟨.c,.c⟩),[]⟩]) (.cond (.t ⟨.b,.k⟩) .skip (.seq (.reg [⟨some ⟨.c,.e⟩,none,.ld 5
 true (.t ⟨.a,.d⟩),[]⟩,⟨some ⟨.c,.f⟩,none,.bsl 9 1 1 [.s []] [(0,(1,.c (.c (.s [104,116,109,108]))))],[]⟩,⟨some ⟨.c,.g⟩,none,.call 95 [.t ⟨.c,.e⟩,.t ⟨.c,.f⟩],[]⟩,⟨some ⟨.c,.d⟩,
 none,.mv (.t ⟨.c,.g⟩),[]⟩]) (.cond (.t ⟨.c,.d⟩) (.seq (.reg [⟨some ⟨.c,.i⟩,none,.ld 5 true (.t ⟨.a,.d⟩),[]⟩,⟨some ⟨.c,.j⟩,none,.call 75 [.t ⟨.a,.a⟩,.t ⟨.c,.i⟩],[]⟩,⟨some ⟨.a,.e⟩,
 none,.mv (.t ⟨.c,.j⟩),[]⟩]) .ret) (.seq (.reg [⟨some ⟨.c,.l⟩,none,.ld 5 true (.t ⟨.a,.d⟩),[]⟩,⟨some ⟨.c,.m⟩,none,.bsl 9 1 1 [.s []] [(0,(1,.c (.c (.s [98,111,100,121]))))],[]⟩,
 ⟨some ⟨.c,.n⟩,none,.call 95 [.t ⟨.c,.l⟩,.t ⟨.c,.m⟩],[]⟩,⟨some ⟨.c,.k⟩,none,.mv (.t ⟨.c,.n⟩),[]⟩]) (.cond (.t ⟨.c,.k⟩) (.seq (.reg [⟨some ⟨.c,.p⟩,none,.fa 3 (.t ⟨.a,.d⟩),[]⟩,⟨some
 ⟨.d,.a⟩,none,.ld 1 false (.t ⟨.c,.p⟩),[]⟩,⟨some ⟨.d,.b⟩,none,.call 96 [.t ⟨.a,.a⟩,.c (.c (.s [98,111,100,121])),.t ⟨.d,.a⟩],[]⟩]) (.reg [⟨some ⟨.d,.d⟩,none,.nc (.t ⟨.a,.a⟩),[]⟩,
 ⟨some ⟨.d,.e⟩,none,.fa 5 (.t ⟨.d,.d⟩),[]⟩,⟨none,none,.st 1 (.t ⟨.d,.e⟩) (.c (.c (.i .i64 (.ofNat 5)))),[]⟩])) (.seq (.reg [⟨some ⟨.d,.g⟩,none,.fa 0 (.t ⟨.a,.d⟩),[]⟩,⟨some ⟨.d,.h⟩,
 none,.ld 1 false (.t ⟨.d,.g⟩),[]⟩,⟨some ⟨.d,.i⟩,none,.bin .eql (.t ⟨.d,.h⟩) (.c (.c (.i .i64 (.ofNat 1)))),[]⟩,⟨some ⟨.d,.j⟩,none,.mv (.t ⟨.d,.i⟩),[]⟩,⟨some ⟨.d,.k⟩,some (⟨.d,.j⟩,
 true),.fa 1 (.t ⟨.a,.d⟩),[]⟩,⟨some ⟨.d,.l⟩,some (⟨.d,.j⟩,true),.ld 1 false (.t ⟨.d,.k⟩),[]⟩,⟨some ⟨.d,.m⟩,some (⟨.d,.j⟩,true),.call 100 [.t ⟨.d,.l⟩,.c (.c (.i .i64 (.ofNat 8)))],
 []⟩,⟨some ⟨.d,.n⟩,none,.pk (.t ⟨.d,.j⟩) (.t ⟨.d,.m⟩) (.c (.c (.b false))),[]⟩,⟨some ⟨.d,.f⟩,none,.mv (.t ⟨.d,.n⟩),[]⟩]) (.cond (.t ⟨.d,.f⟩) (.seq (.dreg [⟨some ⟨.d,.o⟩,none,.mv (.t
 ⟨.a,.a⟩),[]⟩,⟨some ⟨.d,.p⟩,none,.mv (.t ⟨.a,.a⟩),[]⟩,⟨some ⟨.e,.a⟩,none,.nc (.t ⟨.d,.p⟩),[]⟩,⟨some ⟨.e,.b⟩,none,.fa 3 (.t ⟨.e,.a⟩),[]⟩,⟨some ⟨.e,.c⟩,none,.ld 1 false (.t ⟨.e,
 .b⟩),[]⟩,⟨some ⟨.e,.d⟩,none,.mv (.t ⟨.a,.a⟩),[]⟩,⟨some ⟨.e,.e⟩,none,.nc (.t ⟨.e,.d⟩),[]⟩,⟨some ⟨.e,.f⟩,none,.fa 1 (.t ⟨.e,.e⟩),[]⟩,⟨some ⟨.e,.g⟩,none,.ld 1 false (.t ⟨.e,.f⟩),
 []⟩,⟨some ⟨.e,.h⟩,none,.bsl 53 1 1 [.p none] [(0,(1,.t ⟨.e,.g⟩))],[]⟩,⟨some ⟨.e,.i⟩,none,.app 53 1 false (.t ⟨.e,.c⟩) (.t ⟨.e,.h⟩),[]⟩,⟨some ⟨.e,.j⟩,none,.nc (.t ⟨.d,.o⟩),[]⟩,
 ⟨some ⟨.e,.k⟩,none,.fa 3 (.t ⟨.e,.j⟩),[]⟩,⟨none,none,.st 1 (.t ⟨.e,.k⟩) (.t ⟨.e,.i⟩),[]⟩]) (.seq (.reg [⟨some ⟨.e,.m⟩,none,.ld 5 true (.t ⟨.a,.d⟩),[]⟩,⟨some ⟨.e,.n⟩,none,.call 66
 [.t ⟨.a,.a⟩,.t ⟨.e,.m⟩],[]⟩,⟨some ⟨.a,.f⟩,none,.mv (.t ⟨.e,.n⟩),[]⟩]) (.seq (.seq (.reg [⟨some ⟨.f,.a⟩,none,.nc (.t ⟨.a,.a⟩),[]⟩,⟨some ⟨.f,.b⟩,none,.fa 1 (.t ⟨.f,.a⟩),[]⟩,⟨some
 ⟨.f,.c⟩,none,.ld 1 false (.t ⟨.f,.b⟩),[]⟩,⟨some ⟨.f,.d⟩,none,.nc (.t ⟨.f,.c⟩),[]⟩,⟨some ⟨.f,.e⟩,none,.fa 0 (.t ⟨.f,.d⟩),[]⟩,⟨some ⟨.f,.f⟩,none,.ld 1 false (.t ⟨.f,.e⟩),[]⟩,
 ⟨some ⟨.f,.g⟩,none,.call 101 [.t ⟨.a,.a⟩,.t ⟨.f,.f⟩],[]⟩,⟨some ⟨.a,.g⟩,none,.mv (.t ⟨.f,.g⟩),[]⟩]) (.seq (.reg [⟨some ⟨.f,.i⟩,none,.bin .geq (.t ⟨.a,.g⟩) (.c (.c (.i .i64 (.ofNat
 0)))),[]⟩]) (.cond (.t ⟨.f,.i⟩) (.dreg [⟨some ⟨.f,.j⟩,none,.mv (.t ⟨.a,.a⟩),[]⟩,⟨some ⟨.f,.k⟩,none,.mv (.t ⟨.a,.a⟩),[]⟩,⟨some ⟨.f,.l⟩,none,.nc (.t ⟨.f,.k⟩),[]⟩,⟨some ⟨.f,.m⟩,
 none,.fa 3 (.t ⟨.f,.l⟩),[]⟩,⟨some ⟨.f,.n⟩,none,.ld 1 false (.t ⟨.f,.m⟩),[]⟩,⟨some ⟨.f,.o⟩,none,.mv (.t ⟨.a,.g⟩),[]⟩,⟨some ⟨.f,.p⟩,none,.mv (.t ⟨.a,.g⟩),[]⟩,⟨some ⟨.g,.a⟩,none,
 .slc 1 (.t ⟨.f,.n⟩) none (some (.t ⟨.f,.o⟩)) (some (.t ⟨.f,.p⟩)),[]⟩,⟨some ⟨.g,.b⟩,none,.mv (.t ⟨.a,.a⟩),[]⟩,⟨some ⟨.g,.c⟩,none,.nc (.t ⟨.g,.b⟩),[]⟩,⟨some ⟨.g,.d⟩,none,.fa 3 (.t
 ⟨.g,.c⟩),[]⟩,⟨some ⟨.g,.e⟩,none,.ld 1 false (.t ⟨.g,.d⟩),[]⟩,⟨some ⟨.g,.f⟩,none,.mv (.t ⟨.a,.g⟩),[]⟩,⟨some ⟨.g,.g⟩,none,.bin .add (.t ⟨.g,.f⟩) (.c (.c (.i .i64 (.ofNat 1)))),[]⟩,
 ⟨some ⟨.g,.h⟩,none,.slc 1 (.t ⟨.g,.e⟩) (some (.t ⟨.g,.g⟩)) none none,[]⟩,⟨some ⟨.g,.i⟩,none,.app 53 1 false (.t ⟨.g,.a⟩) (.t ⟨.g,.h⟩),[]⟩,⟨some ⟨.g,.j⟩,none,.nc (.t ⟨.f,.j⟩),[]⟩,
 ⟨some ⟨.g,.k⟩,none,.fa 3 (.t ⟨.g,.j⟩),[]⟩,⟨none,none,.st 1 (.t ⟨.g,.k⟩) (.t ⟨.g,.i⟩),[]⟩]) .skip))) (.seq (.reg [⟨some ⟨.a,.e⟩,none,.mv (.t ⟨.a,.f⟩),[]⟩]) .ret)))) (.seq (.reg [⟨some
 ⟨.g,.n⟩,none,.fa 0 (.t ⟨.a,.d⟩),[]⟩,⟨some ⟨.g,.o⟩,none,.ld 1 false (.t ⟨.g,.n⟩),[]⟩,⟨some ⟨.g,.p⟩,none,.bin .eql (.t ⟨.g,.o⟩) (.c (.c (.i .i64 (.ofNat 2)))),[]⟩,⟨some ⟨.h,.a⟩,
 none,.mv (.t ⟨.g,.p⟩),[]⟩,⟨some ⟨.h,.b⟩,some (⟨.h,.a⟩,true),.fa 1 (.t ⟨.a,.d⟩),[]⟩,⟨some ⟨.h,.c⟩,some (⟨.h,.a⟩,true),.ld 1 false (.t ⟨.h,.b⟩),[]⟩,⟨some ⟨.h,.d⟩,some (⟨.h,.a⟩,
 true),.bsl 9 1 3 [.s [],.s [],.s []] [(0,(1,.c (.c (.s [98,111,100,121])))),(1,(1,.c (.c (.s [104,116,109,108])))),(2,(1,.c (.c (.s [98,114]))))],[]⟩,⟨some ⟨.h,.e⟩,some (⟨.h,
 .a⟩,true),.call 33 [.t ⟨.h,.c⟩,.t ⟨.h,.d⟩],[]⟩,⟨some ⟨.h,.f⟩,some (⟨.h,.a⟩,true),.un .not (.t ⟨.h,.e⟩),[]⟩,⟨some ⟨.h,.g⟩,none,.pk (.t ⟨.h,.a⟩) (.t ⟨.h,.f⟩) (.c (.c (.b false))),
 []⟩,⟨some ⟨.g,.m⟩,none,.mv (.t ⟨.h,.g⟩),[]⟩]) (.cond (.t ⟨.g,.m⟩) .skip (.seq (.reg [⟨some ⟨.a,.i⟩,none,.call 96 [.t ⟨.a,.a⟩,.c (.c (.s [98,111,100,121])),.c (.c (.sl none 0 0 0))],
 []⟩]) (.seq (.reg [⟨some ⟨.a,.k⟩,none,.nc (.t ⟨.a,.a⟩),[]⟩,⟨some ⟨.a,.l⟩,none,.fa 5 (.t ⟨.a,.k⟩),[]⟩,⟨none,none,.st 1 (.t ⟨.a,.l⟩) (.c (.c (.i .i64 (.ofNat 5)))),[]⟩]) (.seq (.reg
 [⟨some ⟨.a,.e⟩,none,.mv (.c (.c (.b true))),[]⟩]) .ret)))))))))))))))))) (.seq (.reg [⟨some ⟨.a,.e⟩,none,.mv (.c (.c (.b false))),[]⟩]) .ret)),[(⟨.a,.e⟩,none)]⟩
theorem ok67 : FnR Tryz.prog 0 67 cf67 := fnC_ok [7,9,15,23,39,46,50,75,78,79,87,107] Tryz.func67 (by kernel_rfl) (by kernel_rfl)
def cf69 : CF := ⟨142,2,.seq (.reg [⟨some ⟨.a,.c⟩,none,.new 52 (.t ⟨.a,.a⟩),[]⟩,⟨some ⟨.a,.d⟩,none,.new 51 (.t ⟨.a,.b⟩),[]⟩,⟨some ⟨.a,.e⟩,none,.mv (.c (.c (.b false))),[]⟩]) (.seq (.reg [⟨some ⟨.a,
 .h⟩,none,.mkf 102 [.t ⟨.a,.c⟩],[]⟩,⟨some ⟨.a,.f⟩,none,.mv (.t ⟨.a,.h⟩),[]⟩]) (.seq (.blk 0 (.seq (.reg [⟨some ⟨.b,.d⟩,none,.ld 5 true (.t ⟨.a,.d⟩),[]⟩,⟨some ⟨.b,.e⟩,none,.call 94
 [.t ⟨.b,.d⟩],[]⟩,⟨some ⟨.b,.c⟩,none,.mv (.t ⟨.b,.e⟩),[]⟩]) (.cond (.t ⟨.b,.c⟩) (.reg [⟨some ⟨.b,.f⟩,none,.ld 1 false (.t ⟨.a,.c⟩),[]⟩,⟨some ⟨.b,.g⟩,none,.fa 2 (.t ⟨.a,.d⟩),[]⟩,
 ⟨some ⟨.b,.h⟩,none,.ld 1 false (.t ⟨.b,.g⟩),[]⟩,⟨some ⟨.b,.i⟩,none,.call 60 [.t ⟨.b,.f⟩,.t ⟨.b,.h⟩],[]⟩]) (.seq (.reg [⟨some ⟨.b,.k⟩,none,.fa 0 (.t ⟨.a,.d⟩),[]⟩,⟨some ⟨.b,.l⟩,
 none,.ld 1 false (.t ⟨.b,.k⟩),[]⟩,⟨some ⟨.b,.m⟩,none,.bin .eql (.t ⟨.b,.l⟩) (.c (.c (.i .i64 (.ofNat 4)))),[]⟩,⟨some ⟨.b,.j⟩,none,.mv (.t ⟨.b,.m⟩),[]⟩]) (.cond (.t ⟨.b,.j⟩) (.reg
 [⟨some ⟨.b,.n⟩,none,.ld 1 false (.t ⟨.a,.c⟩),[]⟩,⟨some ⟨.b,.o⟩,none,.ld 5 true (.t ⟨.a,.d⟩),[]⟩,⟨some ⟨.b,.p⟩,none,.call 97 [.t ⟨.b,.n⟩,.t ⟨.b,.o⟩],[]⟩]) (.seq (.reg [⟨some ⟨.c,
 .b⟩,none,.fa 0 (.t ⟨.a,.d⟩),[]⟩,⟨some ⟨.c,.c⟩,none,.ld 1 false (.t ⟨.c,.b⟩),[]⟩,⟨some ⟨.c,.d⟩,none,.bin .eql (.t ⟨.c,.c⟩) (.c (.c (.i .i64 (.ofNat 5)))),[]⟩,⟨some ⟨.c,.e⟩,none,.mv
 (.t ⟨.c,.d⟩),[]⟩,⟨some ⟨.c,.f⟩,some (⟨.c,.e⟩,false),.fa 0 (.t ⟨.a,.d⟩),[]⟩,⟨some ⟨.c,.g⟩,some (⟨.c,.e⟩,false),.ld 1 false (.t ⟨.c,.f⟩),[]⟩,⟨some ⟨.c,.h⟩,some (⟨.c,.e⟩,false),
 .bin .eql (.t ⟨.c,.g⟩) (.c (.c (.i .i64 (.ofNat 6)))),[]⟩,⟨some ⟨.c,.i⟩,none,.pk (.t ⟨.c,.e⟩) (.c (.c (.b true))) (.t ⟨.c,.h⟩),[]⟩,⟨some ⟨.c,.a⟩,none,.mv (.t ⟨.c,.i⟩),[]⟩]) (.cond (.t
 ⟨.c,.a⟩) .skip (.seq (.reg [⟨some ⟨.c,.k⟩,none,.ld 5 true (.t ⟨.a,.d⟩),[]⟩,⟨some ⟨.c,.l⟩,none,.bsl 9 1 1 [.s []] [(0,(1,.c (.c (.s [99,97,112,116,105,111,110]))))],[]⟩,⟨some ⟨.c,
 .m⟩,none,.call 95 [.t ⟨.c,.k⟩,.t ⟨.c,.l⟩],[]⟩,⟨some ⟨.c,.j⟩,none,.mv (.t ⟨.c,.m⟩),[]⟩]) (.cond (.t ⟨.c,.j⟩) (.seq (.reg [⟨some ⟨.c,.o⟩,none,.callv (.t ⟨.a,.f⟩) [],[]⟩]) (.seq (.reg
 [⟨some ⟨.c,.p⟩,none,.ld 1 false (.t ⟨.a,.c⟩),[]⟩,⟨some ⟨.d,.a⟩,none,.nc (.t ⟨.c,.p⟩),[]⟩,⟨some ⟨.d,.b⟩,none,.fa 4 (.t ⟨.d,.a⟩),[]⟩,⟨some ⟨.d,.c⟩,none,.ld 1 false (.t ⟨.d,.b⟩),
 []⟩,⟨some ⟨.d,.d⟩,none,.call 104 [.t ⟨.d,.c⟩],[]⟩]) (.seq (.reg [⟨some ⟨.d,.e⟩,none,.ld 1 false (.t ⟨.a,.c⟩),[]⟩,⟨some ⟨.d,.f⟩,none,.fa 1 (.t ⟨.a,.d⟩),[]⟩,⟨some ⟨.d,.g⟩,none,.ld
 1 false (.t ⟨.d,.f⟩),[]⟩,⟨some ⟨.d,.h⟩,none,.fa 3 (.t ⟨.a,.d⟩),[]⟩,⟨some ⟨.d,.i⟩,none,.ld 1 false (.t ⟨.d,.h⟩),[]⟩,⟨some ⟨.d,.j⟩,none,.call 96 [.t ⟨.d,.e⟩,.t ⟨.d,.g⟩,.t ⟨.d,
 .i⟩],[]⟩]) (.reg [⟨some ⟨.d,.k⟩,none,.ld 1 false (.t ⟨.a,.c⟩),[]⟩,⟨some ⟨.d,.l⟩,none,.nc (.t ⟨.d,.k⟩),[]⟩,⟨some ⟨.d,.m⟩,none,.fa 5 (.t ⟨.d,.l⟩),[]⟩,⟨none,none,.st 1 (.t ⟨.d,.m⟩)
 (.c (.c (.i .i64 (.ofNat 8)))),[]⟩])))) (.seq (.reg [⟨some ⟨.d,.o⟩,none,.ld 5 true (.t ⟨.a,.d⟩),[]⟩,⟨some ⟨.d,.p⟩,none,.bsl 9 1 1 [.s []] [(0,(1,.c (.c (.s [99,111,108,103,114,111,
 117,112]))))],[]⟩,⟨some ⟨.e,.a⟩,none,.call 95 [.t ⟨.d,.o⟩,.t ⟨.d,.p⟩],[]⟩,⟨some ⟨.d,.n⟩,none,.mv (.t ⟨.e,.a⟩),[]⟩]) (.cond (.t ⟨.d,.n⟩) (.seq (.reg [⟨some ⟨.e,.c⟩,none,.callv (.t
 ⟨.a,.f⟩) [],[]⟩]) (.seq (.reg [⟨some ⟨.e,.d⟩,none,.ld 1 false (.t ⟨.a,.c⟩),[]⟩,⟨some ⟨.e,.e⟩,none,.fa 1 (.t ⟨.a,.d⟩),[]⟩,⟨some ⟨.e,.f⟩,none,.ld 1 false (.t ⟨.e,.e⟩),[]⟩,⟨some ⟨.e,
 .g⟩,none,.fa 3 (.t ⟨.a,.d⟩),[]⟩,⟨some ⟨.e,.h⟩,none,.ld 1 false (.t ⟨.e,.g⟩),[]⟩,⟨some ⟨.e,.i⟩,none,.call 96 [.t ⟨.e,.d⟩,.t ⟨.e,.f⟩,.t ⟨.e,.h⟩],[]⟩]) (.reg [⟨some ⟨.e,.j⟩,none,
 .ld 1 false (.t ⟨.a,.c⟩),[]⟩,⟨some ⟨.e,.k⟩,none,.nc (.t ⟨.e,.j⟩),[]⟩,⟨some ⟨.e,.l⟩,none,.fa 5 (.t ⟨.e,.k⟩),[]⟩,⟨none,none,.st 1 (.t ⟨.e,.l⟩) (.c (.c (.i .i64 (.ofNat 9)))),[]⟩])))
 (.seq (.reg [⟨some ⟨.e,.n⟩,none,.ld 5 true (.t ⟨.a,.d⟩),[]⟩,⟨some ⟨.e,.o⟩,none,.bsl 9 1 1 [.s []] [(0,(1,.c (.c (.s [99,111,108]))))],[]⟩,⟨some ⟨.e,.p⟩,none,.call 95 [.t ⟨.e,.n⟩,
 .t ⟨.e,.o⟩],[]⟩,⟨some ⟨.e,.m⟩,none,.mv (.t ⟨.e,.p⟩),[]⟩]) (.cond (.t ⟨.e,.m⟩) (.seq (.reg [⟨some ⟨.f,.b⟩,none,.callv (.t ⟨.a,.f⟩) [],[]⟩]) (.seq (.reg [⟨some ⟨.f,.c⟩,none,.ld 1 false
 (.t ⟨.a,.c⟩),[]⟩,⟨some ⟨.f,.d⟩,none,.call 96 [.t ⟨.f,.c⟩,.c (.c (.s [99,111,108,103,114,111,117,112])),.c (.c (.sl none 0 0 0))],[]⟩]) (.seq (.reg [⟨some ⟨.f,.e⟩,none,.ld 1 false
 (.t ⟨.a,.c⟩),[]⟩,⟨some ⟨.f,.f⟩,none,.nc (.t ⟨.f,.e⟩),[]⟩,⟨some ⟨.f,.g⟩,none,.fa 5 (.t ⟨.f,.f⟩),[]⟩,⟨none,none,.st 1 (.t ⟨.f,.g⟩) (.c (.c (.i .i64 (.ofNat 9)))),[]⟩]) (.seq (.reg
 [⟨some ⟨.a,.e⟩,none,.mv (.c (.c (.b true))),[]⟩]) .ret)))) (.seq (.dreg [⟨some ⟨.f,.i⟩,none,.ld 5 true (.t ⟨.a,.d⟩),[]⟩,⟨some ⟨.f,.j⟩,none,.call 105 [],[⟨some ⟨.f,.i⟩,none,.ld 5 true
 (.t ⟨.a,.d⟩)⟩]⟩,⟨some ⟨.f,.k⟩,none,.call 95 [.t ⟨.f,.i⟩,.t ⟨.f,.j⟩],[]⟩,⟨some ⟨.f,.h⟩,none,.mv (.t ⟨.f,.k⟩),[]⟩]) (.cond (.t ⟨.f,.h⟩) (.seq (.reg [⟨some ⟨.f,.m⟩,none,.callv (.t
 ⟨.a,.f⟩) [],[]⟩]) (.seq (.reg [⟨some ⟨.f,.n⟩,none,.ld 1 false (.t ⟨.a,.c⟩),[]⟩,⟨some ⟨.f,.o⟩,none,.fa 1 (.t ⟨.a,.d⟩),[]⟩,⟨some ⟨.f,.p⟩,none,.ld 1 false (.t ⟨.f,.o⟩),[]⟩,⟨some ⟨.g,
 .a⟩,none,.fa 3 (.t ⟨.a,.d⟩),[]⟩,⟨some ⟨.g,.b⟩,none,.ld 1 false (.t ⟨.g,.a⟩),[]⟩,⟨some ⟨.g,.c⟩,none,.call 96 [.t ⟨.f,.n⟩,.t ⟨.f,.p⟩,.t ⟨.g,.b⟩],[]⟩]) (.reg [⟨some ⟨.g,.d⟩,none,
 .ld 1 false (.t ⟨.a,.c⟩),[]⟩,⟨some ⟨.g,.e⟩,none,.nc (.t ⟨.g,.d⟩),[]⟩,⟨some ⟨.g,.f⟩,none,.fa 5 (.t ⟨.g,.e⟩),[]⟩,⟨none,none,.st 1 (.t ⟨.g,.f⟩) (.c (.c (.i .i64 (.ofNat 10)))),[]⟩])))
 (.seq (.reg [⟨some ⟨.g,.h⟩,none,.ld 5 true (.t ⟨.a,.d⟩),[]⟩,⟨some ⟨.g,.i⟩,none,.bsl 9 1 3 [.s [],.s [],.s []] [(0,(1,.c (.c (.s [116,100])))),(1,(1,.c (.c (.s [116,104])))),(2,(1,
 .c (.c (.s [116,114]))))],[]⟩,⟨some ⟨.g,.j⟩,none,.call 95 [.t ⟨.g,.h⟩,.t ⟨.g,.i⟩],[]⟩,⟨some ⟨.g,.g⟩,none,.mv (.t ⟨.g,.j⟩),[]⟩]) (.cond (.t ⟨.g,.g⟩) (.seq (.reg [⟨some ⟨.g,.l⟩,none,
 .callv (.t ⟨.a,.f⟩) [],[]⟩]) (.seq (.reg [⟨some ⟨.g,.m⟩,none,.ld 1 false (.t ⟨.a,.c⟩),[]⟩,⟨some ⟨.g,.n⟩,none,.call 96 [.t ⟨.g,.m⟩,.c (.c (.s [116,98,111,100,121])),.c (.c (.sl none
 0 0 0))],[]⟩]) (.seq (.reg [⟨some ⟨.g,.o⟩,none,.ld 1 false (.t ⟨.a,.c⟩),[]⟩,⟨some ⟨.g,.p⟩,none,.nc (.t ⟨.g,.o⟩),[]⟩,⟨some ⟨.h,.a⟩,none,.fa 5 (.t ⟨.g,.p⟩),[]⟩,⟨none,none,.st 1 (.t
 ⟨.h,.a⟩) (.c (.c (.i .i64 (.ofNat 10)))),[]⟩]) (.seq (.reg [⟨some ⟨.a,.e⟩,none,.mv (.c (.c (.b true))),[]⟩]) .ret)))) (.seq (.seq (.reg [⟨some ⟨.h,.c⟩,none,.ld 5 true (.t ⟨.a,.d⟩),[]⟩,
 ⟨some ⟨.h,.d⟩,none,.bsl 9 1 1 [.s []] [(0,(1,.c (.c (.s [116,97,98,108,101]))))],[]⟩,⟨some ⟨.h,.e⟩,none,.call 95 [.t ⟨.h,.c⟩,.t ⟨.h,.d⟩],[]⟩,⟨some ⟨.h,.b⟩,none,.mv (.t ⟨.h,
 .e⟩),[]⟩]) (.cond (.t ⟨.h,.b⟩) .skip (.reg [⟨some ⟨.h,.f⟩,none,.ld 5 true (.t ⟨.a,.d⟩),[]⟩,⟨some ⟨.h,.g⟩,none,.bsl 9 1 1 [.s []] [(0,(1,.c (.c (.s [116,97,98,108,101]))))],[]⟩,
 ⟨some ⟨.h,.h⟩,none,.call 61 [.t ⟨.h,.f⟩,.t ⟨.h,.g⟩],[]⟩,⟨some ⟨.h,.b⟩,none,.mv (.t ⟨.h,.h⟩),[]⟩]))) (.cond (.t ⟨.h,.b⟩) (.seq (.seq (.reg [⟨some ⟨.h,.i⟩,none,.ld 1 false (.t ⟨.a,
 .c⟩),[]⟩,⟨some ⟨.h,.j⟩,none,.call 106 [.t ⟨.h,.i⟩,.c (.c (.s [116,97,98,108,101])),.c (.c (.i .i64 (.ofNat 4)))],[]⟩,⟨some ⟨.h,.k⟩,none,.un .not (.t ⟨.h,.j⟩),[]⟩]) (.cond (.t ⟨.h,
 .k⟩) (.seq (.reg [⟨some ⟨.a,.e⟩,none,.mv (.c (.c (.b false))),[]⟩]) .ret) .skip)) (.seq (.reg [⟨some ⟨.h,.l⟩,none,.ld 1 false (.t ⟨.a,.c⟩),[]⟩,⟨some ⟨.h,.m⟩,none,.bsl 9 1 1 [.s []] [(0,
 (1,.c (.c (.s [116,97,98,108,101]))))],[]⟩,⟨some ⟨.h,.n⟩,none,.call 99 [.t ⟨.h,.l⟩,.t ⟨.h,.m⟩],[]⟩]) (.seq (.reg [⟨some ⟨.h,.o⟩,none,.ld 1 false (.t ⟨.a,.c⟩),[]⟩,⟨some ⟨.h,.p⟩,
 none,.call 107 [.t ⟨.h,.o⟩],[]⟩]) (.seq (.reg [⟨some ⟨.i,.a⟩,none,.fa 0 (.t ⟨.a,.d⟩),[]⟩,⟨some ⟨.i,.b⟩,none,.ld 1 false (.t ⟨.i,.a⟩),[]⟩,⟨some ⟨.i,.c⟩,none,.bin .eql (.t ⟨.i,.b⟩)
 (.c (.c (.i .i64 (.ofNat 1)))),[]⟩,⟨some ⟨.a,.e⟩,none,.mv (.t ⟨.i,.c⟩),[]⟩]) .ret)))) (.seq (.reg [⟨some ⟨.i,.e⟩,none,.ld 5 true (.t ⟨.a,.d⟩),[]⟩,⟨some ⟨.i,.f⟩,none,.bsl 9 1 11 [.s
 [],.s [],.s [],.s [],.s [],.s [],.s [],.s [],.s [],.s [],.s []] [(0,(1,.c (.c (.s [98,111,100,121])))),(1,(1,.c (.c (.s [99,97,112,116,105,111,110])))),(2,(1,.c (.c (.s
 [99,111,108])))),(3,(1,.c (.c (.s [99,111,108,103,114,111,117,112])))),(4,(1,.c (.c (.s [104,116,109,108])))),(5,(1,.c (.c (.s [116,98,111,100,121])))),(6,(1,.c (.c (.s
 [116,100])))),(7,(1,.c (.c (.s [116,102,111,111,116])))),(8,(1,.c (.c (.s [116,104])))),(9,(1,.c (.c (.s [116,104,101,97,100])))),(10,(1,.c (.c (.s [116,114]))))],[]⟩,⟨some
 ⟨.i,.g⟩,none,.call 61 [.t ⟨.i,.e⟩,.t ⟨.i,.f⟩],[]⟩,⟨some ⟨.i,.d⟩,none,.mv (.t ⟨.i,.g⟩),[]⟩]) (.cond (.t ⟨.i,.d⟩) .skip (.seq (.reg [⟨some ⟨.i,.i⟩,none,.ld 5 true (.t ⟨.a,.d⟩),[]⟩,
 ⟨some ⟨.i,.j⟩,none,.bsl 9 1 2 [.s [],.s []] [(0,(1,.c (.c (.s [115,116,121,108,101])))),(1,(1,.c (.c (.s [115,99,114,105,112,116]))))],[]⟩,⟨some ⟨.i,.k⟩,none,.call 95 [.t ⟨.i,
 .i⟩,.t ⟨.i,.j⟩],[]⟩,⟨some ⟨.i,.h⟩,none,.mv (.t ⟨.i,.k⟩),[]⟩]) (.cond (.t ⟨.i,.h⟩) (.seq (.reg [⟨some ⟨.i,.l⟩,none,.ld 1 false (.t ⟨.a,.c⟩),[]⟩,⟨some ⟨.i,.m⟩,none,.ld 5 true (.t
 ⟨.a,.d⟩),[]⟩,⟨some ⟨.i,.n⟩,none,.call 66 [.t ⟨.i,.l⟩,.t ⟨.i,.m⟩],[]⟩,⟨some ⟨.a,.e⟩,none,.mv (.t ⟨.i,.n⟩),[]⟩]) .ret) (.seq (.reg [⟨some ⟨.a,.i⟩,none,.ld 1 false (.t ⟨.a,.c⟩),[]⟩,
 ⟨some ⟨.a,.j⟩,none,.nc (.t ⟨.a,.i⟩),[]⟩,⟨some ⟨.a,.k⟩,none,.fa 6 (.t ⟨.a,.j⟩),[]⟩,⟨none,none,.st 1 (.t ⟨.a,.k⟩) (.c (.c (.b true))),[]⟩]) (.seq (.reg [⟨some ⟨.a,.l⟩,none,.ld 1
 false (.t ⟨.a,.c⟩),[]⟩,⟨some ⟨.a,.m⟩,none,.ld 5 true (.t ⟨.a,.d⟩),[]⟩,⟨some ⟨.a,.n⟩,none,.call 75 [.t ⟨.a,.l⟩,.t ⟨.a,.m⟩],[]⟩,⟨some ⟨.a,.g⟩,none,.mv (.t ⟨.a,.n⟩),[]⟩]) (.seq
 (.reg [⟨some ⟨.a,.o⟩,none,.ld 1 false (.t ⟨.a,.c⟩),[]⟩,⟨some ⟨.a,.p⟩,none,.nc (.t ⟨.a,.o⟩),[]⟩,⟨some ⟨.b,.a⟩,none,.fa 6 (.t ⟨.a,.p⟩),[]⟩,⟨none,none,.st 1 (.t ⟨.b,.a⟩) (.c (.c (.b
 false))),[]⟩]) (.seq (.reg [⟨some ⟨.a,.e⟩,none,.mv (.t ⟨.a,.g⟩),[]⟩]) .ret))))))))))))))))))))))))))) (.seq (.reg [⟨some ⟨.a,.e⟩,none,.mv (.c (.c (.b false))),[]⟩]) .ret))),[(⟨.a,.e⟩,
 none)]⟩
theorem ok69 : FnR Tryz.prog 0 69 cf69 := fnC_ok [17,45,65,80,91,106] Tryz.func69 (by kernel_rfl) (by kernel_rfl)
def cf72 : CF := ⟨79,2,.seq (.reg [⟨some ⟨.a,.c⟩,none,.new 52 (.t ⟨.a,.a⟩),[]⟩,⟨some ⟨.a,.d⟩,none,.new 51 (.t ⟨.a,.b⟩),[]⟩,⟨some ⟨.a,.e⟩,none,.mv (.c (.c (.b false))),[]⟩]) (.seq (.reg [⟨some ⟨.a,
 .g⟩,none,.mkf 111 [.t ⟨.a,.c⟩],[]⟩,⟨some ⟨.a,.f⟩,none,.mv (.t ⟨.a,.g⟩),[]⟩]) (.seq (.blk 0 (.seq (.reg [⟨some ⟨.a,.l⟩,none,.ld 5 true (.t ⟨.a,.d⟩),[]⟩,⟨some ⟨.a,.m⟩,none,.bsl 9 1 1
 [.s []] [(0,(1,.c (.c (.s [116,114]))))],[]⟩,⟨some ⟨.a,.n⟩,none,.call 95 [.t ⟨.a,.l⟩,.t ⟨.a,.m⟩],[]⟩,⟨some ⟨.a,.k⟩,none,.mv (.t ⟨.a,.n⟩),[]⟩]) (.cond (.t ⟨.a,.k⟩) (.seq (.reg
 [⟨some ⟨.a,.p⟩,none,.callv (.t ⟨.a,.f⟩) [],[]⟩]) (.seq (.reg [⟨some ⟨.b,.a⟩,none,.ld 1 false (.t ⟨.a,.c⟩),[]⟩,⟨some ⟨.b,.b⟩,none,.fa 1 (.t ⟨.a,.d⟩),[]⟩,⟨some ⟨.b,.c⟩,none,.ld 1
 false (.t ⟨.b,.b⟩),[]⟩,⟨some ⟨.b,.d⟩,none,.fa 3 (.t ⟨.a,.d⟩),[]⟩,⟨some ⟨.b,.e⟩,none,.ld 1 false (.t ⟨.b,.d⟩),[]⟩,⟨some ⟨.b,.f⟩,none,.call 96 [.t ⟨.b,.a⟩,.t ⟨.b,.c⟩,.t ⟨.b,.e⟩],
 []⟩]) (.reg [⟨some ⟨.b,.g⟩,none,.ld 1 false (.t ⟨.a,.c⟩),[]⟩,⟨some ⟨.b,.h⟩,none,.nc (.t ⟨.b,.g⟩),[]⟩,⟨some ⟨.b,.i⟩,none,.fa 5 (.t ⟨.b,.h⟩),[]⟩,⟨none,none,.st 1 (.t ⟨.b,.i⟩) (.c
 (.c (.i .i64 (.ofNat 11)))),[]⟩]))) (.seq (.reg [⟨some ⟨.b,.k⟩,none,.ld 5 true (.t ⟨.a,.d⟩),[]⟩,⟨some ⟨.b,.l⟩,none,.bsl 9 1 2 [.s [],.s []] [(0,(1,.c (.c (.s [116,100])))),(1,(1,.c
 (.c (.s [116,104]))))],[]⟩,⟨some ⟨.b,.m⟩,none,.call 95 [.t ⟨.b,.k⟩,.t ⟨.b,.l⟩],[]⟩,⟨some ⟨.b,.j⟩,none,.mv (.t ⟨.b,.m⟩),[]⟩]) (.cond (.t ⟨.b,.j⟩) (.seq (.reg [⟨some ⟨.b,.o⟩,none,
 .callv (.t ⟨.a,.f⟩) [],[]⟩]) (.seq (.reg [⟨some ⟨.b,.p⟩,none,.ld 1 false (.t ⟨.a,.c⟩),[]⟩,⟨some ⟨.c,.a⟩,none,.call 96 [.t ⟨.b,.p⟩,.c (.c (.s [116,114])),.c (.c (.sl none 0 0 0))],
 []⟩]) (.seq (.reg [⟨some ⟨.c,.b⟩,none,.ld 1 false (.t ⟨.a,.c⟩),[]⟩,⟨some ⟨.c,.c⟩,none,.nc (.t ⟨.c,.b⟩),[]⟩,⟨some ⟨.c,.d⟩,none,.fa 5 (.t ⟨.c,.c⟩),[]⟩,⟨none,none,.st 1 (.t ⟨.c,.d⟩)
 (.c (.c (.i .i64 (.ofNat 11)))),[]⟩]) (.seq (.reg [⟨some ⟨.a,.e⟩,none,.mv (.c (.c (.b true))),[]⟩]) .ret)))) (.seq (.dreg [⟨some ⟨.c,.f⟩,none,.ld 5 true (.t ⟨.a,.d⟩),[]⟩,⟨some ⟨.c,.g⟩,
 none,.call 105 [],[⟨some ⟨.c,.f⟩,none,.ld 5 true (.t ⟨.a,.d⟩)⟩]⟩,⟨some ⟨.c,.h⟩,none,.call 61 [.t ⟨.c,.f⟩,.t ⟨.c,.g⟩],[]⟩,⟨some ⟨.c,.e⟩,none,.mv (.t ⟨.c,.h⟩),[]⟩]) (.cond (.t ⟨.c,
 .e⟩) (.seq (.reg [⟨some ⟨.c,.i⟩,none,.ld 1 false (.t ⟨.a,.c⟩),[]⟩,⟨some ⟨.c,.j⟩,none,.fa 1 (.t ⟨.a,.d⟩),[]⟩,⟨some ⟨.c,.k⟩,none,.ld 1 false (.t ⟨.c,.j⟩),[]⟩,⟨some ⟨.c,.l⟩,none,
 .call 106 [.t ⟨.c,.i⟩,.t ⟨.c,.k⟩,.c (.c (.i .i64 (.ofNat 4)))],[]⟩]) (.cond (.t ⟨.c,.l⟩) (.seq (.reg [⟨some ⟨.c,.n⟩,none,.callv (.t ⟨.a,.f⟩) [],[]⟩]) (.seq (.reg [⟨some ⟨.c,.o⟩,none,.ld
 1 false (.t ⟨.a,.c⟩),[]⟩,⟨some ⟨.c,.p⟩,none,.call 62 [.t ⟨.c,.o⟩,.c (.c (.i .i64 (.ofNat 1)))],[]⟩]) (.reg [⟨some ⟨.d,.a⟩,none,.ld 1 false (.t ⟨.a,.c⟩),[]⟩,⟨some ⟨.d,.b⟩,none,.nc
 (.t ⟨.d,.a⟩),[]⟩,⟨some ⟨.d,.c⟩,none,.fa 5 (.t ⟨.d,.b⟩),[]⟩,⟨none,none,.st 1 (.t ⟨.d,.c⟩) (.c (.c (.i .i64 (.ofNat 7)))),[]⟩]))) .skip)) (.seq (.seq (.reg [⟨some ⟨.d,.e⟩,none,.ld 5
 true (.t ⟨.a,.d⟩),[]⟩,⟨some ⟨.d,.f⟩,none,.bsl 9 1 6 [.s [],.s [],.s [],.s [],.s [],.s []] [(0,(1,.c (.c (.s [99,97,112,116,105,111,110])))),(1,(1,.c (.c (.s [99,111,108])))),
 (2,(1,.c (.c (.s [99,111,108,103,114,111,117,112])))),(3,(1,.c (.c (.s [116,98,111,100,121])))),(4,(1,.c (.c (.s [116,102,111,111,116])))),(5,(1,.c (.c (.s [116,104,101,
 97,100]))))],[]⟩,⟨some ⟨.d,.g⟩,none,.call 95 [.t ⟨.d,.e⟩,.t ⟨.d,.f⟩],[]⟩,⟨some ⟨.d,.d⟩,none,.mv (.t ⟨.d,.g⟩),[]⟩]) (.cond (.t ⟨.d,.d⟩) .skip (.reg [⟨some ⟨.d,.h⟩,none,.ld 5 true
 (.t ⟨.a,.d⟩),[]⟩,⟨some ⟨.d,.i⟩,none,.bsl 9 1 1 [.s []] [(0,(1,.c (.c (.s [116,97,98,108,101]))))],[]⟩,⟨some ⟨.d,.j⟩,none,.call 61 [.t ⟨.d,.h⟩,.t ⟨.d,.i⟩],[]⟩,⟨some ⟨.d,.d⟩,
 none,.mv (.t ⟨.d,.j⟩),[]⟩]))) (.cond (.t ⟨.d,.d⟩) (.seq (.reg [⟨some ⟨.d,.k⟩,none,.ld 1 false (.t ⟨.a,.c⟩),[]⟩,⟨some ⟨.d,.l⟩,none,.call 106 [.t ⟨.d,.k⟩,.c (.c (.s [116,98,111,100,
 121])),.c (.c (.i .i64 (.ofNat 4)))],[]⟩,⟨some ⟨.d,.m⟩,none,.mv (.t ⟨.d,.l⟩),[]⟩,⟨some ⟨.d,.n⟩,some (⟨.d,.m⟩,false),.ld 1 false (.t ⟨.a,.c⟩),[]⟩,⟨some ⟨.d,.o⟩,some (⟨.d,.m⟩,
 false),.call 106 [.t ⟨.d,.n⟩,.c (.c (.s [116,102,111,111,116])),.c (.c (.i .i64 (.ofNat 4)))],[]⟩,⟨some ⟨.d,.p⟩,none,.pk (.t ⟨.d,.m⟩) (.c (.c (.b true))) (.t ⟨.d,.o⟩),[]⟩,⟨some ⟨.e,
 .a⟩,none,.mv (.t ⟨.d,.p⟩),[]⟩,⟨some ⟨.e,.b⟩,some (⟨.e,.a⟩,false),.ld 1 false (.t ⟨.a,.c⟩),[]⟩,⟨some ⟨.e,.c⟩,some (⟨.e,.a⟩,false),.call 106 [.t ⟨.e,.b⟩,.c (.c (.s [116,104,101,
 97,100])),.c (.c (.i .i64 (.ofNat 4)))],[]⟩,⟨some ⟨.e,.d⟩,none,.pk (.t ⟨.e,.a⟩) (.c (.c (.b true))) (.t ⟨.e,.c⟩),[]⟩]) (.cond (.t ⟨.e,.d⟩) (.seq (.reg [⟨some ⟨.e,.f⟩,none,.callv (.t
 ⟨.a,.f⟩) [],[]⟩]) (.seq (.reg [⟨some ⟨.e,.g⟩,none,.ld 1 false (.t ⟨.a,.c⟩),[]⟩,⟨some ⟨.e,.h⟩,none,.call 62 [.t ⟨.e,.g⟩,.c (.c (.i .i64 (.ofNat 1)))],[]⟩]) (.seq (.reg [⟨some ⟨.e,.i⟩,
 none,.ld 1 false (.t ⟨.a,.c⟩),[]⟩,⟨some ⟨.e,.j⟩,none,.nc (.t ⟨.e,.i⟩),[]⟩,⟨some ⟨.e,.k⟩,none,.fa 5 (.t ⟨.e,.j⟩),[]⟩,⟨none,none,.st 1 (.t ⟨.e,.k⟩) (.c (.c (.i .i64 (.ofNat 7)))),
 []⟩]) (.seq (.reg [⟨some ⟨.a,.e⟩,none,.mv (.c (.c (.b true))),[]⟩]) .ret)))) .skip)) (.seq (.reg [⟨some ⟨.e,.m⟩,none,.ld 5 true (.t ⟨.a,.d⟩),[]⟩,⟨some ⟨.e,.n⟩,none,.bsl 9 1 8 [.s [],.s
 [],.s [],.s [],.s [],.s [],.s [],.s []] [(0,(1,.c (.c (.s [98,111,100,121])))),(1,(1,.c (.c (.s [99,97,112,116,105,111,110])))),(2,(1,.c (.c (.s [99,111,108])))),(3,(1,.c
 (.c (.s [99,111,108,103,114,111,117,112])))),(4,(1,.c (.c (.s [104,116,109,108])))),(5,(1,.c (.c (.s [116,100])))),(6,(1,.c (.c (.s [116,104])))),(7,(1,.c (.c (.s [116,
 114]))))],[]⟩,⟨some ⟨.e,.o⟩,none,.call 61 [.t ⟨.e,.m⟩,.t ⟨.e,.n⟩],[]⟩,⟨some ⟨.e,.l⟩,none,.mv (.t ⟨.e,.o⟩),[]⟩]) (.cond (.t ⟨.e,.l⟩) .skip (.seq (.reg [⟨some ⟨.a,.h⟩,none,.ld 1
 false (.t ⟨.a,.c⟩),[]⟩,⟨some ⟨.a,.i⟩,none,.ld 5 true (.t ⟨.a,.d⟩),[]⟩,⟨some ⟨.a,.j⟩,none,.call 69 [.t ⟨.a,.h⟩,.t ⟨.a,.i⟩],[]⟩,⟨some ⟨.a,.e⟩,none,.mv (.t ⟨.a,.j⟩),[]⟩])
 .ret)))))))))))) (.seq (.reg [⟨some ⟨.a,.e⟩,none,.mv (.c (.c (.b false))),[]⟩]) .ret))),[(⟨.a,.e⟩,none)]⟩
theorem ok72 : FnR Tryz.prog 0 72 cf72 := fnC_ok [14,29,44,68] Tryz.func72 (by kernel_rfl) (by kernel_rfl)
def cf73 : CF := ⟨64,2,.seq (.reg [⟨some ⟨.a,.c⟩,none,.new 52 (.t ⟨.a,.a⟩),[]⟩,⟨some ⟨.a,.d⟩,none,.new 51 (.t ⟨.a,.b⟩),[]⟩,⟨some ⟨.a,.e⟩,none,.mv (.c (.c (.b false))),[]⟩]) (.seq (.reg [⟨some ⟨.a,
 .g⟩,none,.mkf 112 [.t ⟨.a,.c⟩],[]⟩,⟨some ⟨.a,.f⟩,none,.mv (.t ⟨.a,.g⟩),[]⟩]) (.seq (.blk 0 (.seq (.reg [⟨some ⟨.a,.l⟩,none,.ld 5 true (.t ⟨.a,.d⟩),[]⟩,⟨some ⟨.a,.m⟩,none,.bsl 9 1 2
 [.s [],.s []] [(0,(1,.c (.c (.s [116,100])))),(1,(1,.c (.c (.s [116,104]))))],[]⟩,⟨some ⟨.a,.n⟩,none,.call 95 [.t ⟨.a,.l⟩,.t ⟨.a,.m⟩],[]⟩,⟨some ⟨.a,.k⟩,none,.mv (.t ⟨.a,.n⟩),
 []⟩]) (.cond (.t ⟨.a,.k⟩) (.seq (.reg [⟨some ⟨.a,.o⟩,none,.ld 1 false (.t ⟨.a,.c⟩),[]⟩,⟨some ⟨.a,.p⟩,none,.bsl 9 1 2 [.s [],.s []] [(0,(1,.c (.c (.s [116,114])))),(1,(1,.c (.c (.s
 [104,116,109,108]))))],[]⟩,⟨some ⟨.b,.a⟩,none,.call 103 [.t ⟨.a,.o⟩,.t ⟨.a,.p⟩],[]⟩]) (.seq (.reg [⟨some ⟨.b,.b⟩,none,.ld 1 false (.t ⟨.a,.c⟩),[]⟩,⟨some ⟨.b,.c⟩,none,.fa 1 (.t
 ⟨.a,.d⟩),[]⟩,⟨some ⟨.b,.d⟩,none,.ld 1 false (.t ⟨.b,.c⟩),[]⟩,⟨some ⟨.b,.e⟩,none,.fa 3 (.t ⟨.a,.d⟩),[]⟩,⟨some ⟨.b,.f⟩,none,.ld 1 false (.t ⟨.b,.e⟩),[]⟩,⟨some ⟨.b,.g⟩,none,.call
 96 [.t ⟨.b,.b⟩,.t ⟨.b,.d⟩,.t ⟨.b,.f⟩],[]⟩]) (.seq (.reg [⟨some ⟨.b,.h⟩,none,.ld 1 false (.t ⟨.a,.c⟩),[]⟩,⟨some ⟨.b,.i⟩,none,.nc (.t ⟨.b,.h⟩),[]⟩,⟨some ⟨.b,.j⟩,none,.fa 4 (.t ⟨.b,
 .i⟩),[]⟩,⟨some ⟨.b,.k⟩,none,.ld 1 false (.t ⟨.b,.j⟩),[]⟩,⟨some ⟨.b,.l⟩,none,.call 104 [.t ⟨.b,.k⟩],[]⟩]) (.reg [⟨some ⟨.b,.m⟩,none,.ld 1 false (.t ⟨.a,.c⟩),[]⟩,⟨some ⟨.b,.n⟩,
 none,.nc (.t ⟨.b,.m⟩),[]⟩,⟨some ⟨.b,.o⟩,none,.fa 5 (.t ⟨.b,.n⟩),[]⟩,⟨none,none,.st 1 (.t ⟨.b,.o⟩) (.c (.c (.i .i64 (.ofNat 12)))),[]⟩])))) (.seq (.seq (.reg [⟨some ⟨.c,.a⟩,none,.ld 5
 true (.t ⟨.a,.d⟩),[]⟩,⟨some ⟨.c,.b⟩,none,.bsl 9 1 2 [.s [],.s []] [(0,(1,.c (.c (.s [116,114])))),(1,(1,.c (.c (.s [116,97,98,108,101]))))],[]⟩,⟨some ⟨.c,.c⟩,none,.call 61 [.t
 ⟨.c,.a⟩,.t ⟨.c,.b⟩],[]⟩,⟨some ⟨.b,.p⟩,none,.mv (.t ⟨.c,.c⟩),[]⟩]) (.cond (.t ⟨.b,.p⟩) .skip (.reg [⟨some ⟨.c,.d⟩,none,.ld 5 true (.t ⟨.a,.d⟩),[]⟩,⟨some ⟨.c,.e⟩,none,.bsl 9 1 7 [.s
 [],.s [],.s [],.s [],.s [],.s [],.s []] [(0,(1,.c (.c (.s [99,97,112,116,105,111,110])))),(1,(1,.c (.c (.s [99,111,108])))),(2,(1,.c (.c (.s [99,111,108,103,114,111,117,
 112])))),(3,(1,.c (.c (.s [116,98,111,100,121])))),(4,(1,.c (.c (.s [116,102,111,111,116])))),(5,(1,.c (.c (.s [116,104,101,97,100])))),(6,(1,.c (.c (.s [116,114]))))],[]⟩,
 ⟨some ⟨.c,.f⟩,none,.call 95 [.t ⟨.c,.d⟩,.t ⟨.c,.e⟩],[]⟩,⟨some ⟨.b,.p⟩,none,.mv (.t ⟨.c,.f⟩),[]⟩]))) (.cond (.t ⟨.b,.p⟩) (.seq (.reg [⟨some ⟨.c,.g⟩,none,.ld 1 false (.t ⟨.a,.c⟩),
 []⟩,⟨some ⟨.c,.h⟩,none,.call 106 [.t ⟨.c,.g⟩,.c (.c (.s [116,114])),.c (.c (.i .i64 (.ofNat 4)))],[]⟩]) (.cond (.t ⟨.c,.h⟩) (.seq (.reg [⟨some ⟨.c,.j⟩,none,.callv (.t ⟨.a,.f⟩) [],[]⟩])
 (.seq (.reg [⟨some ⟨.c,.k⟩,none,.ld 5 true (.t ⟨.a,.d⟩),[]⟩,⟨some ⟨.c,.l⟩,none,.bsl 9 1 1 [.s []] [(0,(1,.c (.c (.s [116,114]))))],[]⟩,⟨some ⟨.c,.m⟩,none,.call 61 [.t ⟨.c,.k⟩,.t
 ⟨.c,.l⟩],[]⟩,⟨some ⟨.c,.n⟩,none,.un .not (.t ⟨.c,.m⟩),[]⟩,⟨some ⟨.a,.e⟩,none,.mv (.t ⟨.c,.n⟩),[]⟩]) .ret)) .skip)) (.seq (.dreg [⟨some ⟨.c,.p⟩,none,.ld 5 true (.t ⟨.a,.d⟩),[]⟩,
 ⟨some ⟨.d,.a⟩,none,.call 105 [],[⟨some ⟨.c,.p⟩,none,.ld 5 true (.t ⟨.a,.d⟩)⟩]⟩,⟨some ⟨.d,.b⟩,none,.call 61 [.t ⟨.c,.p⟩,.t ⟨.d,.a⟩],[]⟩,⟨some ⟨.c,.o⟩,none,.mv (.t ⟨.d,.b⟩),[]⟩])
 (.cond (.t ⟨.c,.o⟩) (.seq (.reg [⟨some ⟨.d,.c⟩,none,.ld 1 false (.t ⟨.a,.c⟩),[]⟩,⟨some ⟨.d,.d⟩,none,.fa 1 (.t ⟨.a,.d⟩),[]⟩,⟨some ⟨.d,.e⟩,none,.ld 1 false (.t ⟨.d,.d⟩),[]⟩,⟨some
 ⟨.d,.f⟩,none,.call 106 [.t ⟨.d,.c⟩,.t ⟨.d,.e⟩,.c (.c (.i .i64 (.ofNat 4)))],[]⟩,⟨some ⟨.d,.g⟩,none,.mv (.t ⟨.d,.f⟩),[]⟩,⟨some ⟨.d,.h⟩,some (⟨.d,.g⟩,true),.ld 1 false (.t ⟨.a,
 .c⟩),[]⟩,⟨some ⟨.d,.i⟩,some (⟨.d,.g⟩,true),.call 106 [.t ⟨.d,.h⟩,.c (.c (.s [116,114])),.c (.c (.i .i64 (.ofNat 4)))],[]⟩,⟨some ⟨.d,.j⟩,none,.pk (.t ⟨.d,.g⟩) (.t ⟨.d,.i⟩) (.c (.c
 (.b false))),[]⟩]) (.cond (.t ⟨.d,.j⟩) (.seq (.reg [⟨some ⟨.d,.l⟩,none,.callv (.t ⟨.a,.f⟩) [],[]⟩]) (.seq (.reg [⟨some ⟨.a,.e⟩,none,.mv (.c (.c (.b true))),[]⟩]) .ret)) .skip)) (.seq (.reg
 [⟨some ⟨.d,.n⟩,none,.ld 5 true (.t ⟨.a,.d⟩),[]⟩,⟨some ⟨.d,.o⟩,none,.bsl 9 1 7 [.s [],.s [],.s [],.s [],.s [],.s [],.s []] [(0,(1,.c (.c (.s [98,111,100,121])))),(1,(1,.c (.c
 (.s [99,97,112,116,105,111,110])))),(2,(1,.c (.c (.s [99,111,108])))),(3,(1,.c (.c (.s [99,111,108,103,114,111,117,112])))),(4,(1,.c (.c (.s [104,116,109,108])))),(5,(1,
 .c (.c (.s [116,100])))),(6,(1,.c (.c (.s [116,104]))))],[]⟩,⟨some ⟨.d,.p⟩,none,.call 61 [.t ⟨.d,.n⟩,.t ⟨.d,.o⟩],[]⟩,⟨some ⟨.d,.m⟩,none,.mv (.t ⟨.d,.p⟩),[]⟩]) (.cond (.t ⟨.d,.m⟩)
 .skip (.seq (.reg [⟨some ⟨.a,.h⟩,none,.ld 1 false (.t ⟨.a,.c⟩),[]⟩,⟨some ⟨.a,.i⟩,none,.ld 5 true (.t ⟨.a,.d⟩),[]⟩,⟨some ⟨.a,.j⟩,none,.call 69 [.t ⟨.a,.h⟩,.t ⟨.a,.i⟩],[]⟩,⟨some
 ⟨.a,.e⟩,none,.mv (.t ⟨.a,.j⟩),[]⟩]) .ret)))))))))) (.seq (.reg [⟨some ⟨.a,.e⟩,none,.mv (.c (.c (.b false))),[]⟩]) .ret))),[(⟨.a,.e⟩,none)]⟩
theorem ok73 : FnR Tryz.prog 0 73 cf73 := fnC_ok [40,58] Tryz.func73 (by kernel_rfl) (by kernel_rfl)
def cf74 : CF := ⟨62,2,.seq (.reg [⟨some ⟨.a,.c⟩,none,.new 52 (.t ⟨.a,.a⟩),[]⟩,⟨some ⟨.a,.d⟩,none,.new 51 (.t ⟨.a,.b⟩),[]⟩,⟨some ⟨.a,.e⟩,none,.mv (.c (.c (.b false))),[]⟩]) (.seq (.reg [⟨some ⟨.a,
 .g⟩,none,.mkf 113 [.t ⟨.a,.c⟩],[]⟩,⟨some ⟨.a,.f⟩,none,.mv (.t ⟨.a,.g⟩),[]⟩]) (.seq (.blk 0 (.seq (.reg [⟨some ⟨.a,.l⟩,none,.ld 5 true (.t ⟨.a,.d⟩),[]⟩,⟨some ⟨.a,.m⟩,none,.bsl 9 1 2
 [.s [],.s []] [(0,(1,.c (.c (.s [116,100])))),(1,(1,.c (.c (.s [116,104]))))],[]⟩,⟨some ⟨.a,.n⟩,none,.call 61 [.t ⟨.a,.l⟩,.t ⟨.a,.m⟩],[]⟩,⟨some ⟨.a,.k⟩,none,.mv (.t ⟨.a,.n⟩),
 []⟩]) (.cond (.t ⟨.a,.k⟩) (.seq (.reg [⟨some ⟨.a,.o⟩,none,.ld 1 false (.t ⟨.a,.c⟩),[]⟩,⟨some ⟨.a,.p⟩,none,.fa 1 (.t ⟨.a,.d⟩),[]⟩,⟨some ⟨.b,.a⟩,none,.ld 1 false (.t ⟨.a,.p⟩),[]⟩,
 ⟨some ⟨.b,.b⟩,none,.call 106 [.t ⟨.a,.o⟩,.t ⟨.b,.a⟩,.c (.c (.i .i64 (.ofNat 4)))],[]⟩]) (.cond (.t ⟨.b,.b⟩) (.seq (.reg [⟨some ⟨.b,.c⟩,none,.ld 1 false (.t ⟨.a,.c⟩),[]⟩,⟨some ⟨.b,.d⟩,
 none,.call 109 [.t ⟨.b,.c⟩,.c (.c (.s []))],[]⟩]) (.seq (.reg [⟨some ⟨.b,.e⟩,none,.ld 1 false (.t ⟨.a,.c⟩),[]⟩,⟨some ⟨.b,.f⟩,none,.fa 1 (.t ⟨.a,.d⟩),[]⟩,⟨some ⟨.b,.g⟩,none,.ld 1
 false (.t ⟨.b,.f⟩),[]⟩,⟨some ⟨.b,.h⟩,none,.bsl 9 1 1 [.s []] [(0,(1,.t ⟨.b,.g⟩))],[]⟩,⟨some ⟨.b,.i⟩,none,.call 99 [.t ⟨.b,.e⟩,.t ⟨.b,.h⟩],[]⟩]) (.seq (.reg [⟨some ⟨.b,.j⟩,none,
 .ld 1 false (.t ⟨.a,.c⟩),[]⟩,⟨some ⟨.b,.k⟩,none,.nc (.t ⟨.b,.j⟩),[]⟩,⟨some ⟨.b,.l⟩,none,.fa 4 (.t ⟨.b,.k⟩),[]⟩,⟨some ⟨.b,.m⟩,none,.ld 1 false (.t ⟨.b,.l⟩),[]⟩,⟨some ⟨.b,.n⟩,
 none,.call 110 [.t ⟨.b,.m⟩],[]⟩]) (.reg [⟨some ⟨.b,.o⟩,none,.ld 1 false (.t ⟨.a,.c⟩),[]⟩,⟨some ⟨.b,.p⟩,none,.nc (.t ⟨.b,.o⟩),[]⟩,⟨some ⟨.c,.a⟩,none,.fa 5 (.t ⟨.b,.p⟩),[]⟩,⟨none,
 none,.st 1 (.t ⟨.c,.a⟩) (.c (.c (.i .i64 (.ofNat 11)))),[]⟩])))) .skip)) (.seq (.reg [⟨some ⟨.c,.c⟩,none,.ld 5 true (.t ⟨.a,.d⟩),[]⟩,⟨some ⟨.c,.d⟩,none,.call 108 [.t ⟨.c,.c⟩],[]⟩,⟨some
 ⟨.c,.b⟩,none,.mv (.t ⟨.c,.d⟩),[]⟩]) (.cond (.t ⟨.c,.b⟩) (.seq (.reg [⟨some ⟨.c,.e⟩,none,.ld 1 false (.t ⟨.a,.c⟩),[]⟩,⟨some ⟨.c,.f⟩,none,.call 106 [.t ⟨.c,.e⟩,.c (.c (.s [116,100])),
 .c (.c (.i .i64 (.ofNat 4)))],[]⟩,⟨some ⟨.c,.g⟩,none,.mv (.t ⟨.c,.f⟩),[]⟩,⟨some ⟨.c,.h⟩,some (⟨.c,.g⟩,false),.ld 1 false (.t ⟨.a,.c⟩),[]⟩,⟨some ⟨.c,.i⟩,some (⟨.c,.g⟩,false),.call
 106 [.t ⟨.c,.h⟩,.c (.c (.s [116,104])),.c (.c (.i .i64 (.ofNat 4)))],[]⟩,⟨some ⟨.c,.j⟩,none,.pk (.t ⟨.c,.g⟩) (.c (.c (.b true))) (.t ⟨.c,.i⟩),[]⟩,⟨some ⟨.c,.k⟩,none,.mv (.t ⟨.c,.j⟩),
 []⟩,⟨some ⟨.c,.l⟩,some (⟨.c,.k⟩,true),.mv (.t ⟨.a,.f⟩),[]⟩,⟨some ⟨.c,.m⟩,some (⟨.c,.k⟩,true),.callv (.t ⟨.c,.l⟩) [],[]⟩,⟨some ⟨.c,.n⟩,none,.pk (.t ⟨.c,.k⟩) (.t ⟨.c,.m⟩) (.c (.c
 (.b false))),[]⟩,⟨some ⟨.a,.e⟩,none,.mv (.t ⟨.c,.n⟩),[]⟩]) .ret) (.seq (.reg [⟨some ⟨.c,.p⟩,none,.ld 5 true (.t ⟨.a,.d⟩),[]⟩,⟨some ⟨.d,.a⟩,none,.bsl 9 1 5 [.s [],.s [],.s [],.s [],
 .s []] [(0,(1,.c (.c (.s [98,111,100,121])))),(1,(1,.c (.c (.s [99,97,112,116,105,111,110])))),(2,(1,.c (.c (.s [99,111,108])))),(3,(1,.c (.c (.s [99,111,108,103,114,111,
 117,112])))),(4,(1,.c (.c (.s [104,116,109,108]))))],[]⟩,⟨some ⟨.d,.b⟩,none,.call 61 [.t ⟨.c,.p⟩,.t ⟨.d,.a⟩],[]⟩,⟨some ⟨.c,.o⟩,none,.mv (.t ⟨.d,.b⟩),[]⟩]) (.cond (.t ⟨.c,.o⟩)
 .skip (.seq (.reg [⟨some ⟨.d,.d⟩,none,.ld 5 true (.t ⟨.a,.d⟩),[]⟩,⟨some ⟨.d,.e⟩,none,.bsl 9 1 5 [.s [],.s [],.s [],.s [],.s []] [(0,(1,.c (.c (.s [116,97,98,108,101])))),(1,(1,
 .c (.c (.s [116,98,111,100,121])))),(2,(1,.c (.c (.s [116,102,111,111,116])))),(3,(1,.c (.c (.s [116,104,101,97,100])))),(4,(1,.c (.c (.s [116,114]))))],[]⟩,⟨some ⟨.d,.f⟩,
 none,.call 61 [.t ⟨.d,.d⟩,.t ⟨.d,.e⟩],[]⟩,⟨some ⟨.d,.c⟩,none,.mv (.t ⟨.d,.f⟩),[]⟩]) (.cond (.t ⟨.d,.c⟩) (.seq (.reg [⟨some ⟨.d,.g⟩,none,.ld 1 false (.t ⟨.a,.c⟩),[]⟩,⟨some ⟨.d,.h⟩,
 none,.fa 1 (.t ⟨.a,.d⟩),[]⟩,⟨some ⟨.d,.i⟩,none,.ld 1 false (.t ⟨.d,.h⟩),[]⟩,⟨some ⟨.d,.j⟩,none,.call 106 [.t ⟨.d,.g⟩,.t ⟨.d,.i⟩,.c (.c (.i .i64 (.ofNat 4)))],[]⟩,⟨some ⟨.d,.k⟩,
 none,.mv (.t ⟨.d,.j⟩),[]⟩,⟨some ⟨.d,.l⟩,some (⟨.d,.k⟩,true),.mv (.t ⟨.a,.f⟩),[]⟩,⟨some ⟨.d,.m⟩,some (⟨.d,.k⟩,true),.callv (.t ⟨.d,.l⟩) [],[]⟩,⟨some ⟨.d,.n⟩,none,.pk (.t ⟨.d,
 .k⟩) (.t ⟨.d,.m⟩) (.c (.c (.b false))),[]⟩,⟨some ⟨.a,.e⟩,none,.mv (.t ⟨.d,.n⟩),[]⟩]) .ret) (.seq (.reg [⟨some ⟨.a,.h⟩,none,.ld 1 false (.t ⟨.a,.c⟩),[]⟩,⟨some ⟨.a,.i⟩,none,.ld 5 true
 (.t ⟨.a,.d⟩),[]⟩,⟨some ⟨.a,.j⟩,none,.call 75 [.t ⟨.a,.h⟩,.t ⟨.a,.i⟩],[]⟩,⟨some ⟨.a,.e⟩,none,.mv (.t ⟨.a,.j⟩),[]⟩]) .ret)))))))))) (.seq (.reg [⟨some ⟨.a,.e⟩,none,.mv (.c (.c (.b
 false))),[]⟩]) .ret))),[(⟨.a,.e⟩,none)]⟩
theorem ok74 : FnR Tryz.prog 0 74 cf74 := fnC_ok [] Tryz.func74 (by kernel_rfl) (by kernel_rfl)
def cf75 : CF := ⟨30,2,.seq (.reg [⟨some ⟨.a,.d⟩,none,.new 51 (.t ⟨.a,.b⟩),[]⟩,⟨some ⟨.a,.e⟩,none,.mv (.c (.c (.b false))),[]⟩]) (.seq (.seq (.reg [⟨some ⟨.a,.f⟩,none,.fa 0 (.t ⟨.a,.d⟩),[]⟩,⟨some
 ⟨.a,.g⟩,none,.ld 1 false (.t ⟨.a,.f⟩),[]⟩]) (.blk 0 (.seq (.reg [⟨some ⟨.a,.i⟩,none,.bin .eql (.t ⟨.a,.g⟩) (.c (.c (.i .i64 (.ofNat 3)))),[]⟩,⟨some ⟨.a,.h⟩,none,.mv (.t ⟨.a,.i⟩),[]⟩])
 (.cond (.t ⟨.a,.h⟩) (.seq (.reg [⟨some ⟨.a,.k⟩,none,.call 114 [.t ⟨.a,.a⟩],[]⟩]) (.reg [⟨some ⟨.a,.m⟩,none,.fa 2 (.t ⟨.a,.d⟩),[]⟩,⟨some ⟨.a,.n⟩,none,.ld 1 false (.t ⟨.a,.m⟩),[]⟩,
 ⟨some ⟨.a,.o⟩,none,.call 60 [.t ⟨.a,.a⟩,.t ⟨.a,.n⟩],[]⟩])) (.seq (.reg [⟨some ⟨.b,.a⟩,none,.bin .eql (.t ⟨.a,.g⟩) (.c (.c (.i .i64 (.ofNat 4)))),[]⟩,⟨some ⟨.a,.p⟩,none,.mv (.t ⟨.b,
 .a⟩),[]⟩]) (.cond (.t ⟨.a,.p⟩) (.reg [⟨some ⟨.b,.c⟩,none,.ld 5 true (.t ⟨.a,.d⟩),[]⟩,⟨some ⟨.b,.d⟩,none,.call 97 [.t ⟨.a,.a⟩,.t ⟨.b,.c⟩],[]⟩]) (.seq (.reg [⟨some ⟨.b,.f⟩,none,.bin
 .eql (.t ⟨.a,.g⟩) (.c (.c (.i .i64 (.ofNat 1)))),[]⟩,⟨some ⟨.b,.e⟩,none,.mv (.t ⟨.b,.f⟩),[]⟩]) (.cond (.t ⟨.b,.e⟩) (.seq (.reg [⟨some ⟨.b,.h⟩,none,.ld 5 true (.t ⟨.a,.d⟩),[]⟩,⟨some
 ⟨.b,.i⟩,none,.call 115 [.t ⟨.a,.a⟩,.t ⟨.b,.h⟩],[]⟩,⟨some ⟨.a,.e⟩,none,.mv (.t ⟨.b,.i⟩),[]⟩]) .ret) (.seq (.reg [⟨some ⟨.b,.k⟩,none,.bin .eql (.t ⟨.a,.g⟩) (.c (.c (.i .i64 (.ofNat
 2)))),[]⟩,⟨some ⟨.b,.j⟩,none,.mv (.t ⟨.b,.k⟩),[]⟩]) (.cond (.t ⟨.b,.j⟩) (.seq (.reg [⟨some ⟨.b,.m⟩,none,.ld 5 true (.t ⟨.a,.d⟩),[]⟩,⟨some ⟨.b,.n⟩,none,.call 116 [.t ⟨.a,.a⟩,.t ⟨.b,
 .m⟩],[]⟩,⟨some ⟨.a,.e⟩,none,.mv (.t ⟨.b,.n⟩),[]⟩]) .ret) .skip)))))))))) (.seq (.reg [⟨some ⟨.a,.e⟩,none,.mv (.c (.c (.b false))),[]⟩]) .ret)),[(⟨.a,.e⟩,none)]⟩
theorem ok75 : FnR Tryz.prog 0 75 cf75 := fnC_ok [9,11,17,22,27] Tryz.func75 (by kernel_rfl) (by kernel_rfl)
def cf76 : CF := ⟨73,1,.seq (.reg [⟨some ⟨.a,.b⟩,none,.new 28 (.t ⟨.a,.a⟩),[]⟩,⟨some ⟨.a,.c⟩,none,.mv (.c (.c (.b false))),[]⟩]) (.seq (.seq (.reg [⟨some ⟨.a,.d⟩,none,.fa 0 (.t ⟨.a,.b⟩),[]⟩,⟨some
 ⟨.a,.e⟩,none,.ld 1 false (.t ⟨.a,.d⟩),[]⟩,⟨some ⟨.a,.f⟩,none,.bin .eql (.t ⟨.a,.e⟩) (.c (.c (.i .i64 (.ofNat 2)))),[]⟩]) (.cond (.t ⟨.a,.f⟩) (.seq (.reg [⟨some ⟨.a,.g⟩,none,.fa 1 (.t
 ⟨.a,.b⟩),[]⟩,⟨some ⟨.a,.h⟩,none,.ld 1 false (.t ⟨.a,.g⟩),[]⟩,⟨some ⟨.a,.i⟩,none,.call 31 [.t ⟨.a,.h⟩],[]⟩,⟨some ⟨.a,.j⟩,none,.mv (.t ⟨.a,.i⟩),[]⟩,⟨some ⟨.a,.k⟩,some (⟨.a,.j⟩,
 true),.fa 2 (.t ⟨.a,.b⟩),[]⟩,⟨some ⟨.a,.l⟩,some (⟨.a,.j⟩,true),.ld 1 false (.t ⟨.a,.k⟩),[]⟩,⟨some ⟨.a,.m⟩,some (⟨.a,.j⟩,true),.bin .eql (.t ⟨.a,.l⟩) (.c (.c (.s []))),[]⟩,⟨some
 ⟨.a,.n⟩,none,.pk (.t ⟨.a,.j⟩) (.t ⟨.a,.m⟩) (.c (.c (.b false))),[]⟩,⟨some ⟨.a,.o⟩,none,.mv (.t ⟨.a,.n⟩),[]⟩,⟨some ⟨.a,.p⟩,some (⟨.a,.o⟩,true),.fa 3 (.t ⟨.a,.b⟩),[]⟩,⟨some ⟨.b,
 .a⟩,some (⟨.a,.o⟩,true),.ld 1 false (.t ⟨.a,.p⟩),[]⟩,⟨some ⟨.b,.b⟩,some (⟨.a,.o⟩,true),.call 117 [.t ⟨.b,.a⟩],[]⟩,⟨some ⟨.b,.c⟩,none,.pk (.t ⟨.a,.o⟩) (.t ⟨.b,.b⟩) (.c (.c (.b
 false))),[]⟩,⟨some ⟨.b,.d⟩,none,.mv (.t ⟨.b,.c⟩),[]⟩,⟨some ⟨.b,.e⟩,some (⟨.b,.d⟩,true),.ld 5 true (.t ⟨.a,.b⟩),[]⟩,⟨some ⟨.b,.f⟩,some (⟨.b,.d⟩,true),.call 41 [.t ⟨.b,.e⟩],[]⟩,
 ⟨some ⟨.b,.g⟩,none,.pk (.t ⟨.b,.d⟩) (.t ⟨.b,.f⟩) (.c (.c (.b false))),[]⟩,⟨some ⟨.a,.c⟩,none,.mv (.t ⟨.b,.g⟩),[]⟩]) .ret) .skip)) (.seq (.seq (.reg [⟨some ⟨.b,.h⟩,none,.fa 3 (.t ⟨.a,
 .b⟩),[]⟩,⟨some ⟨.b,.i⟩,none,.ld 1 false (.t ⟨.b,.h⟩),[]⟩,⟨some ⟨.b,.j⟩,none,.len true (.t ⟨.b,.i⟩),[]⟩,⟨some ⟨.b,.k⟩,none,.bin .gtr (.t ⟨.b,.j⟩) (.c (.c (.i .i64 (.ofNat 0)))),[]⟩,
 ⟨some ⟨.b,.l⟩,none,.mv (.t ⟨.b,.k⟩),[]⟩,⟨some ⟨.b,.m⟩,some (⟨.b,.l⟩,false),.fa 4 (.t ⟨.a,.b⟩),[]⟩,⟨some ⟨.b,.n⟩,some (⟨.b,.l⟩,false),.ld 1 false (.t ⟨.b,.m⟩),[]⟩,⟨some ⟨.b,.o⟩,
 some (⟨.b,.l⟩,false),.len true (.t ⟨.b,.n⟩),[]⟩,⟨some ⟨.b,.p⟩,some (⟨.b,.l⟩,false),.bin .gtr (.t ⟨.b,.o⟩) (.c (.c (.i .i64 (.ofNat 0)))),[]⟩,⟨some ⟨.c,.a⟩,none,.pk (.t ⟨.b,.l⟩) (.c
 (.c (.b true))) (.t ⟨.b,.p⟩),[]⟩]) (.cond (.t ⟨.c,.a⟩) (.seq (.reg [⟨some ⟨.a,.c⟩,none,.mv (.c (.c (.b false))),[]⟩]) .ret) .skip)) (.seq (.seq (.reg [⟨some ⟨.c,.b⟩,none,.fa 0 (.t ⟨.a,
 .b⟩),[]⟩,⟨some ⟨.c,.c⟩,none,.ld 1 false (.t ⟨.c,.b⟩),[]⟩]) (.blk 0 (.seq (.reg [⟨some ⟨.c,.e⟩,none,.bin .eql (.t ⟨.c,.c⟩) (.c (.c (.i .i64 (.ofNat 3)))),[]⟩,⟨some ⟨.c,.d⟩,none,.mv (.t
 ⟨.c,.e⟩),[]⟩]) (.cond (.t ⟨.c,.d⟩) (.seq (.reg [⟨some ⟨.c,.f⟩,none,.fa 1 (.t ⟨.a,.b⟩),[]⟩,⟨some ⟨.c,.g⟩,none,.ld 1 false (.t ⟨.c,.f⟩),[]⟩,⟨some ⟨.c,.h⟩,none,.bin .eql (.t ⟨.c,.g⟩)
 (.c (.c (.s []))),[]⟩,⟨some ⟨.c,.i⟩,none,.mv (.t ⟨.c,.h⟩),[]⟩,⟨some ⟨.c,.j⟩,some (⟨.c,.i⟩,true),.fa 2 (.t ⟨.a,.b⟩),[]⟩,⟨some ⟨.c,.k⟩,some (⟨.c,.i⟩,true),.ld 1 false (.t ⟨.c,
 .j⟩),[]⟩,⟨some ⟨.c,.l⟩,some (⟨.c,.i⟩,true),.bin .neq (.t ⟨.c,.k⟩) (.c (.c (.s []))),[]⟩,⟨some ⟨.c,.m⟩,none,.pk (.t ⟨.c,.i⟩) (.t ⟨.c,.l⟩) (.c (.c (.b false))),[]⟩,⟨some ⟨.c,.n⟩,
 none,.mv (.t ⟨.c,.m⟩),[]⟩,⟨some ⟨.c,.o⟩,some (⟨.c,.n⟩,true),.fa 2 (.t ⟨.a,.b⟩),[]⟩,⟨some ⟨.c,.p⟩,some (⟨.c,.n⟩,true),.ld 1 false (.t ⟨.c,.o⟩),[]⟩,⟨some ⟨.d,.a⟩,some (⟨.c,.n⟩,
 true),.len false (.t ⟨.c,.p⟩),[]⟩,⟨some ⟨.d,.b⟩,some (⟨.c,.n⟩,true),.bin .leq (.t ⟨.d,.a⟩) (.c (.c (.i .i64 (.ofNat 4096)))),[]⟩,⟨some ⟨.d,.c⟩,none,.pk (.t ⟨.c,.n⟩) (.t ⟨.d,.b⟩) (.c
 (.c (.b false))),[]⟩,⟨some ⟨.a,.c⟩,none,.mv (.t ⟨.d,.c⟩),[]⟩]) .ret) (.seq (.reg [⟨some ⟨.d,.e⟩,none,.bin .eql (.t ⟨.c,.c⟩) (.c (.c (.i .i64 (.ofNat 4)))),[]⟩,⟨some ⟨.d,.d⟩,none,.mv
 (.t ⟨.d,.e⟩),[]⟩]) (.cond (.t ⟨.d,.d⟩) (.seq (.reg [⟨some ⟨.d,.f⟩,none,.fa 1 (.t ⟨.a,.b⟩),[]⟩,⟨some ⟨.d,.g⟩,none,.ld 1 false (.t ⟨.d,.f⟩),[]⟩,⟨some ⟨.d,.h⟩,none,.bin .eql (.t ⟨.d,
 .g⟩) (.c (.c (.s []))),[]⟩,⟨some ⟨.d,.i⟩,none,.mv (.t ⟨.d,.h⟩),[]⟩,⟨some ⟨.d,.j⟩,some (⟨.d,.i⟩,true),.fa 2 (.t ⟨.a,.b⟩),[]⟩,⟨some ⟨.d,.k⟩,some (⟨.d,.i⟩,true),.ld 1 false (.t ⟨.d,
 .j⟩),[]⟩,⟨some ⟨.d,.l⟩,some (⟨.d,.i⟩,true),.len false (.t ⟨.d,.k⟩),[]⟩,⟨some ⟨.d,.m⟩,some (⟨.d,.i⟩,true),.bin .leq (.t ⟨.d,.l⟩) (.c (.c (.i .i64 (.ofNat 4096)))),[]⟩,⟨some ⟨.d,.n⟩,
 none,.pk (.t ⟨.d,.i⟩) (.t ⟨.d,.m⟩) (.c (.c (.b false))),[]⟩,⟨some ⟨.a,.c⟩,none,.mv (.t ⟨.d,.n⟩),[]⟩]) .ret) (.seq (.reg [⟨some ⟨.d,.p⟩,none,.bin .eql (.t ⟨.c,.c⟩) (.c (.c (.i .i64
 (.ofNat 5)))),[]⟩,⟨some ⟨.d,.o⟩,none,.mv (.t ⟨.d,.p⟩),[]⟩]) (.cond (.t ⟨.d,.o⟩) (.seq (.reg [⟨some ⟨.e,.a⟩,none,.fa 2 (.t ⟨.a,.b⟩),[]⟩,⟨some ⟨.e,.b⟩,none,.ld 1 false (.t ⟨.e,.a⟩),
 []⟩,⟨some ⟨.e,.c⟩,none,.bin .eql (.t ⟨.e,.b⟩) (.c (.c (.s []))),[]⟩,⟨some ⟨.e,.d⟩,none,.mv (.t ⟨.e,.c⟩),[]⟩,⟨some ⟨.e,.e⟩,some (⟨.e,.d⟩,true),.fa 1 (.t ⟨.a,.b⟩),[]⟩,⟨some ⟨.e,
 .f⟩,some (⟨.e,.d⟩,true),.ld 1 false (.t ⟨.e,.e⟩),[]⟩,⟨some ⟨.e,.g⟩,some (⟨.e,.d⟩,true),.len false (.t ⟨.e,.f⟩),[]⟩,⟨some ⟨.e,.h⟩,some (⟨.e,.d⟩,true),.bin .leq (.t ⟨.e,.g⟩) (.c
 (.c (.i .i64 (.ofNat 32)))),[]⟩,⟨some ⟨.e,.i⟩,none,.pk (.t ⟨.e,.d⟩) (.t ⟨.e,.h⟩) (.c (.c (.b false))),[]⟩,⟨some ⟨.a,.c⟩,none,.mv (.t ⟨.e,.i⟩),[]⟩]) .ret) .skip)))))))) (.seq (.reg
 [⟨some ⟨.a,.c⟩,none,.mv (.c (.c (.b false))),[]⟩]) .ret)))),[(⟨.a,.c⟩,none)]⟩
theorem ok76 : FnR Tryz.prog 0 76 cf76 := fnC_ok [] Tryz.func76 (by kernel_rfl) (by kernel_rfl)
def cf79 : CF := ⟨17,1,.seq (.reg [⟨some ⟨.a,.c⟩,none,.mv (.c (.c (.b false))),[]⟩]) (.seq (.reg [⟨some ⟨.a,.e⟩,none,.bin .eql (.t ⟨.a,.a⟩) (.c (.c (.i .u8 (.ofNat 9)))),[]⟩,⟨some ⟨.a,.f⟩,none,.mv (.t
 ⟨.a,.e⟩),[]⟩,⟨some ⟨.a,.g⟩,some (⟨.a,.f⟩,false),.mv (.t ⟨.a,.a⟩),[]⟩,⟨some ⟨.a,.h⟩,some (⟨.a,.f⟩,false),.bin .eql (.t ⟨.a,.g⟩) (.c (.c (.i .u8 (.ofNat 10)))),[]⟩,⟨some ⟨.a,.i⟩,
 none,.pk (.t ⟨.a,.f⟩) (.c (.c (.b true))) (.t ⟨.a,.h⟩),[]⟩,⟨some ⟨.a,.j⟩,none,.mv (.t ⟨.a,.i⟩),[]⟩,⟨some ⟨.a,.k⟩,some (⟨.a,.j⟩,false),.mv (.t ⟨.a,.a⟩),[]⟩,⟨some ⟨.a,.l⟩,some
 (⟨.a,.j⟩,false),.bin .eql (.t ⟨.a,.k⟩) (.c (.c (.i .u8 (.ofNat 12)))),[]⟩,⟨some ⟨.a,.m⟩,none,.pk (.t ⟨.a,.j⟩) (.c (.c (.b true))) (.t ⟨.a,.l⟩),[]⟩,⟨some ⟨.a,.n⟩,none,.mv (.t ⟨.a,
 .m⟩),[]⟩,⟨some ⟨.a,.o⟩,some (⟨.a,.n⟩,false),.mv (.t ⟨.a,.a⟩),[]⟩,⟨some ⟨.a,.p⟩,some (⟨.a,.n⟩,false),.bin .eql (.t ⟨.a,.o⟩) (.c (.c (.i .u8 (.ofNat 32)))),[]⟩,⟨some ⟨.b,.a⟩,none,
 .pk (.t ⟨.a,.n⟩) (.c (.c (.b true))) (.t ⟨.a,.p⟩),[]⟩,⟨some ⟨.a,.c⟩,none,.mv (.t ⟨.b,.a⟩),[]⟩]) .ret),[(⟨.a,.c⟩,none)]⟩
theorem ok79 : FnR Tryz.prog 0 79 cf79 := fnC_ok [3] Tryz.func79 (by kernel_rfl) (by kernel_rfl)
end
end Ev
end
section
namespace Ev
variable [Tx]
set_option autoImplicit false
noncomputable section
def cf81 : CF := ⟨17,1,.seq (.reg [⟨some ⟨.a,.c⟩,none,.mv (.c (.c (.b false))),[]⟩]) (.seq (.reg [⟨some ⟨.a,.e⟩,none,.bin .geq (.t ⟨.a,.a⟩) (.c (.c (.i .u8 (.ofNat 97)))),[]⟩,⟨some ⟨.a,.f⟩,none,.mv (.t
 ⟨.a,.e⟩),[]⟩,⟨some ⟨.a,.g⟩,some (⟨.a,.f⟩,true),.mv (.t ⟨.a,.a⟩),[]⟩,⟨some ⟨.a,.h⟩,some (⟨.a,.f⟩,true),.bin .leq (.t ⟨.a,.g⟩) (.c (.c (.i .u8 (.ofNat 122)))),[]⟩,⟨some ⟨.a,.i⟩,
 none,.pk (.t ⟨.a,.f⟩) (.t ⟨.a,.h⟩) (.c (.c (.b false))),[]⟩,⟨some ⟨.a,.j⟩,none,.mv (.t ⟨.a,.i⟩),[]⟩,⟨some ⟨.a,.k⟩,some (⟨.a,.j⟩,false),.mv (.t ⟨.a,.a⟩),[]⟩,⟨some ⟨.a,.l⟩,some
 (⟨.a,.j⟩,false),.bin .geq (.t ⟨.a,.k⟩) (.c (.c (.i .u8 (.ofNat 65)))),[]⟩,⟨some ⟨.a,.m⟩,some (⟨.a,.j⟩,false),.mv (.t ⟨.a,.l⟩),[]⟩,⟨some ⟨.a,.n⟩,some (⟨.a,.m⟩,true),.mv (.t ⟨.a,
 .a⟩),[]⟩,⟨some ⟨.a,.o⟩,some (⟨.a,.m⟩,true),.bin .leq (.t ⟨.a,.n⟩) (.c (.c (.i .u8 (.ofNat 90)))),[]⟩,⟨some ⟨.a,.p⟩,some (⟨.a,.j⟩,false),.pk (.t ⟨.a,.m⟩) (.t ⟨.a,.o⟩) (.c (.c (.b
 false))),[]⟩,⟨some ⟨.b,.a⟩,none,.pk (.t ⟨.a,.j⟩) (.c (.c (.b true))) (.t ⟨.a,.p⟩),[]⟩,⟨some ⟨.a,.c⟩,none,.mv (.t ⟨.b,.a⟩),[]⟩]) .ret),[(⟨.a,.c⟩,none)]⟩
theorem ok81 : FnR Tryz.prog 0 81 cf81 := fnC_ok [3] Tryz.func81 (by kernel_rfl) (by kernel_rfl)
def cf82 : CF := ⟨36,3,.seq (.reg [⟨some ⟨.a,.g⟩,none,.mv (.c (.c (.i .i64 (.ofNat 0)))),[]⟩]) (.seq (.blk 0 (.loop (.seq (.seq (.reg [⟨some ⟨.a,.k⟩,none,.len false (.t ⟨.a,.a⟩),[]⟩,⟨some ⟨.a,.l⟩,none,
 .bin .lss (.t ⟨.a,.b⟩) (.t ⟨.a,.k⟩),[]⟩,⟨some ⟨.a,.m⟩,none,.mv (.t ⟨.a,.l⟩),[]⟩,⟨some ⟨.a,.n⟩,some (⟨.a,.m⟩,true),.mv (.t ⟨.a,.a⟩),[]⟩,⟨some ⟨.a,.o⟩,some (⟨.a,.m⟩,true),.mv (.t
 ⟨.a,.b⟩),[]⟩,⟨some ⟨.a,.p⟩,some (⟨.a,.m⟩,true),.sx (.t ⟨.a,.n⟩) (.t ⟨.a,.o⟩),[]⟩,⟨some ⟨.b,.a⟩,some (⟨.a,.m⟩,true),.call 79 [.t ⟨.a,.p⟩],[]⟩,⟨some ⟨.b,.b⟩,some (⟨.a,.m⟩,true),
 .un .not (.t ⟨.b,.a⟩),[]⟩,⟨some ⟨.b,.c⟩,none,.pk (.t ⟨.a,.m⟩) (.t ⟨.b,.b⟩) (.c (.c (.b false))),[]⟩]) (.cond (.t ⟨.b,.c⟩) .skip (.exit 0))) (.blk 1 (.seq (.seq (.reg [⟨some ⟨.a,.h⟩,none,
 .mv (.c (.c (.i .i64 (.ofNat 0)))),[]⟩]) (.blk 2 (.loop (.seq (.seq (.reg [⟨some ⟨.b,.f⟩,none,.len false (.t ⟨.a,.c⟩),[]⟩,⟨some ⟨.b,.g⟩,none,.bin .lss (.t ⟨.a,.h⟩) (.t ⟨.b,.f⟩),[]⟩])
 (.cond (.t ⟨.b,.g⟩) .skip (.exit 2))) (.seq (.blk 3 (.seq (.dreg [⟨some ⟨.b,.j⟩,none,.mv (.t ⟨.a,.a⟩),[]⟩,⟨some ⟨.b,.k⟩,none,.mv (.t ⟨.a,.b⟩),[]⟩,⟨some ⟨.b,.l⟩,none,.sx (.t ⟨.b,.j⟩)
 (.t ⟨.b,.k⟩),[]⟩,⟨some ⟨.b,.m⟩,none,.mv (.t ⟨.a,.c⟩),[]⟩,⟨some ⟨.b,.n⟩,none,.mv (.t ⟨.a,.h⟩),[]⟩,⟨some ⟨.b,.o⟩,none,.sx (.t ⟨.b,.m⟩) (.t ⟨.b,.n⟩),[]⟩,⟨some ⟨.b,.p⟩,none,.bin
 .eql (.t ⟨.b,.l⟩) (.t ⟨.b,.o⟩),[]⟩]) (.cond (.t ⟨.b,.p⟩) (.seq (.reg [⟨some ⟨.a,.g⟩,none,.mv (.t ⟨.a,.b⟩),[]⟩]) .ret) .skip))) (.reg [⟨some ⟨.b,.i⟩,none,.bin .add (.t ⟨.a,.h⟩) (.c (.c
 (.i .i64 (.ofNat 1)))),[]⟩,⟨some ⟨.a,.h⟩,none,.mv (.t ⟨.b,.i⟩),[]⟩])))))) (.reg [⟨some ⟨.c,.c⟩,none,.bin .add (.t ⟨.a,.b⟩) (.c (.c (.i .i64 (.ofNat 1)))),[]⟩,⟨some ⟨.a,.b⟩,none,.mv
 (.t ⟨.c,.c⟩),[]⟩])))))) (.seq (.reg [⟨some ⟨.a,.g⟩,none,.mv (.t ⟨.a,.b⟩),[]⟩]) .ret)),[(⟨.a,.g⟩,none)]⟩
theorem ok82 : FnR Tryz.prog 0 82 cf82 := fnC_ok [8,9,19,20,23,32,33,35] Tryz.func82 (by kernel_rfl) (by kernel_rfl)
def cf83 : CF := ⟨45,1,.seq (.reg [⟨some ⟨.a,.c⟩,none,.mv (.c (.c (.s []))),[]⟩]) (.seq (.reg [⟨some ⟨.a,.g⟩,none,.call 46 [.t ⟨.a,.a⟩],[]⟩,⟨some ⟨.a,.h⟩,none,.s2b 5 (.t ⟨.a,.g⟩),[]⟩,⟨some ⟨.a,.d⟩,
 none,.mv (.t ⟨.a,.h⟩),[]⟩]) (.seq (.seq (.reg [⟨some ⟨.a,.e⟩,none,.mv (.c (.c (.i .i64 (.ofNat 0)))),[]⟩]) (.blk 0 (.loop (.seq (.seq (.reg [⟨some ⟨.a,.k⟩,none,.len true (.t ⟨.a,.d⟩),[]⟩,
 ⟨some ⟨.a,.l⟩,none,.bin .lss (.t ⟨.a,.e⟩) (.t ⟨.a,.k⟩),[]⟩]) (.cond (.t ⟨.a,.l⟩) .skip (.exit 0))) (.seq (.blk 1 (.seq (.reg [⟨some ⟨.b,.a⟩,none,.ia 1 (.t ⟨.a,.d⟩) (.t ⟨.a,.e⟩),[]⟩,
 ⟨some ⟨.b,.b⟩,none,.ld 1 false (.t ⟨.b,.a⟩),[]⟩,⟨some ⟨.b,.c⟩,none,.bin .eql (.t ⟨.b,.b⟩) (.c (.c (.i .u8 (.ofNat 34)))),[]⟩,⟨some ⟨.b,.d⟩,none,.mv (.t ⟨.b,.c⟩),[]⟩,⟨some ⟨.b,.e⟩,
 some (⟨.b,.d⟩,false),.mv (.t ⟨.a,.d⟩),[]⟩,⟨some ⟨.b,.f⟩,some (⟨.b,.d⟩,false),.mv (.t ⟨.a,.e⟩),[]⟩,⟨some ⟨.b,.g⟩,some (⟨.b,.d⟩,false),.ia 1 (.t ⟨.b,.e⟩) (.t ⟨.b,.f⟩),[]⟩,⟨some
 ⟨.b,.h⟩,some (⟨.b,.d⟩,false),.ld 1 false (.t ⟨.b,.g⟩),[]⟩,⟨some ⟨.b,.i⟩,some (⟨.b,.d⟩,false),.bin .eql (.t ⟨.b,.h⟩) (.c (.c (.i .u8 (.ofNat 39)))),[]⟩,⟨some ⟨.b,.j⟩,none,.pk (.t
 ⟨.b,.d⟩) (.c (.c (.b true))) (.t ⟨.b,.i⟩),[]⟩,⟨some ⟨.b,.k⟩,none,.mv (.t ⟨.b,.j⟩),[]⟩,⟨some ⟨.b,.l⟩,some (⟨.b,.k⟩,false),.mv (.t ⟨.a,.d⟩),[]⟩,⟨some ⟨.b,.m⟩,some (⟨.b,.k⟩,false),
 .mv (.t ⟨.a,.e⟩),[]⟩,⟨some ⟨.b,.n⟩,some (⟨.b,.k⟩,false),.ia 1 (.t ⟨.b,.l⟩) (.t ⟨.b,.m⟩),[]⟩,⟨some ⟨.b,.o⟩,some (⟨.b,.k⟩,false),.ld 1 false (.t ⟨.b,.n⟩),[]⟩,⟨some ⟨.b,.p⟩,some
 (⟨.b,.k⟩,false),.bin .eql (.t ⟨.b,.o⟩) (.c (.c (.i .u8 (.ofNat 60)))),[]⟩,⟨some ⟨.c,.a⟩,none,.pk (.t ⟨.b,.k⟩) (.c (.c (.b true))) (.t ⟨.b,.p⟩),[]⟩,⟨some ⟨.c,.b⟩,none,.mv (.t ⟨.c,
 .a⟩),[]⟩,⟨some ⟨.c,.c⟩,some (⟨.c,.b⟩,false),.mv (.t ⟨.a,.d⟩),[]⟩,⟨some ⟨.c,.d⟩,some (⟨.c,.b⟩,false),.mv (.t ⟨.a,.e⟩),[]⟩,⟨some ⟨.c,.e⟩,some (⟨.c,.b⟩,false),.ia 1 (.t ⟨.c,.c⟩)
 (.t ⟨.c,.d⟩),[]⟩,⟨some ⟨.c,.f⟩,some (⟨.c,.b⟩,false),.ld 1 false (.t ⟨.c,.e⟩),[]⟩,⟨some ⟨.c,.g⟩,some (⟨.c,.b⟩,false),.bin .eql (.t ⟨.c,.f⟩) (.c (.c (.i .u8 (.ofNat 61)))),[]⟩,⟨some
 ⟨.c,.h⟩,none,.pk (.t ⟨.c,.b⟩) (.c (.c (.b true))) (.t ⟨.c,.g⟩),[]⟩]) (.cond (.t ⟨.c,.h⟩) (.reg [⟨some ⟨.c,.k⟩,none,.ia 1 (.t ⟨.a,.d⟩) (.t ⟨.a,.e⟩),[]⟩,⟨none,none,.st 1 (.t ⟨.c,.k⟩)
 (.c (.c (.i .u8 (.ofNat 95)))),[]⟩]) .skip))) (.reg [⟨some ⟨.a,.n⟩,none,.bin .add (.t ⟨.a,.e⟩) (.c (.c (.i .i64 (.ofNat 1)))),[]⟩,⟨some ⟨.a,.e⟩,none,.mv (.t ⟨.a,.n⟩),[]⟩])))))) (.seq
 (.reg [⟨some ⟨.c,.m⟩,none,.b2s (.t ⟨.a,.d⟩),[]⟩,⟨some ⟨.a,.c⟩,none,.mv (.t ⟨.c,.m⟩),[]⟩]) .ret))),[(⟨.a,.c⟩,none)]⟩
theorem ok83 : FnR Tryz.prog 0 83 cf83 := fnC_ok [5,8,9,12,14,15,40,41,43] Tryz.func83 (by kernel_rfl) (by kernel_rfl)
def cf90 : CF := ⟨28,1,.seq (.reg [⟨some ⟨.a,.c⟩,none,.mv (.c (.c (.p none))),[]⟩,⟨some ⟨.a,.d⟩,none,.mv (.c (.c (.i .i64 (.ofNat 0)))),[]⟩]) (.seq (.reg [⟨some ⟨.a,.g⟩,none,.call 58 [.t ⟨.a,.a⟩],[]⟩,
 ⟨some ⟨.a,.e⟩,none,.mv (.t ⟨.a,.g⟩),[]⟩]) (.seq (.seq (.reg [⟨some ⟨.a,.i⟩,none,.nc (.t ⟨.a,.a⟩),[]⟩,⟨some ⟨.a,.j⟩,none,.fa 6 (.t ⟨.a,.i⟩),[]⟩,⟨some ⟨.a,.k⟩,none,.ld 1 false (.t
 ⟨.a,.j⟩),[]⟩,⟨some ⟨.a,.l⟩,none,.mv (.t ⟨.a,.k⟩),[]⟩,⟨some ⟨.a,.m⟩,some (⟨.a,.l⟩,true),.mv (.t ⟨.a,.e⟩),[]⟩,⟨some ⟨.a,.n⟩,some (⟨.a,.l⟩,true),.nc (.t ⟨.a,.m⟩),[]⟩,⟨some ⟨.a,
 .o⟩,some (⟨.a,.l⟩,true),.fa 2 (.t ⟨.a,.n⟩),[]⟩,⟨some ⟨.a,.p⟩,some (⟨.a,.l⟩,true),.ld 1 false (.t ⟨.a,.o⟩),[]⟩,⟨some ⟨.b,.a⟩,some (⟨.a,.l⟩,true),.call 121 [.t ⟨.a,.p⟩],[]⟩,⟨some
 ⟨.b,.b⟩,none,.pk (.t ⟨.a,.l⟩) (.t ⟨.b,.a⟩) (.c (.c (.b false))),[]⟩]) (.cond (.t ⟨.b,.b⟩) (.seq (.reg [⟨some ⟨.b,.d⟩,none,.call 122 [.t ⟨.a,.a⟩],[]⟩,⟨some ⟨.b,.e⟩,none,.ext 0 (.t ⟨.b,
 .d⟩),[]⟩,⟨some ⟨.b,.f⟩,none,.ext 1 (.t ⟨.b,.d⟩),[]⟩,⟨some ⟨.a,.c⟩,none,.mv (.t ⟨.b,.e⟩),[]⟩,⟨some ⟨.a,.d⟩,none,.mv (.t ⟨.b,.f⟩),[]⟩]) .ret) .skip)) (.seq (.dreg [⟨some ⟨.b,.g⟩,
 none,.mv (.t ⟨.a,.e⟩),[]⟩,⟨some ⟨.b,.h⟩,none,.mv (.t ⟨.a,.e⟩),[]⟩,⟨some ⟨.b,.i⟩,none,.nc (.t ⟨.b,.h⟩),[]⟩,⟨some ⟨.b,.j⟩,none,.fa 6 (.t ⟨.b,.i⟩),[]⟩,⟨some ⟨.b,.k⟩,none,.ld 1
 false (.t ⟨.b,.j⟩),[]⟩,⟨some ⟨.b,.l⟩,none,.len true (.t ⟨.b,.k⟩),[]⟩,⟨some ⟨.a,.c⟩,none,.mv (.t ⟨.b,.g⟩),[]⟩,⟨some ⟨.a,.d⟩,none,.mv (.t ⟨.b,.l⟩),[]⟩]) .ret))),[(⟨.a,.c⟩,none),
 (⟨.a,.d⟩,none)]⟩
theorem ok90 : FnR Tryz.prog 0 90 cf90 := fnC_ok [5,7,18] Tryz.func90 (by kernel_rfl) (by kernel_rfl)
def cf91 : CF := ⟨21,3,.seq (.reg [⟨some ⟨.a,.i⟩,none,.nc (.t ⟨.a,.b⟩),[]⟩,⟨some ⟨.a,.j⟩,none,.fa 5 (.t ⟨.a,.i⟩),[]⟩,⟨none,none,.st 1 (.t ⟨.a,.j⟩) (.t ⟨.a,.a⟩),[]⟩]) (.reg [⟨some ⟨.a,.m⟩,none,
 .nc (.t ⟨.a,.a⟩),[]⟩,⟨some ⟨.a,.n⟩,none,.fa 6 (.t ⟨.a,.m⟩),[]⟩,⟨some ⟨.a,.o⟩,none,.ld 1 false (.t ⟨.a,.n⟩),[]⟩,⟨some ⟨.b,.b⟩,none,.bsl 53 1 1 [.p none] [(0,(1,.t ⟨.a,.b⟩))],[]⟩,
 ⟨some ⟨.b,.c⟩,none,.call 123 [.t ⟨.a,.o⟩,.t ⟨.a,.c⟩,.t ⟨.b,.b⟩],[]⟩,⟨some ⟨.b,.d⟩,none,.nc (.t ⟨.a,.a⟩),[]⟩,⟨some ⟨.b,.e⟩,none,.fa 6 (.t ⟨.b,.d⟩),[]⟩,⟨none,none,.st 1 (.t ⟨.b,
 .e⟩) (.t ⟨.b,.c⟩),[]⟩]),[]⟩
theorem ok91 : FnR Tryz.prog 0 91 cf91 := fnC_ok [6,7,10,11,15,16] Tryz.func91 (by kernel_rfl) (by kernel_rfl)
def cf92 : CF := ⟨29,5,.seq (.reg [⟨some ⟨.a,.k⟩,none,.mv (.c (.c (.p none))),[]⟩]) (.seq (.reg [⟨some ⟨.a,.m⟩,none,.nc (.t ⟨.a,.a⟩),[]⟩,⟨some ⟨.a,.n⟩,none,.fa 2 (.t ⟨.a,.m⟩),[]⟩,⟨some ⟨.a,.o⟩,
 none,.ld 1 false (.t ⟨.a,.n⟩),[]⟩,⟨some ⟨.a,.p⟩,none,.bin .add (.t ⟨.a,.o⟩) (.c (.c (.i .i64 (.ofNat 1)))),[]⟩,⟨some ⟨.b,.a⟩,none,.nc (.t ⟨.a,.a⟩),[]⟩,⟨some ⟨.b,.b⟩,none,.fa 2 (.t
 ⟨.b,.a⟩),[]⟩,⟨none,none,.st 1 (.t ⟨.b,.b⟩) (.t ⟨.a,.p⟩),[]⟩]) (.seq (.dreg [⟨some ⟨.b,.c⟩,none,.mv (.t ⟨.a,.a⟩),[]⟩,⟨some ⟨.b,.d⟩,none,.nc (.t ⟨.b,.c⟩),[]⟩,⟨some ⟨.b,.e⟩,none,
 .fa 2 (.t ⟨.b,.d⟩),[]⟩,⟨some ⟨.b,.f⟩,none,.ld 1 false (.t ⟨.b,.e⟩),[]⟩,⟨some ⟨.b,.g⟩,none,.mv (.t ⟨.a,.b⟩),[]⟩,⟨some ⟨.b,.h⟩,none,.mv (.t ⟨.a,.c⟩),[]⟩,⟨some ⟨.b,.i⟩,none,.mv
 (.t ⟨.a,.d⟩),[]⟩,⟨some ⟨.b,.j⟩,none,.mv (.t ⟨.a,.e⟩),[]⟩,⟨some ⟨.b,.k⟩,none,.call 35 [.t ⟨.b,.j⟩],[⟨some ⟨.b,.f⟩,none,.ld 1 false (.t ⟨.b,.e⟩)⟩]⟩,⟨some ⟨.b,.l⟩,none,.bld [.i
 .i64 (.ofNat 0),.i .i64 (.ofNat 0),.s [],.s [],.sl none 0 0 0,.p none,.sl none 0 0 0] [(0,(1,.t ⟨.b,.f⟩)),(1,(1,.t ⟨.b,.g⟩)),(2,(1,.t ⟨.b,.h⟩)),(3,(1,.t ⟨.b,.i⟩)),(4,(1,.t
 ⟨.b,.k⟩))],[]⟩,⟨some ⟨.b,.m⟩,none,.new 56 (.t ⟨.b,.l⟩),[]⟩,⟨some ⟨.a,.k⟩,none,.mv (.t ⟨.b,.m⟩),[]⟩]) .ret)),[(⟨.a,.k⟩,none)]⟩
theorem ok92 : FnR Tryz.prog 0 92 cf92 := fnC_ok [11] Tryz.func92 (by kernel_rfl) (by kernel_rfl)
def cf94 : CF := ⟨20,1,.seq (.reg [⟨some ⟨.a,.b⟩,none,.new 51 (.t ⟨.a,.a⟩),[]⟩,⟨some ⟨.a,.c⟩,none,.mv (.c (.c (.b false))),[]⟩]) (.seq (.seq (.reg [⟨some ⟨.a,.e⟩,none,.fa 0 (.t ⟨.a,.b⟩),[]⟩,⟨some
 ⟨.a,.f⟩,none,.ld 1 false (.t ⟨.a,.e⟩),[]⟩,⟨some ⟨.a,.g⟩,none,.bin .neq (.t ⟨.a,.f⟩) (.c (.c (.i .i64 (.ofNat 3)))),[]⟩]) (.cond (.t ⟨.a,.g⟩) (.seq (.reg [⟨some ⟨.a,.c⟩,none,.mv (.c (.c
 (.b false))),[]⟩]) .ret) .skip)) (.seq (.seq (.reg [⟨some ⟨.a,.h⟩,none,.fa 2 (.t ⟨.a,.b⟩),[]⟩,⟨some ⟨.a,.i⟩,none,.ld 1 false (.t ⟨.a,.h⟩),[]⟩,⟨some ⟨.a,.j⟩,none,.len false (.t ⟨.a,
 .i⟩),[]⟩,⟨some ⟨.a,.k⟩,none,.mv (.c (.c (.i .i64 (.ofNat 0)))),[]⟩]) (.blk 0 (.loop (.seq (.reg [⟨some ⟨.a,.l⟩,none,.bin .lss (.t ⟨.a,.k⟩) (.t ⟨.a,.j⟩),[]⟩]) (.seq (.cond (.t ⟨.a,.l⟩)
 .skip (.exit 0)) (.seq (.blk 1 (.seq (.reg [⟨some ⟨.a,.d⟩,none,.mv (.t ⟨.a,.k⟩),[]⟩]) (.seq (.reg [⟨some ⟨.a,.n⟩,none,.fa 2 (.t ⟨.a,.b⟩),[]⟩,⟨some ⟨.a,.o⟩,none,.ld 1 false (.t ⟨.a,
 .n⟩),[]⟩,⟨some ⟨.b,.a⟩,none,.sx (.t ⟨.a,.o⟩) (.t ⟨.a,.d⟩),[]⟩,⟨some ⟨.b,.b⟩,none,.call 124 [.t ⟨.b,.a⟩],[]⟩,⟨some ⟨.b,.c⟩,none,.un .not (.t ⟨.b,.b⟩),[]⟩]) (.cond (.t ⟨.b,.c⟩)
 (.seq (.reg [⟨some ⟨.a,.c⟩,none,.mv (.c (.c (.b false))),[]⟩]) .ret) .skip)))) (.reg [⟨some ⟨.b,.d⟩,none,.bin .add (.t ⟨.a,.k⟩) (.c (.c (.i .i64 (.ofNat 1)))),[]⟩,⟨some ⟨.a,.k⟩,none,.mv
 (.t ⟨.b,.d⟩),[]⟩]))))))) (.seq (.reg [⟨some ⟨.a,.c⟩,none,.mv (.c (.c (.b true))),[]⟩]) .ret))),[(⟨.a,.c⟩,none)]⟩
theorem ok94 : FnR Tryz.prog 0 94 cf94 := fnC_ok [12,15] Tryz.func94 (by kernel_rfl) (by kernel_rfl)
def cf95 : CF := ⟨14,2,.seq (.reg [⟨some ⟨.a,.c⟩,none,.new 51 (.t ⟨.a,.a⟩),[]⟩,⟨some ⟨.a,.e⟩,none,.mv (.c (.c (.b false))),[]⟩]) (.seq (.reg [⟨some ⟨.a,.f⟩,none,.fa 0 (.t ⟨.a,.c⟩),[]⟩,⟨some ⟨.a,
 .g⟩,none,.ld 1 false (.t ⟨.a,.f⟩),[]⟩,⟨some ⟨.a,.h⟩,none,.bin .eql (.t ⟨.a,.g⟩) (.c (.c (.i .i64 (.ofNat 1)))),[]⟩,⟨some ⟨.a,.i⟩,none,.mv (.t ⟨.a,.h⟩),[]⟩,⟨some ⟨.a,.j⟩,some (⟨.a,
 .i⟩,true),.fa 1 (.t ⟨.a,.c⟩),[]⟩,⟨some ⟨.a,.k⟩,some (⟨.a,.i⟩,true),.ld 1 false (.t ⟨.a,.j⟩),[]⟩,⟨some ⟨.a,.l⟩,some (⟨.a,.i⟩,true),.mv (.t ⟨.a,.b⟩),[]⟩,⟨some ⟨.a,.m⟩,some (⟨.a,
 .i⟩,true),.call 33 [.t ⟨.a,.k⟩,.t ⟨.a,.l⟩],[]⟩,⟨some ⟨.a,.n⟩,none,.pk (.t ⟨.a,.i⟩) (.t ⟨.a,.m⟩) (.c (.c (.b false))),[]⟩,⟨some ⟨.a,.e⟩,none,.mv (.t ⟨.a,.n⟩),[]⟩]) .ret),[(⟨.a,
 .e⟩,none)]⟩
theorem ok95 : FnR Tryz.prog 0 95 cf95 := fnC_ok [] Tryz.func95 (by kernel_rfl) (by kernel_rfl)
def cf96 : CF := ⟨23,3,.seq (.reg [⟨some ⟨.a,.g⟩,none,.mv (.c (.c (.p none))),[]⟩]) (.seq (.reg [⟨some ⟨.a,.l⟩,none,.call 98 [.t ⟨.a,.a⟩,.t ⟨.a,.b⟩,.t ⟨.a,.c⟩],[]⟩,⟨some ⟨.a,.h⟩,none,.mv (.t ⟨.a,
 .l⟩),[]⟩]) (.seq (.reg [⟨some ⟨.a,.o⟩,none,.nc (.t ⟨.a,.a⟩),[]⟩,⟨some ⟨.a,.p⟩,none,.fa 3 (.t ⟨.a,.o⟩),[]⟩,⟨some ⟨.b,.a⟩,none,.ld 1 false (.t ⟨.a,.p⟩),[]⟩,⟨some ⟨.b,.c⟩,none,.bsl
 53 1 1 [.p none] [(0,(1,.t ⟨.a,.h⟩))],[]⟩,⟨some ⟨.b,.d⟩,none,.app 53 1 false (.t ⟨.b,.a⟩) (.t ⟨.b,.c⟩),[]⟩,⟨some ⟨.b,.e⟩,none,.nc (.t ⟨.a,.a⟩),[]⟩,⟨some ⟨.b,.f⟩,none,.fa 3 (.t
 ⟨.b,.e⟩),[]⟩,⟨none,none,.st 1 (.t ⟨.b,.f⟩) (.t ⟨.b,.d⟩),[]⟩]) (.seq (.reg [⟨some ⟨.a,.g⟩,none,.mv (.t ⟨.a,.h⟩),[]⟩]) .ret))),[(⟨.a,.g⟩,none)]⟩
theorem ok96 : FnR Tryz.prog 0 96 cf96 := fnC_ok [8,9,10,12,13,17,22] Tryz.func96 (by kernel_rfl) (by kernel_rfl)
def cf98 : CF := ⟨16,3,.seq (.reg [⟨some ⟨.a,.g⟩,none,.mv (.c (.c (.p none))),[]⟩]) (.seq (.reg [⟨some ⟨.a,.l⟩,none,.call 92 [.t ⟨.a,.a⟩,.c (.c (.i .i64 (.ofNat 2))),.t ⟨.a,.b⟩,.c (.c (.s [])),.t ⟨.a,
 .c⟩],[]⟩,⟨some ⟨.a,.h⟩,none,.mv (.t ⟨.a,.l⟩),[]⟩]) (.seq (.reg [⟨some ⟨.a,.o⟩,none,.call 125 [.t ⟨.a,.a⟩,.t ⟨.a,.h⟩],[]⟩]) (.seq (.reg [⟨some ⟨.a,.g⟩,none,.mv (.t ⟨.a,.h⟩),[]⟩])
 .ret))),[(⟨.a,.g⟩,none)]⟩
theorem ok98 : FnR Tryz.prog 0 98 cf98 := fnC_ok [8,9,10,12,13,15] Tryz.func98 (by kernel_rfl) (by kernel_rfl)
def cf99 : CF := ⟨10,2,.reg [⟨some ⟨.a,.g⟩,none,.call 127 [.t ⟨.a,.a⟩],[]⟩,⟨some ⟨.a,.i⟩,none,.call 126 [.t ⟨.a,.g⟩,.t ⟨.a,.b⟩],[]⟩,⟨some ⟨.a,.j⟩,none,.call 62 [.t ⟨.a,.a⟩,.t ⟨.a,.i⟩],[]⟩],[]⟩
theorem ok99 : FnR Tryz.prog 0 99 cf99 := fnC_ok [4,5,7] Tryz.func99 (by kernel_rfl) (by kernel_rfl)
def cf100 : CF := ⟨9,2,.seq (.reg [⟨some ⟨.a,.e⟩,none,.mv (.c (.c (.b false))),[]⟩]) (.seq (.reg [⟨some ⟨.a,.g⟩,none,.call 129 [.t ⟨.a,.b⟩],[]⟩,⟨some ⟨.a,.i⟩,none,.call 128 [.t ⟨.a,.g⟩,.t ⟨.a,.a⟩],
 []⟩,⟨some ⟨.a,.e⟩,none,.mv (.t ⟨.a,.i⟩),[]⟩]) .ret),[(⟨.a,.e⟩,none)]⟩
theorem ok100 : FnR Tryz.prog 0 100 cf100 := fnC_ok [5,7] Tryz.func100 (by kernel_rfl) (by kernel_rfl)
def cf101 : CF := ⟨11,2,.seq (.reg [⟨some ⟨.a,.d⟩,none,.new 3 (.t ⟨.a,.b⟩),[]⟩,⟨some ⟨.a,.e⟩,none,.mv (.c (.c (.i .i64 (.ofNat 0)))),[]⟩]) (.seq (.reg [⟨some ⟨.a,.g⟩,none,.nc (.t ⟨.a,.a⟩),[]⟩,⟨some
 ⟨.a,.h⟩,none,.fa 3 (.t ⟨.a,.g⟩),[]⟩,⟨some ⟨.a,.i⟩,none,.ld 1 false (.t ⟨.a,.h⟩),[]⟩,⟨some ⟨.a,.j⟩,none,.mkf 131 [.t ⟨.a,.d⟩],[]⟩,⟨some ⟨.a,.k⟩,none,.call 130 [.t ⟨.a,.i⟩,.t
 ⟨.a,.j⟩],[]⟩,⟨some ⟨.a,.e⟩,none,.mv (.t ⟨.a,.k⟩),[]⟩]) .ret),[(⟨.a,.e⟩,none)]⟩
theorem ok101 : FnR Tryz.prog 0 101 cf101 := fnC_ok [5] Tryz.func101 (by kernel_rfl) (by kernel_rfl)
def cf102 : CF := ⟨4,1,.reg [⟨some ⟨.a,.b⟩,none,.ld 1 false (.t ⟨.a,.a⟩),[]⟩,⟨some ⟨.a,.c⟩,none,.bsl 9 1 2 [.s [],.s []] [(0,(1,.c (.c (.s [116,97,98,108,101])))),(1,(1,.c (.c (.s [104,116,109,
 108]))))],[]⟩,⟨some ⟨.a,.d⟩,none,.call 103 [.t ⟨.a,.b⟩,.t ⟨.a,.c⟩],[]⟩],[]⟩
theorem ok102 : FnR Tryz.prog 0 102 cf102 := fnC_ok [] Tryz.func102 (by kernel_rfl) (by kernel_rfl)
def cf103 : CF := ⟨12,2,.reg [⟨some ⟨.a,.g⟩,none,.call 127 [.t ⟨.a,.a⟩],[]⟩,⟨some ⟨.a,.i⟩,none,.call 126 [.t ⟨.a,.g⟩,.t ⟨.a,.b⟩],[]⟩,⟨some ⟨.a,.j⟩,none,.bin .sub (.t ⟨.a,.i⟩) (.c (.c (.i .i64
 (.ofNat 1)))),[]⟩,⟨some ⟨.a,.k⟩,none,.mx (.c (.c (.i .i64 (.ofNat 0)))) (.t ⟨.a,.j⟩),[]⟩,⟨some ⟨.a,.l⟩,none,.call 62 [.t ⟨.a,.a⟩,.t ⟨.a,.k⟩],[]⟩],[]⟩
theorem ok103 : FnR Tryz.prog 0 103 cf103 := fnC_ok [4,5,7] Tryz.func103 (by kernel_rfl) (by kernel_rfl)
def cf104 : CF := ⟨12,1,.reg [⟨some ⟨.a,.e⟩,none,.nc (.t ⟨.a,.a⟩),[]⟩,⟨some ⟨.a,.f⟩,none,.fa 0 (.t ⟨.a,.e⟩),[]⟩,⟨some ⟨.a,.g⟩,none,.ld 1 false (.t ⟨.a,.f⟩),[]⟩,⟨some ⟨.a,.h⟩,none,.bld [.i .i64
 (.ofNat 0),.s [],.sl none 0 0 0,.b false] [(3,(1,.c (.c (.b true))))],[]⟩,⟨some ⟨.a,.i⟩,none,.bsl 125 4 1 [.i .i64 (.ofNat 0),.s [],.sl none 0 0 0,.b false] [(0,(4,.t ⟨.a,.h⟩))],[]⟩,
 ⟨some ⟨.a,.j⟩,none,.app 125 4 false (.t ⟨.a,.g⟩) (.t ⟨.a,.i⟩),[]⟩,⟨some ⟨.a,.k⟩,none,.nc (.t ⟨.a,.a⟩),[]⟩,⟨some ⟨.a,.l⟩,none,.fa 0 (.t ⟨.a,.k⟩),[]⟩,⟨none,none,.st 1 (.t ⟨.a,.l⟩)
 (.t ⟨.a,.j⟩),[]⟩],[]⟩
theorem ok104 : FnR Tryz.prog 0 104 cf104 := fnC_ok [2,3] Tryz.func104 (by kernel_rfl) (by kernel_rfl)
def cf105 : CF := ⟨2,0,.seq (.reg [⟨some ⟨.a,.a⟩,none,.mv (.c (.c (.sl none 0 0 0))),[]⟩]) (.seq (.reg [⟨some ⟨.a,.b⟩,none,.bsl 9 1 3 [.s [],.s [],.s []] [(0,(1,.c (.c (.s [116,98,111,100,121])))),
 (1,(1,.c (.c (.s [116,102,111,111,116])))),(2,(1,.c (.c (.s [116,104,101,97,100]))))],[]⟩,⟨some ⟨.a,.a⟩,none,.mv (.t ⟨.a,.b⟩),[]⟩]) .ret),[(⟨.a,.a⟩,none)]⟩
theorem ok105 : FnR Tryz.prog 0 105 cf105 := fnC_ok [] Tryz.func105 (by kernel_rfl) (by kernel_rfl)
def cf106 : CF := ⟨12,3,.seq (.reg [⟨some ⟨.a,.g⟩,none,.mv (.c (.c (.b false))),[]⟩]) (.seq (.reg [⟨some ⟨.a,.i⟩,none,.call 127 [.t ⟨.a,.a⟩],[]⟩,⟨some ⟨.a,.l⟩,none,.call 132 [.t ⟨.a,.i⟩,.t ⟨.a,.b⟩,
 .t ⟨.a,.c⟩],[]⟩,⟨some ⟨.a,.g⟩,none,.mv (.t ⟨.a,.l⟩),[]⟩]) .ret),[(⟨.a,.g⟩,none)]⟩
theorem ok106 : FnR Tryz.prog 0 106 cf106 := fnC_ok [7,9,10] Tryz.func106 (by kernel_rfl) (by kernel_rfl)
def cf108 : CF := ⟨6,1,.seq (.reg [⟨some ⟨.a,.b⟩,none,.new 51 (.t ⟨.a,.a⟩),[]⟩,⟨some ⟨.a,.c⟩,none,.mv (.c (.c (.b false))),[]⟩]) (.seq (.reg [⟨some ⟨.a,.d⟩,none,.ld 5 true (.t ⟨.a,.b⟩),[]⟩,⟨some ⟨.a,
 .e⟩,none,.bsl 9 1 9 [.s [],.s [],.s [],.s [],.s [],.s [],.s [],.s [],.s []] [(0,(1,.c (.c (.s [99,97,112,116,105,111,110])))),(1,(1,.c (.c (.s [99,111,108])))),(2,(1,.c (.c
 (.s [99,111,108,103,114,111,117,112])))),(3,(1,.c (.c (.s [116,98,111,100,121])))),(4,(1,.c (.c (.s [116,100])))),(5,(1,.c (.c (.s [116,102,111,111,116])))),(6,(1,.c (.c
 (.s [116,104])))),(7,(1,.c (.c (.s [116,104,101,97,100])))),(8,(1,.c (.c (.s [116,114]))))],[]⟩,⟨some ⟨.a,.f⟩,none,.call 95 [.t ⟨.a,.d⟩,.t ⟨.a,.e⟩],[]⟩,⟨some ⟨.a,.c⟩,none,.mv
 (.t ⟨.a,.f⟩),[]⟩]) .ret),[(⟨.a,.c⟩,none)]⟩
theorem ok108 : FnR Tryz.prog 0 108 cf108 := fnC_ok [] Tryz.func108 (by kernel_rfl) (by kernel_rfl)
def cf109 : CF := ⟨10,2,.reg [⟨some ⟨.a,.g⟩,none,.call 127 [.t ⟨.a,.a⟩],[]⟩,⟨some ⟨.a,.i⟩,none,.call 134 [.t ⟨.a,.g⟩,.t ⟨.a,.b⟩],[]⟩,⟨some ⟨.a,.j⟩,none,.call 62 [.t ⟨.a,.a⟩,.t ⟨.a,.i⟩],[]⟩],[]⟩
theorem ok109 : FnR Tryz.prog 0 109 cf109 := fnC_ok [4,5,7] Tryz.func109 (by kernel_rfl) (by kernel_rfl)
def cf110 : CF := ⟨14,1,.dreg [⟨some ⟨.a,.c⟩,none,.mv (.t ⟨.a,.a⟩),[]⟩,⟨some ⟨.a,.d⟩,none,.mv (.t ⟨.a,.a⟩),[]⟩,⟨some ⟨.a,.e⟩,none,.nc (.t ⟨.a,.d⟩),[]⟩,⟨some ⟨.a,.f⟩,none,.fa 0 (.t ⟨.a,.e⟩),
 []⟩,⟨some ⟨.a,.g⟩,none,.ld 1 false (.t ⟨.a,.f⟩),[]⟩,⟨some ⟨.a,.h⟩,none,.mv (.t ⟨.a,.a⟩),[]⟩,⟨some ⟨.a,.i⟩,none,.call 135 [.t ⟨.a,.h⟩],[⟨some ⟨.a,.g⟩,none,.ld 1 false (.t ⟨.a,
 .f⟩)⟩]⟩,⟨some ⟨.a,.j⟩,none,.bin .sub (.t ⟨.a,.i⟩) (.c (.c (.i .i64 (.ofNat 1)))),[]⟩,⟨some ⟨.a,.k⟩,none,.mx (.c (.c (.i .i64 (.ofNat 0)))) (.t ⟨.a,.j⟩),[]⟩,⟨some ⟨.a,.l⟩,none,.slc 4
 (.t ⟨.a,.g⟩) none (some (.t ⟨.a,.k⟩)) none,[]⟩,⟨some ⟨.a,.m⟩,none,.nc (.t ⟨.a,.c⟩),[]⟩,⟨some ⟨.a,.n⟩,none,.fa 0 (.t ⟨.a,.m⟩),[]⟩,⟨none,none,.st 1 (.t ⟨.a,.n⟩) (.t ⟨.a,.l⟩),[]⟩],
 []⟩
theorem ok110 : FnR Tryz.prog 0 110 cf110 := fnC_ok [] Tryz.func110 (by kernel_rfl) (by kernel_rfl)
def cf111 : CF := ⟨6,1,.dreg [⟨some ⟨.a,.b⟩,none,.ld 1 false (.t ⟨.a,.a⟩),[]⟩,⟨some ⟨.a,.d⟩,none,.bsl 9 1 1 [.s []] [(0,(1,.c (.c (.s [104,116,109,108]))))],[]⟩,⟨some ⟨.a,.c⟩,none,.call 105 [],
 [⟨some ⟨.a,.b⟩,none,.ld 1 false (.t ⟨.a,.a⟩)⟩]⟩,⟨some ⟨.a,.e⟩,none,.app 9 1 false (.t ⟨.a,.c⟩) (.t ⟨.a,.d⟩),[⟨some ⟨.a,.b⟩,none,.ld 1 false (.t ⟨.a,.a⟩)⟩]⟩,⟨some ⟨.a,.f⟩,none,.call
 103 [.t ⟨.a,.b⟩,.t ⟨.a,.e⟩],[]⟩],[]⟩
theorem ok111 : FnR Tryz.prog 0 111 cf111 := fnC_ok [] Tryz.func111 (by kernel_rfl) (by kernel_rfl)
def cf112 : CF := ⟨9,1,.seq (.reg [⟨some ⟨.a,.b⟩,none,.ld 1 false (.t ⟨.a,.a⟩),[]⟩,⟨some ⟨.a,.c⟩,none,.bsl 9 1 2 [.s [],.s []] [(0,(1,.c (.c (.s [116,114])))),(1,(1,.c (.c (.s [104,116,109,
 108]))))],[]⟩,⟨some ⟨.a,.d⟩,none,.call 103 [.t ⟨.a,.b⟩,.t ⟨.a,.c⟩],[]⟩]) (.seq (.reg [⟨some ⟨.a,.e⟩,none,.ld 1 false (.t ⟨.a,.a⟩),[]⟩,⟨some ⟨.a,.f⟩,none,.call 62 [.t ⟨.a,.e⟩,.c
 (.c (.i .i64 (.ofNat 1)))],[]⟩]) (.reg [⟨some ⟨.a,.g⟩,none,.ld 1 false (.t ⟨.a,.a⟩),[]⟩,⟨some ⟨.a,.h⟩,none,.nc (.t ⟨.a,.g⟩),[]⟩,⟨some ⟨.a,.i⟩,none,.fa 5 (.t ⟨.a,.h⟩),[]⟩,⟨none,
 none,.st 1 (.t ⟨.a,.i⟩) (.c (.c (.i .i64 (.ofNat 10)))),[]⟩])),[]⟩
theorem ok112 : FnR Tryz.prog 0 112 cf112 := fnC_ok [] Tryz.func112 (by kernel_rfl) (by kernel_rfl)
def cf113 : CF := ⟨15,1,.seq (.reg [⟨some ⟨.a,.b⟩,none,.mv (.c (.c (.b false))),[]⟩]) (.seq (.reg [⟨some ⟨.a,.c⟩,none,.ld 1 false (.t ⟨.a,.a⟩),[]⟩,⟨some ⟨.a,.d⟩,none,.call 109 [.t ⟨.a,.c⟩,.c (.c (.s
 []))],[]⟩]) (.seq (.reg [⟨some ⟨.a,.e⟩,none,.ld 1 false (.t ⟨.a,.a⟩),[]⟩,⟨some ⟨.a,.f⟩,none,.bsl 9 1 2 [.s [],.s []] [(0,(1,.c (.c (.s [116,100])))),(1,(1,.c (.c (.s [116,104]))))],
 []⟩,⟨some ⟨.a,.g⟩,none,.call 99 [.t ⟨.a,.e⟩,.t ⟨.a,.f⟩],[]⟩]) (.seq (.reg [⟨some ⟨.a,.h⟩,none,.ld 1 false (.t ⟨.a,.a⟩),[]⟩,⟨some ⟨.a,.i⟩,none,.nc (.t ⟨.a,.h⟩),[]⟩,⟨some ⟨.a,.j⟩,
 none,.fa 4 (.t ⟨.a,.i⟩),[]⟩,⟨some ⟨.a,.k⟩,none,.ld 1 false (.t ⟨.a,.j⟩),[]⟩,⟨some ⟨.a,.l⟩,none,.call 110 [.t ⟨.a,.k⟩],[]⟩]) (.seq (.reg [⟨some ⟨.a,.m⟩,none,.ld 1 false (.t ⟨.a,
 .a⟩),[]⟩,⟨some ⟨.a,.n⟩,none,.nc (.t ⟨.a,.m⟩),[]⟩,⟨some ⟨.a,.o⟩,none,.fa 5 (.t ⟨.a,.n⟩),[]⟩,⟨none,none,.st 1 (.t ⟨.a,.o⟩) (.c (.c (.i .i64 (.ofNat 11)))),[]⟩]) (.seq (.reg [⟨some
 ⟨.a,.b⟩,none,.mv (.c (.c (.b true))),[]⟩]) .ret))))),[(⟨.a,.b⟩,none)]⟩
theorem ok113 : FnR Tryz.prog 0 113 cf113 := fnC_ok [] Tryz.func113 (by kernel_rfl) (by kernel_rfl)
def cf114 : CF := ⟨53,1,.seq (.reg [⟨some ⟨.a,.g⟩,none,.nc (.t ⟨.a,.a⟩),[]⟩,⟨some ⟨.a,.h⟩,none,.fa 4 (.t ⟨.a,.g⟩),[]⟩,⟨some ⟨.a,.i⟩,none,.ld 1 false (.t ⟨.a,.h⟩),[]⟩,⟨some ⟨.a,.j⟩,none,.call 136
 [.t ⟨.a,.i⟩],[]⟩,⟨some ⟨.a,.c⟩,none,.mv (.t ⟨.a,.j⟩),[]⟩]) (.seq (.blk 0 (.loop (.seq (.seq (.reg [⟨some ⟨.a,.l⟩,none,.bin .gtr (.t ⟨.a,.c⟩) (.c (.c (.i .i64 (.ofNat 0)))),[]⟩,⟨some
 ⟨.a,.m⟩,none,.mv (.t ⟨.a,.l⟩),[]⟩,⟨some ⟨.a,.n⟩,some (⟨.a,.m⟩,true),.mv (.t ⟨.a,.a⟩),[]⟩,⟨some ⟨.a,.o⟩,some (⟨.a,.m⟩,true),.mv (.t ⟨.a,.c⟩),[]⟩,⟨some ⟨.a,.p⟩,some (⟨.a,.m⟩,
 true),.bin .sub (.t ⟨.a,.o⟩) (.c (.c (.i .i64 (.ofNat 1)))),[]⟩,⟨some ⟨.b,.a⟩,some (⟨.a,.m⟩,true),.call 137 [.t ⟨.a,.n⟩,.t ⟨.a,.p⟩],[]⟩,⟨some ⟨.b,.b⟩,some (⟨.a,.m⟩,true),.un .not
 (.t ⟨.b,.a⟩),[]⟩,⟨some ⟨.b,.c⟩,none,.pk (.t ⟨.a,.m⟩) (.t ⟨.b,.b⟩) (.c (.c (.b false))),[]⟩]) (.cond (.t ⟨.b,.c⟩) .skip (.exit 0))) (.blk 1 (.reg [⟨some ⟨.b,.e⟩,none,.bin .sub (.t ⟨.a,
 .c⟩) (.c (.c (.i .i64 (.ofNat 1)))),[]⟩,⟨some ⟨.a,.c⟩,none,.mv (.t ⟨.b,.e⟩),[]⟩]))))) (.blk 2 (.loop (.seq (.seq (.reg [⟨some ⟨.b,.h⟩,none,.nc (.t ⟨.a,.a⟩),[]⟩,⟨some ⟨.b,.i⟩,none,.fa
 4 (.t ⟨.b,.h⟩),[]⟩,⟨some ⟨.b,.j⟩,none,.ld 1 false (.t ⟨.b,.i⟩),[]⟩,⟨some ⟨.b,.k⟩,none,.call 136 [.t ⟨.b,.j⟩],[]⟩,⟨some ⟨.b,.l⟩,none,.bin .lss (.t ⟨.a,.c⟩) (.t ⟨.b,.k⟩),[]⟩])
 (.cond (.t ⟨.b,.l⟩) .skip (.exit 2))) (.seq (.blk 3 (.seq (.reg [⟨some ⟨.c,.a⟩,none,.nc (.t ⟨.a,.a⟩),[]⟩,⟨some ⟨.c,.b⟩,none,.fa 4 (.t ⟨.c,.a⟩),[]⟩,⟨some ⟨.c,.c⟩,none,.ld 1 false (.t
 ⟨.c,.b⟩),[]⟩,⟨some ⟨.c,.e⟩,none,.call 138 [.t ⟨.c,.c⟩,.t ⟨.a,.c⟩],[]⟩,⟨some ⟨.c,.f⟩,none,.ext 0 (.t ⟨.c,.e⟩),[]⟩,⟨some ⟨.c,.g⟩,none,.ext 1 (.t ⟨.c,.e⟩),[]⟩,⟨some ⟨.a,.d⟩,
 none,.new 123 (.c (.a [.i .i64 (.ofNat 0),.s [],.sl none 0 0 0])),[]⟩,⟨none,none,.st 3 (.t ⟨.a,.d⟩) (.t ⟨.c,.f⟩),[]⟩]) (.dreg [⟨some ⟨.c,.h⟩,none,.mv (.t ⟨.a,.a⟩),[]⟩,⟨some ⟨.c,.i⟩,
 none,.nc (.t ⟨.c,.h⟩),[]⟩,⟨some ⟨.c,.j⟩,none,.fa 4 (.t ⟨.c,.i⟩),[]⟩,⟨some ⟨.c,.k⟩,none,.ld 1 false (.t ⟨.c,.j⟩),[]⟩,⟨some ⟨.c,.l⟩,none,.fa 0 (.t ⟨.a,.d⟩),[]⟩,⟨some ⟨.c,.m⟩,
 none,.ld 1 false (.t ⟨.c,.l⟩),[]⟩,⟨some ⟨.c,.n⟩,none,.mv (.t ⟨.a,.a⟩),[]⟩,⟨some ⟨.c,.o⟩,none,.fa 1 (.t ⟨.a,.d⟩),[]⟩,⟨some ⟨.c,.p⟩,none,.ld 1 false (.t ⟨.c,.o⟩),[]⟩,⟨some ⟨.d,
 .a⟩,none,.fa 2 (.t ⟨.a,.d⟩),[]⟩,⟨some ⟨.d,.b⟩,none,.ld 1 false (.t ⟨.d,.a⟩),[]⟩,⟨some ⟨.d,.c⟩,none,.call 96 [.t ⟨.c,.n⟩,.t ⟨.c,.p⟩,.t ⟨.d,.b⟩],[⟨some ⟨.c,.k⟩,none,.ld 1 false
 (.t ⟨.c,.j⟩)⟩,⟨some ⟨.c,.m⟩,none,.ld 1 false (.t ⟨.c,.l⟩)⟩]⟩,⟨some ⟨.d,.d⟩,none,.call 140 [.t ⟨.d,.c⟩],[⟨some ⟨.c,.k⟩,none,.ld 1 false (.t ⟨.c,.j⟩)⟩,⟨some ⟨.c,.m⟩,none,.ld 1 false
 (.t ⟨.c,.l⟩)⟩]⟩,⟨some ⟨.d,.e⟩,none,.call 139 [.t ⟨.c,.k⟩,.t ⟨.c,.m⟩,.t ⟨.d,.d⟩],[]⟩]))) (.reg [⟨some ⟨.b,.n⟩,none,.bin .add (.t ⟨.a,.c⟩) (.c (.c (.i .i64 (.ofNat 1)))),[]⟩,⟨some ⟨.a,
 .c⟩,none,.mv (.t ⟨.b,.n⟩),[]⟩])))))),[]⟩
theorem ok114 : FnR Tryz.prog 0 114 cf114 := fnC_ok [4,5,10,19,21,22,28,30,31,35] Tryz.func114 (by kernel_rfl) (by kernel_rfl)
def cf115 : CF := ⟨186,2,.seq (.reg [⟨some ⟨.a,.d⟩,none,.new 51 (.t ⟨.a,.b⟩),[]⟩,⟨some ⟨.a,.e⟩,none,.mv (.c (.c (.b false))),[]⟩]) (.seq (.reg [⟨some ⟨.a,.g⟩,none,.fa 1 (.t ⟨.a,.d⟩),[]⟩,⟨some ⟨.a,
 .h⟩,none,.ld 1 false (.t ⟨.a,.g⟩),[]⟩,⟨some ⟨.a,.f⟩,none,.mv (.t ⟨.a,.h⟩),[]⟩]) (.seq (.blk 0 (.seq (.reg [⟨some ⟨.a,.n⟩,none,.bin .eql (.t ⟨.a,.f⟩) (.c (.c (.s [104,116,109,108]))),
 []⟩,⟨some ⟨.a,.l⟩,none,.mv (.t ⟨.a,.n⟩),[]⟩]) (.cond (.t ⟨.a,.l⟩) (.seq (.seq (.reg [⟨some ⟨.a,.p⟩,none,.nc (.t ⟨.a,.a⟩),[]⟩,⟨some ⟨.b,.a⟩,none,.fa 3 (.t ⟨.a,.p⟩),[]⟩,⟨some ⟨.b,
 .b⟩,none,.ld 1 false (.t ⟨.b,.a⟩),[]⟩,⟨some ⟨.b,.c⟩,none,.len true (.t ⟨.b,.b⟩),[]⟩,⟨some ⟨.b,.d⟩,none,.bin .gtr (.t ⟨.b,.c⟩) (.c (.c (.i .i64 (.ofNat 0)))),[]⟩]) (.cond (.t ⟨.b,.d⟩)
 (.dreg [⟨some ⟨.b,.e⟩,none,.mv (.t ⟨.a,.a⟩),[]⟩,⟨some ⟨.b,.f⟩,none,.nc (.t ⟨.b,.e⟩),[]⟩,⟨some ⟨.b,.g⟩,none,.fa 3 (.t ⟨.b,.f⟩),[]⟩,⟨some ⟨.b,.h⟩,none,.ld 1 false (.t ⟨.b,.g⟩),
 []⟩,⟨some ⟨.b,.i⟩,none,.ia 1 (.t ⟨.b,.h⟩) (.c (.c (.i .i64 (.ofNat 0)))),[]⟩,⟨some ⟨.b,.j⟩,none,.ld 1 false (.t ⟨.b,.i⟩),[]⟩,⟨some ⟨.b,.k⟩,none,.fa 3 (.t ⟨.a,.d⟩),[]⟩,⟨some ⟨.b,
 .l⟩,none,.ld 1 false (.t ⟨.b,.k⟩),[]⟩,⟨some ⟨.b,.m⟩,none,.call 141 [.t ⟨.b,.j⟩,.t ⟨.b,.l⟩],[]⟩]) .skip)) (.seq (.reg [⟨some ⟨.a,.e⟩,none,.mv (.c (.c (.b false))),[]⟩]) .ret)) (.seq
 (.reg [⟨some ⟨.b,.p⟩,none,.bin .eql (.t ⟨.a,.f⟩) (.c (.c (.s [98,111,100,121]))),[]⟩,⟨some ⟨.b,.n⟩,none,.mv (.t ⟨.b,.p⟩),[]⟩]) (.cond (.t ⟨.b,.n⟩) (.seq (.seq (.reg [⟨some ⟨.c,.b⟩,
 none,.nc (.t ⟨.a,.a⟩),[]⟩,⟨some ⟨.c,.c⟩,none,.fa 3 (.t ⟨.c,.b⟩),[]⟩,⟨some ⟨.c,.d⟩,none,.ld 1 false (.t ⟨.c,.c⟩),[]⟩,⟨some ⟨.c,.e⟩,none,.len true (.t ⟨.c,.d⟩),[]⟩,⟨some ⟨.c,.f⟩,
 none,.bin .gtr (.t ⟨.c,.e⟩) (.c (.c (.i .i64 (.ofNat 1)))),[]⟩,⟨some ⟨.c,.g⟩,none,.mv (.t ⟨.c,.f⟩),[]⟩,⟨some ⟨.c,.h⟩,some (⟨.c,.g⟩,true),.mv (.t ⟨.a,.a⟩),[]⟩,⟨some ⟨.c,.i⟩,some
 (⟨.c,.g⟩,true),.nc (.t ⟨.c,.h⟩),[]⟩,⟨some ⟨.c,.j⟩,some (⟨.c,.g⟩,true),.fa 3 (.t ⟨.c,.i⟩),[]⟩,⟨some ⟨.c,.k⟩,some (⟨.c,.g⟩,true),.ld 1 false (.t ⟨.c,.j⟩),[]⟩,⟨some ⟨.c,.l⟩,some
 (⟨.c,.g⟩,true),.ia 1 (.t ⟨.c,.k⟩) (.c (.c (.i .i64 (.ofNat 1)))),[]⟩,⟨some ⟨.c,.m⟩,some (⟨.c,.g⟩,true),.ld 1 false (.t ⟨.c,.l⟩),[]⟩,⟨some ⟨.c,.n⟩,some (⟨.c,.g⟩,true),.nc (.t ⟨.c,
 .m⟩),[]⟩,⟨some ⟨.c,.o⟩,some (⟨.c,.g⟩,true),.fa 2 (.t ⟨.c,.n⟩),[]⟩,⟨some ⟨.c,.p⟩,some (⟨.c,.g⟩,true),.ld 1 false (.t ⟨.c,.o⟩),[]⟩,⟨some ⟨.d,.a⟩,some (⟨.c,.g⟩,true),.bin .eql (.t
 ⟨.c,.p⟩) (.c (.c (.s [98,111,100,121]))),[]⟩,⟨some ⟨.d,.b⟩,none,.pk (.t ⟨.c,.g⟩) (.t ⟨.d,.a⟩) (.c (.c (.b false))),[]⟩]) (.cond (.t ⟨.d,.b⟩) (.dreg [⟨some ⟨.d,.c⟩,none,.mv (.t ⟨.a,
 .a⟩),[]⟩,⟨some ⟨.d,.d⟩,none,.nc (.t ⟨.d,.c⟩),[]⟩,⟨some ⟨.d,.e⟩,none,.fa 3 (.t ⟨.d,.d⟩),[]⟩,⟨some ⟨.d,.f⟩,none,.ld 1 false (.t ⟨.d,.e⟩),[]⟩,⟨some ⟨.d,.g⟩,none,.ia 1 (.t ⟨.d,
 .f⟩) (.c (.c (.i .i64 (.ofNat 1)))),[]⟩,⟨some ⟨.d,.h⟩,none,.ld 1 false (.t ⟨.d,.g⟩),[]⟩,⟨some ⟨.d,.i⟩,none,.fa 3 (.t ⟨.a,.d⟩),[]⟩,⟨some ⟨.d,.j⟩,none,.ld 1 false (.t ⟨.d,.i⟩),[]⟩,
 ⟨some ⟨.d,.k⟩,none,.call 141 [.t ⟨.d,.h⟩,.t ⟨.d,.j⟩],[]⟩]) .skip)) (.seq (.reg [⟨some ⟨.a,.e⟩,none,.mv (.c (.c (.b false))),[]⟩]) .ret)) (.seq (.reg [⟨some ⟨.d,.n⟩,none,.call 100 [.t
 ⟨.a,.f⟩,.c (.c (.i .i64 (.ofNat 8)))],[]⟩,⟨some ⟨.d,.l⟩,none,.mv (.t ⟨.d,.n⟩),[]⟩]) (.cond (.t ⟨.d,.l⟩) (.seq (.reg [⟨some ⟨.d,.p⟩,none,.ld 5 true (.t ⟨.a,.d⟩),[]⟩,⟨some ⟨.e,.a⟩,
 none,.call 66 [.t ⟨.a,.a⟩,.t ⟨.d,.p⟩],[]⟩,⟨some ⟨.a,.e⟩,none,.mv (.t ⟨.e,.a⟩),[]⟩]) .ret) (.seq (.reg [⟨some ⟨.e,.d⟩,none,.bsl 9 1 12 [.s [],.s [],.s [],.s [],.s [],.s [],.s [],
 .s [],.s [],.s [],.s [],.s []] [(0,(1,.c (.c (.s [102,114,97,109,101,115,101,116])))),(1,(1,.c (.c (.s [99,97,112,116,105,111,110])))),(2,(1,.c (.c (.s [99,111,108])))),
 (3,(1,.c (.c (.s [99,111,108,103,114,111,117,112])))),(4,(1,.c (.c (.s [102,114,97,109,101])))),(5,(1,.c (.c (.s [104,101,97,100])))),(6,(1,.c (.c (.s [116,98,111,100,
 121])))),(7,(1,.c (.c (.s [116,100])))),(8,(1,.c (.c (.s [116,102,111,111,116])))),(9,(1,.c (.c (.s [116,104])))),(10,(1,.c (.c (.s [116,104,101,97,100])))),(11,(1,.c (.c (.s
 [116,114]))))],[]⟩,⟨some ⟨.e,.e⟩,none,.call 33 [.t ⟨.a,.f⟩,.t ⟨.e,.d⟩],[]⟩,⟨some ⟨.e,.b⟩,none,.mv (.t ⟨.e,.e⟩),[]⟩]) (.cond (.t ⟨.e,.b⟩) (.seq (.reg [⟨some ⟨.a,.e⟩,none,.mv (.c
 (.c (.b false))),[]⟩]) .ret) (.seq (.seq (.reg [⟨some ⟨.e,.h⟩,none,.call 100 [.t ⟨.a,.f⟩,.c (.c (.i .i64 (.ofNat 6)))],[]⟩,⟨some ⟨.e,.f⟩,none,.mv (.t ⟨.e,.h⟩),[]⟩]) (.cond (.t ⟨.e,.f⟩)
 .skip (.reg [⟨some ⟨.e,.j⟩,none,.bsl 9 1 3 [.s [],.s [],.s []] [(0,(1,.c (.c (.s [112])))),(1,(1,.c (.c (.s [108,105,115,116,105,110,103])))),(2,(1,.c (.c (.s [112,108,97,105,
 110,116,101,120,116]))))],[]⟩,⟨some ⟨.e,.k⟩,none,.call 33 [.t ⟨.a,.f⟩,.t ⟨.e,.j⟩],[]⟩,⟨some ⟨.e,.f⟩,none,.mv (.t ⟨.e,.k⟩),[]⟩]))) (.cond (.t ⟨.e,.f⟩) (.reg [⟨some ⟨.e,.m⟩,none,
 .call 142 [.t ⟨.a,.a⟩],[]⟩]) (.seq (.reg [⟨some ⟨.e,.p⟩,none,.call 100 [.t ⟨.a,.f⟩,.c (.c (.i .i64 (.ofNat 5)))],[]⟩,⟨some ⟨.e,.n⟩,none,.mv (.t ⟨.e,.p⟩),[]⟩]) (.cond (.t ⟨.e,.n⟩) (.seq
 (.reg [⟨some ⟨.f,.b⟩,none,.call 142 [.t ⟨.a,.a⟩],[]⟩]) (.seq (.reg [⟨some ⟨.f,.d⟩,none,.call 58 [.t ⟨.a,.a⟩],[]⟩,⟨some ⟨.f,.e⟩,none,.nc (.t ⟨.f,.d⟩),[]⟩,⟨some ⟨.f,.f⟩,none,.fa 2
 (.t ⟨.f,.e⟩),[]⟩,⟨some ⟨.f,.g⟩,none,.ld 1 false (.t ⟨.f,.f⟩),[]⟩,⟨some ⟨.f,.h⟩,none,.call 100 [.t ⟨.f,.g⟩,.c (.c (.i .i64 (.ofNat 5)))],[]⟩]) (.cond (.t ⟨.f,.h⟩) (.reg [⟨some ⟨.f,
 .j⟩,none,.call 62 [.t ⟨.a,.a⟩,.c (.c (.i .i64 (.ofNat 1)))],[]⟩]) .skip))) (.seq (.reg [⟨some ⟨.f,.m⟩,none,.bin .eql (.t ⟨.a,.f⟩) (.c (.c (.s [108,105]))),[]⟩,⟨some ⟨.f,.k⟩,none,.mv
 (.t ⟨.f,.m⟩),[]⟩]) (.cond (.t ⟨.f,.k⟩) (.reg [⟨some ⟨.f,.o⟩,none,.bsl 9 1 1 [.s []] [(0,(1,.c (.c (.s [108,105]))))],[]⟩,⟨some ⟨.f,.p⟩,none,.call 143 [.t ⟨.a,.a⟩,.t ⟨.f,.o⟩],[]⟩])
 (.seq (.reg [⟨some ⟨.g,.c⟩,none,.bin .eql (.t ⟨.a,.f⟩) (.c (.c (.s [100,100]))),[]⟩,⟨some ⟨.g,.d⟩,none,.mv (.t ⟨.g,.c⟩),[]⟩,⟨some ⟨.g,.e⟩,some (⟨.g,.d⟩,false),.mv (.t ⟨.a,.f⟩),
 []⟩,⟨some ⟨.g,.f⟩,some (⟨.g,.d⟩,false),.bin .eql (.t ⟨.g,.e⟩) (.c (.c (.s [100,116]))),[]⟩,⟨some ⟨.g,.g⟩,none,.pk (.t ⟨.g,.d⟩) (.c (.c (.b true))) (.t ⟨.g,.f⟩),[]⟩,⟨some ⟨.g,.a⟩,
 none,.mv (.t ⟨.g,.g⟩),[]⟩]) (.cond (.t ⟨.g,.a⟩) (.reg [⟨some ⟨.g,.i⟩,none,.bsl 9 1 2 [.s [],.s []] [(0,(1,.c (.c (.s [100,100])))),(1,(1,.c (.c (.s [100,116]))))],[]⟩,⟨some ⟨.g,.j⟩,
 none,.call 143 [.t ⟨.a,.a⟩,.t ⟨.g,.i⟩],[]⟩]) (.seq (.reg [⟨some ⟨.g,.m⟩,none,.bin .eql (.t ⟨.a,.f⟩) (.c (.c (.s [97]))),[]⟩,⟨some ⟨.g,.n⟩,none,.mv (.t ⟨.g,.m⟩),[]⟩,⟨some ⟨.g,.o⟩,
 some (⟨.g,.n⟩,false),.mv (.t ⟨.a,.f⟩),[]⟩,⟨some ⟨.g,.p⟩,some (⟨.g,.n⟩,false),.bin .eql (.t ⟨.g,.o⟩) (.c (.c (.s [110,111,98,114]))),[]⟩,⟨some ⟨.h,.a⟩,none,.pk (.t ⟨.g,.n⟩) (.c
 (.c (.b true))) (.t ⟨.g,.p⟩),[]⟩,⟨some ⟨.h,.b⟩,none,.mv (.t ⟨.h,.a⟩),[]⟩,⟨some ⟨.h,.c⟩,some (⟨.h,.b⟩,false),.mv (.t ⟨.a,.f⟩),[]⟩,⟨some ⟨.h,.d⟩,some (⟨.h,.b⟩,false),.call 100 [.t
 ⟨.h,.c⟩,.c (.c (.i .i64 (.ofNat 3)))],[]⟩,⟨some ⟨.h,.e⟩,none,.pk (.t ⟨.h,.b⟩) (.c (.c (.b true))) (.t ⟨.h,.d⟩),[]⟩,⟨some ⟨.g,.k⟩,none,.mv (.t ⟨.h,.e⟩),[]⟩]) (.cond (.t ⟨.g,.k⟩) (.seq
 (.reg [⟨some ⟨.h,.g⟩,none,.ld 5 true (.t ⟨.a,.d⟩),[]⟩,⟨some ⟨.h,.h⟩,none,.call 144 [.t ⟨.a,.a⟩,.t ⟨.h,.g⟩],[]⟩]) (.seq (.reg [⟨some ⟨.a,.e⟩,none,.mv (.c (.c (.b false))),[]⟩]) .ret))
 (.seq (.reg [⟨some ⟨.h,.k⟩,none,.bin .eql (.t ⟨.a,.f⟩) (.c (.c (.s [116,97,98,108,101]))),[]⟩,⟨some ⟨.h,.i⟩,none,.mv (.t ⟨.h,.k⟩),[]⟩]) (.cond (.t ⟨.h,.i⟩) (.seq (.reg [⟨some ⟨.h,
 .m⟩,none,.call 142 [.t ⟨.a,.a⟩],[]⟩]) (.seq (.reg [⟨some ⟨.h,.p⟩,none,.fa 3 (.t ⟨.a,.d⟩),[]⟩,⟨some ⟨.i,.a⟩,none,.ld 1 false (.t ⟨.h,.p⟩),[]⟩,⟨some ⟨.i,.b⟩,none,.call 96 [.t ⟨.a,
 .a⟩,.t ⟨.a,.f⟩,.t ⟨.i,.a⟩],[]⟩]) (.seq (.reg [⟨some ⟨.i,.d⟩,none,.nc (.t ⟨.a,.a⟩),[]⟩,⟨some ⟨.i,.e⟩,none,.fa 5 (.t ⟨.i,.d⟩),[]⟩,⟨none,none,.st 1 (.t ⟨.i,.e⟩) (.c (.c (.i .i64
 (.ofNat 7)))),[]⟩]) (.seq (.reg [⟨some ⟨.a,.e⟩,none,.mv (.c (.c (.b false))),[]⟩]) .ret)))) (.seq (.reg [⟨some ⟨.i,.h⟩,none,.bin .eql (.t ⟨.a,.f⟩) (.c (.c (.s [112,97,114,97,109]))),
 []⟩,⟨some ⟨.i,.i⟩,none,.mv (.t ⟨.i,.h⟩),[]⟩,⟨some ⟨.i,.j⟩,some (⟨.i,.i⟩,false),.mv (.t ⟨.a,.f⟩),[]⟩,⟨some ⟨.i,.k⟩,some (⟨.i,.i⟩,false),.bin .eql (.t ⟨.i,.j⟩) (.c (.c (.s [115,
 111,117,114,99,101]))),[]⟩,⟨some ⟨.i,.l⟩,none,.pk (.t ⟨.i,.i⟩) (.c (.c (.b true))) (.t ⟨.i,.k⟩),[]⟩,⟨some ⟨.i,.m⟩,none,.mv (.t ⟨.i,.l⟩),[]⟩,⟨some ⟨.i,.n⟩,some (⟨.i,.m⟩,false),
 .mv (.t ⟨.a,.f⟩),[]⟩,⟨some ⟨.i,.o⟩,some (⟨.i,.m⟩,false),.bin .eql (.t ⟨.i,.n⟩) (.c (.c (.s [116,114,97,99,107]))),[]⟩,⟨some ⟨.i,.p⟩,none,.pk (.t ⟨.i,.m⟩) (.c (.c (.b true))) (.t
 ⟨.i,.o⟩),[]⟩,⟨some ⟨.i,.f⟩,none,.mv (.t ⟨.i,.p⟩),[]⟩]) (.cond (.t ⟨.i,.f⟩) (.seq (.reg [⟨some ⟨.j,.c⟩,none,.fa 3 (.t ⟨.a,.d⟩),[]⟩,⟨some ⟨.j,.d⟩,none,.ld 1 false (.t ⟨.j,.c⟩),[]⟩,
 ⟨some ⟨.j,.e⟩,none,.call 98 [.t ⟨.a,.a⟩,.t ⟨.a,.f⟩,.t ⟨.j,.d⟩],[]⟩]) (.seq (.reg [⟨some ⟨.a,.e⟩,none,.mv (.c (.c (.b false))),[]⟩]) .ret)) (.seq (.reg [⟨some ⟨.j,.h⟩,none,.bin .eql
 (.t ⟨.a,.f⟩) (.c (.c (.s [104,114]))),[]⟩,⟨some ⟨.j,.f⟩,none,.mv (.t ⟨.j,.h⟩),[]⟩]) (.cond (.t ⟨.j,.f⟩) (.seq (.reg [⟨some ⟨.j,.j⟩,none,.call 142 [.t ⟨.a,.a⟩],[]⟩]) (.seq (.reg [⟨some
 ⟨.j,.m⟩,none,.fa 3 (.t ⟨.a,.d⟩),[]⟩,⟨some ⟨.j,.n⟩,none,.ld 1 false (.t ⟨.j,.m⟩),[]⟩,⟨some ⟨.j,.o⟩,none,.call 98 [.t ⟨.a,.a⟩,.t ⟨.a,.f⟩,.t ⟨.j,.n⟩],[]⟩]) (.seq (.reg [⟨some ⟨.a,
 .e⟩,none,.mv (.c (.c (.b false))),[]⟩]) .ret))) (.seq (.reg [⟨some ⟨.k,.b⟩,none,.bin .eql (.t ⟨.a,.f⟩) (.c (.c (.s [116,101,120,116,97,114,101,97]))),[]⟩,⟨some ⟨.k,.c⟩,none,.mv (.t
 ⟨.k,.b⟩),[]⟩,⟨some ⟨.k,.d⟩,some (⟨.k,.c⟩,false),.mv (.t ⟨.a,.f⟩),[]⟩,⟨some ⟨.k,.e⟩,some (⟨.k,.c⟩,false),.bin .eql (.t ⟨.k,.d⟩) (.c (.c (.s [105,102,114,97,109,101]))),[]⟩,
 ⟨some ⟨.k,.f⟩,none,.pk (.t ⟨.k,.c⟩) (.c (.c (.b true))) (.t ⟨.k,.e⟩),[]⟩,⟨some ⟨.k,.g⟩,none,.mv (.t ⟨.k,.f⟩),[]⟩,⟨some ⟨.k,.h⟩,some (⟨.k,.g⟩,false),.mv (.t ⟨.a,.f⟩),[]⟩,⟨some
 ⟨.k,.i⟩,some (⟨.k,.g⟩,false),.bin .eql (.t ⟨.k,.h⟩) (.c (.c (.s [110,111,101,109,98,101,100]))),[]⟩,⟨some ⟨.k,.j⟩,none,.pk (.t ⟨.k,.g⟩) (.c (.c (.b true))) (.t ⟨.k,.i⟩),[]⟩,⟨some
 ⟨.j,.p⟩,none,.mv (.t ⟨.k,.j⟩),[]⟩]) (.cond (.t ⟨.j,.p⟩) .skip (.seq (.reg [⟨some ⟨.k,.m⟩,none,.bin .eql (.t ⟨.a,.f⟩) (.c (.c (.s [114,112]))),[]⟩,⟨some ⟨.k,.n⟩,none,.mv (.t ⟨.k,.m⟩),
 []⟩,⟨some ⟨.k,.o⟩,some (⟨.k,.n⟩,false),.mv (.t ⟨.a,.f⟩),[]⟩,⟨some ⟨.k,.p⟩,some (⟨.k,.n⟩,false),.bin .eql (.t ⟨.k,.o⟩) (.c (.c (.s [114,116]))),[]⟩,⟨some ⟨.l,.a⟩,none,.pk (.t ⟨.k,
 .n⟩) (.c (.c (.b true))) (.t ⟨.k,.p⟩),[]⟩,⟨some ⟨.k,.k⟩,none,.mv (.t ⟨.l,.a⟩),[]⟩]) (.cond (.t ⟨.k,.k⟩) (.seq (.reg [⟨some ⟨.l,.c⟩,none,.call 106 [.t ⟨.a,.a⟩,.c (.c (.s [114,117,98,
 121])),.c (.c (.i .i64 (.ofNat 1)))],[]⟩]) (.cond (.t ⟨.l,.c⟩) (.reg [⟨some ⟨.l,.e⟩,none,.call 109 [.t ⟨.a,.a⟩,.c (.c (.s []))],[]⟩]) .skip)) (.seq (.reg [⟨some ⟨.a,.j⟩,none,.ld 5 true
 (.t ⟨.a,.d⟩),[]⟩,⟨some ⟨.a,.k⟩,none,.call 145 [.t ⟨.a,.a⟩,.t ⟨.a,.j⟩],[]⟩,⟨some ⟨.a,.e⟩,none,.mv (.t ⟨.a,.k⟩),[]⟩]) .ret)))))))))))))))))))))))))))))) (.seq (.reg [⟨some ⟨.l,.h⟩,
 none,.fa 3 (.t ⟨.a,.d⟩),[]⟩,⟨some ⟨.l,.i⟩,none,.ld 1 false (.t ⟨.l,.h⟩),[]⟩,⟨some ⟨.l,.j⟩,none,.call 96 [.t ⟨.a,.a⟩,.t ⟨.a,.f⟩,.t ⟨.l,.i⟩],[]⟩]) (.seq (.reg [⟨some ⟨.a,.e⟩,none,
 .mv (.c (.c (.b false))),[]⟩]) .ret)))),[(⟨.a,.e⟩,none)]⟩
theorem ok115 : FnR Tryz.prog 0 115 cf115 := fnC_ok [8,12,14,30,32,60,62,66,70,72,75,78,80,82,88,91,93,97,103,107,117,121,123,125,126,130,134,144,145,150,152,154,155,160,171,177,179,181,182] Tryz.func115 (by kernel_rfl) (by kernel_rfl)
def cf116 : CF := ⟨130,2,.seq (.reg [⟨some ⟨.a,.d⟩,none,.new 51 (.t ⟨.a,.b⟩),[]⟩,⟨some ⟨.a,.e⟩,none,.mv (.c (.c (.b false))),[]⟩]) (.seq (.reg [⟨some ⟨.a,.i⟩,none,.fa 1 (.t ⟨.a,.d⟩),[]⟩,⟨some ⟨.a,
 .j⟩,none,.ld 1 false (.t ⟨.a,.i⟩),[]⟩,⟨some ⟨.a,.f⟩,none,.mv (.t ⟨.a,.j⟩),[]⟩]) (.seq (.blk 0 (.seq (.reg [⟨some ⟨.a,.p⟩,none,.bin .eql (.t ⟨.a,.f⟩) (.c (.c (.s [98,111,100,121]))),
 []⟩,⟨some ⟨.b,.a⟩,none,.mv (.t ⟨.a,.p⟩),[]⟩,⟨some ⟨.b,.b⟩,some (⟨.b,.a⟩,false),.mv (.t ⟨.a,.f⟩),[]⟩,⟨some ⟨.b,.c⟩,some (⟨.b,.a⟩,false),.bin .eql (.t ⟨.b,.b⟩) (.c (.c (.s [104,
 116,109,108]))),[]⟩,⟨some ⟨.b,.d⟩,none,.pk (.t ⟨.b,.a⟩) (.c (.c (.b true))) (.t ⟨.b,.c⟩),[]⟩,⟨some ⟨.a,.n⟩,none,.mv (.t ⟨.b,.d⟩),[]⟩]) (.cond (.t ⟨.a,.n⟩) (.seq (.reg [⟨some ⟨.b,
 .f⟩,none,.call 106 [.t ⟨.a,.a⟩,.c (.c (.s [98,111,100,121])),.c (.c (.i .i64 (.ofNat 1)))],[]⟩]) (.cond (.t ⟨.b,.f⟩) (.seq (.reg [⟨some ⟨.b,.h⟩,none,.nc (.t ⟨.a,.a⟩),[]⟩,⟨some ⟨.b,
 .i⟩,none,.fa 5 (.t ⟨.b,.h⟩),[]⟩,⟨none,none,.st 1 (.t ⟨.b,.i⟩) (.c (.c (.i .i64 (.ofNat 6)))),[]⟩]) (.seq (.reg [⟨some ⟨.b,.k⟩,none,.bin .eql (.t ⟨.a,.f⟩) (.c (.c (.s [104,116,109,
 108]))),[]⟩,⟨some ⟨.a,.e⟩,none,.mv (.t ⟨.b,.k⟩),[]⟩]) .ret)) .skip)) (.seq (.seq (.reg [⟨some ⟨.b,.n⟩,none,.call 100 [.t ⟨.a,.f⟩,.c (.c (.i .i64 (.ofNat 6)))],[]⟩,⟨some ⟨.b,.l⟩,none,
 .mv (.t ⟨.b,.n⟩),[]⟩]) (.cond (.t ⟨.b,.l⟩) .skip (.seq (.reg [⟨some ⟨.b,.p⟩,none,.bin .eql (.t ⟨.a,.f⟩) (.c (.c (.s [98,117,116,116,111,110]))),[]⟩,⟨some ⟨.b,.l⟩,none,.mv (.t ⟨.b,
 .p⟩),[]⟩]) (.cond (.t ⟨.b,.l⟩) .skip (.reg [⟨some ⟨.c,.b⟩,none,.bin .eql (.t ⟨.a,.f⟩) (.c (.c (.s [108,105,115,116,105,110,103]))),[]⟩,⟨some ⟨.b,.l⟩,none,.mv (.t ⟨.c,.b⟩),[]⟩])))))
 (.cond (.t ⟨.b,.l⟩) (.seq (.reg [⟨some ⟨.c,.e⟩,none,.call 106 [.t ⟨.a,.a⟩,.t ⟨.a,.f⟩,.c (.c (.i .i64 (.ofNat 1)))],[]⟩]) (.cond (.t ⟨.c,.e⟩) (.seq (.reg [⟨some ⟨.c,.g⟩,none,.call 109 [.t
 ⟨.a,.a⟩,.c (.c (.s []))],[]⟩]) (.reg [⟨some ⟨.c,.j⟩,none,.bsl 9 1 1 [.s []] [(0,(1,.t ⟨.a,.f⟩))],[]⟩,⟨some ⟨.c,.k⟩,none,.call 99 [.t ⟨.a,.a⟩,.t ⟨.c,.j⟩],[]⟩])) .skip)) (.seq (.reg
 [⟨some ⟨.c,.n⟩,none,.bin .eql (.t ⟨.a,.f⟩) (.c (.c (.s [112]))),[]⟩,⟨some ⟨.c,.l⟩,none,.mv (.t ⟨.c,.n⟩),[]⟩]) (.cond (.t ⟨.c,.l⟩) (.seq (.seq (.reg [⟨some ⟨.c,.p⟩,none,.call 106 [.t
 ⟨.a,.a⟩,.c (.c (.s [112])),.c (.c (.i .i64 (.ofNat 3)))],[]⟩,⟨some ⟨.d,.a⟩,none,.un .not (.t ⟨.c,.p⟩),[]⟩]) (.cond (.t ⟨.d,.a⟩) (.reg [⟨some ⟨.d,.c⟩,none,.call 96 [.t ⟨.a,.a⟩,.c (.c
 (.s [112])),.c (.c (.sl none 0 0 0))],[]⟩]) .skip)) (.reg [⟨some ⟨.d,.e⟩,none,.call 142 [.t ⟨.a,.a⟩],[]⟩])) (.seq (.reg [⟨some ⟨.d,.h⟩,none,.bin .eql (.t ⟨.a,.f⟩) (.c (.c (.s [108,
 105]))),[]⟩,⟨some ⟨.d,.f⟩,none,.mv (.t ⟨.d,.h⟩),[]⟩]) (.cond (.t ⟨.d,.f⟩) (.seq (.reg [⟨some ⟨.d,.k⟩,none,.call 106 [.t ⟨.a,.a⟩,.t ⟨.a,.f⟩,.c (.c (.i .i64 (.ofNat 2)))],[]⟩]) (.cond
 (.t ⟨.d,.k⟩) (.seq (.reg [⟨some ⟨.d,.n⟩,none,.call 109 [.t ⟨.a,.a⟩,.t ⟨.a,.f⟩],[]⟩]) (.reg [⟨some ⟨.e,.a⟩,none,.bsl 9 1 1 [.s []] [(0,(1,.t ⟨.a,.f⟩))],[]⟩,⟨some ⟨.e,.b⟩,none,.call
 99 [.t ⟨.a,.a⟩,.t ⟨.e,.a⟩],[]⟩])) .skip)) (.seq (.reg [⟨some ⟨.e,.e⟩,none,.bin .eql (.t ⟨.a,.f⟩) (.c (.c (.s [100,100]))),[]⟩,⟨some ⟨.e,.f⟩,none,.mv (.t ⟨.e,.e⟩),[]⟩,⟨some ⟨.e,.g⟩,
 some (⟨.e,.f⟩,false),.mv (.t ⟨.a,.f⟩),[]⟩,⟨some ⟨.e,.h⟩,some (⟨.e,.f⟩,false),.bin .eql (.t ⟨.e,.g⟩) (.c (.c (.s [100,116]))),[]⟩,⟨some ⟨.e,.i⟩,none,.pk (.t ⟨.e,.f⟩) (.c (.c (.b
 true))) (.t ⟨.e,.h⟩),[]⟩,⟨some ⟨.e,.c⟩,none,.mv (.t ⟨.e,.i⟩),[]⟩]) (.cond (.t ⟨.e,.c⟩) (.seq (.reg [⟨some ⟨.e,.l⟩,none,.call 106 [.t ⟨.a,.a⟩,.t ⟨.a,.f⟩,.c (.c (.i .i64 (.ofNat 1)))],
 []⟩]) (.cond (.t ⟨.e,.l⟩) (.seq (.reg [⟨some ⟨.e,.o⟩,none,.call 109 [.t ⟨.a,.a⟩,.t ⟨.a,.f⟩],[]⟩]) (.reg [⟨some ⟨.f,.b⟩,none,.bsl 9 1 1 [.s []] [(0,(1,.t ⟨.a,.f⟩))],[]⟩,⟨some ⟨.f,.c⟩,
 none,.call 99 [.t ⟨.a,.a⟩,.t ⟨.f,.b⟩],[]⟩])) .skip)) (.seq (.reg [⟨some ⟨.f,.f⟩,none,.call 100 [.t ⟨.a,.f⟩,.c (.c (.i .i64 (.ofNat 5)))],[]⟩,⟨some ⟨.f,.d⟩,none,.mv (.t ⟨.f,.f⟩),[]⟩])
 (.cond (.t ⟨.f,.d⟩) (.seq (.reg [⟨some ⟨.f,.g⟩,none,.call 146 [],[]⟩,⟨some ⟨.f,.h⟩,none,.len true (.t ⟨.f,.g⟩),[]⟩,⟨some ⟨.f,.i⟩,none,.mv (.c (.c (.i .i64 (.ofNat 0)))),[]⟩]) (.blk 1
 (.loop (.seq (.reg [⟨some ⟨.f,.j⟩,none,.bin .lss (.t ⟨.f,.i⟩) (.t ⟨.f,.h⟩),[]⟩]) (.seq (.cond (.t ⟨.f,.j⟩) .skip (.exit 1)) (.seq (.blk 2 (.seq (.reg [⟨some ⟨.f,.k⟩,none,.ia 1 (.t ⟨.f,.g⟩)
 (.t ⟨.f,.i⟩),[]⟩,⟨some ⟨.f,.l⟩,none,.ld 1 false (.t ⟨.f,.k⟩),[]⟩,⟨some ⟨.a,.h⟩,none,.mv (.t ⟨.f,.l⟩),[]⟩]) (.seq (.reg [⟨some ⟨.f,.o⟩,none,.call 106 [.t ⟨.a,.a⟩,.t ⟨.a,.h⟩,.c (.c
 (.i .i64 (.ofNat 1)))],[]⟩]) (.cond (.t ⟨.f,.o⟩) (.seq (.reg [⟨some ⟨.g,.a⟩,none,.call 109 [.t ⟨.a,.a⟩,.c (.c (.s []))],[]⟩]) (.seq (.reg [⟨some ⟨.g,.c⟩,none,.call 146 [],[]⟩,⟨some ⟨.g,
 .d⟩,none,.call 99 [.t ⟨.a,.a⟩,.t ⟨.g,.c⟩],[]⟩]) (.exit 1))) .skip)))) (.reg [⟨some ⟨.g,.e⟩,none,.bin .add (.t ⟨.f,.i⟩) (.c (.c (.i .i64 (.ofNat 1)))),[]⟩,⟨some ⟨.f,.i⟩,none,.mv (.t
 ⟨.g,.e⟩),[]⟩]))))))) (.seq (.reg [⟨some ⟨.g,.h⟩,none,.call 100 [.t ⟨.a,.f⟩,.c (.c (.i .i64 (.ofNat 3)))],[]⟩,⟨some ⟨.g,.f⟩,none,.mv (.t ⟨.g,.h⟩),[]⟩]) (.cond (.t ⟨.g,.f⟩) (.reg [⟨some
 ⟨.g,.k⟩,none,.call 147 [.t ⟨.a,.a⟩,.t ⟨.a,.f⟩],[]⟩]) (.seq (.reg [⟨some ⟨.g,.n⟩,none,.call 100 [.t ⟨.a,.f⟩,.c (.c (.i .i64 (.ofNat 7)))],[]⟩,⟨some ⟨.g,.l⟩,none,.mv (.t ⟨.g,.n⟩),
 []⟩]) (.cond (.t ⟨.g,.l⟩) (.seq (.reg [⟨some ⟨.h,.a⟩,none,.call 106 [.t ⟨.a,.a⟩,.t ⟨.a,.f⟩,.c (.c (.i .i64 (.ofNat 1)))],[]⟩]) (.cond (.t ⟨.h,.a⟩) (.seq (.reg [⟨some ⟨.h,.c⟩,none,.call
 109 [.t ⟨.a,.a⟩,.c (.c (.s []))],[]⟩]) (.seq (.reg [⟨some ⟨.h,.f⟩,none,.bsl 9 1 1 [.s []] [(0,(1,.t ⟨.a,.f⟩))],[]⟩,⟨some ⟨.h,.g⟩,none,.call 99 [.t ⟨.a,.a⟩,.t ⟨.h,.f⟩],[]⟩]) (.reg
 [⟨some ⟨.h,.i⟩,none,.nc (.t ⟨.a,.a⟩),[]⟩,⟨some ⟨.h,.j⟩,none,.fa 4 (.t ⟨.h,.i⟩),[]⟩,⟨some ⟨.h,.k⟩,none,.ld 1 false (.t ⟨.h,.j⟩),[]⟩,⟨some ⟨.h,.l⟩,none,.call 110 [.t ⟨.h,.k⟩],
 []⟩]))) .skip)) (.seq (.reg [⟨some ⟨.h,.o⟩,none,.bin .eql (.t ⟨.a,.f⟩) (.c (.c (.s [98,114]))),[]⟩,⟨some ⟨.h,.m⟩,none,.mv (.t ⟨.h,.o⟩),[]⟩]) (.cond (.t ⟨.h,.m⟩) (.seq (.reg [⟨some ⟨.i,
 .a⟩,none,.bld [.i .i64 (.ofNat 0),.s [],.s [],.sl none 0 0 0,.b false] [(0,(1,.c (.c (.i .i64 (.ofNat 1))))),(1,(1,.c (.c (.s [98,114]))))],[]⟩,⟨some ⟨.i,.b⟩,none,.call 115 [.t ⟨.a,
 .a⟩,.t ⟨.i,.a⟩],[]⟩,⟨some ⟨.a,.e⟩,none,.mv (.t ⟨.i,.b⟩),[]⟩]) .ret) (.reg [⟨some ⟨.a,.m⟩,none,.call 148 [.t ⟨.a,.a⟩,.t ⟨.a,.f⟩],[]⟩])))))))))))))))))))) (.seq (.reg [⟨some ⟨.a,.e⟩,
 none,.mv (.c (.c (.b false))),[]⟩]) .ret))),[(⟨.a,.e⟩,none)]⟩
theorem ok116 : FnR Tryz.prog 0 116 cf116 := fnC_ok [10,11,14,20,22,25,28,30,32,34,35,37,39,40,44,46,49,51,54,56,57,59,60,62,63,67,73,74,76,77,79,80,84,92,93,95,97,102,104,105,108,110,111,113,115,116,119,125,127] Tryz.func116 (by kernel_rfl) (by kernel_rfl)
def cf117 : CF := ⟨34,1,.seq (.reg [⟨some ⟨.a,.c⟩,none,.mv (.c (.c (.b false))),[]⟩]) (.seq (.seq (.reg [⟨some ⟨.a,.h⟩,none,.len true (.t ⟨.a,.a⟩),[]⟩,⟨some ⟨.a,.i⟩,none,.bin .gtr (.t ⟨.a,.h⟩) (.c (.c
 (.i .i64 (.ofNat 12)))),[]⟩]) (.cond (.t ⟨.a,.i⟩) (.seq (.reg [⟨some ⟨.a,.c⟩,none,.mv (.c (.c (.b false))),[]⟩]) .ret) .skip)) (.seq (.reg [⟨some ⟨.a,.d⟩,none,.mv (.c (.c (.s []))),[]⟩])
 (.seq (.seq (.reg [⟨some ⟨.a,.j⟩,none,.mv (.t ⟨.a,.a⟩),[]⟩,⟨some ⟨.a,.k⟩,none,.len true (.t ⟨.a,.j⟩),[]⟩,⟨some ⟨.a,.l⟩,none,.mv (.c (.c (.i .i64 (.ofNat 0)))),[]⟩]) (.blk 0 (.loop
 (.seq (.reg [⟨some ⟨.a,.m⟩,none,.bin .lss (.t ⟨.a,.l⟩) (.t ⟨.a,.k⟩),[]⟩]) (.seq (.cond (.t ⟨.a,.m⟩) .skip (.exit 0)) (.seq (.blk 1 (.seq (.reg [⟨some ⟨.a,.n⟩,none,.ia 2 (.t ⟨.a,.j⟩) (.t
 ⟨.a,.l⟩),[]⟩,⟨some ⟨.a,.o⟩,none,.ld 2 true (.t ⟨.a,.n⟩),[]⟩,⟨some ⟨.a,.f⟩,none,.new 79 (.c (.a [.s [],.s []])),[]⟩,⟨none,none,.st 2 (.t ⟨.a,.f⟩) (.t ⟨.a,.o⟩),[]⟩]) (.seq (.seq
 (.reg [⟨some ⟨.a,.p⟩,none,.fa 0 (.t ⟨.a,.f⟩),[]⟩,⟨some ⟨.b,.a⟩,none,.ld 1 false (.t ⟨.a,.p⟩),[]⟩,⟨some ⟨.b,.c⟩,none,.bin .leq (.t ⟨.b,.a⟩) (.t ⟨.a,.d⟩),[]⟩,⟨some ⟨.b,.d⟩,none,
 .mv (.t ⟨.b,.c⟩),[]⟩,⟨some ⟨.b,.e⟩,some (⟨.b,.d⟩,false),.fa 0 (.t ⟨.a,.f⟩),[]⟩,⟨some ⟨.b,.f⟩,some (⟨.b,.d⟩,false),.ld 1 false (.t ⟨.b,.e⟩),[]⟩,⟨some ⟨.b,.g⟩,some (⟨.b,.d⟩,
 false),.call 31 [.t ⟨.b,.f⟩],[]⟩,⟨some ⟨.b,.h⟩,some (⟨.b,.d⟩,false),.un .not (.t ⟨.b,.g⟩),[]⟩,⟨some ⟨.b,.i⟩,none,.pk (.t ⟨.b,.d⟩) (.c (.c (.b true))) (.t ⟨.b,.h⟩),[]⟩,⟨some ⟨.b,
 .j⟩,none,.mv (.t ⟨.b,.i⟩),[]⟩,⟨some ⟨.b,.k⟩,some (⟨.b,.j⟩,false),.fa 1 (.t ⟨.a,.f⟩),[]⟩,⟨some ⟨.b,.l⟩,some (⟨.b,.j⟩,false),.ld 1 false (.t ⟨.b,.k⟩),[]⟩,⟨some ⟨.b,.m⟩,some (⟨.b,
 .j⟩,false),.len false (.t ⟨.b,.l⟩),[]⟩,⟨some ⟨.b,.n⟩,some (⟨.b,.j⟩,false),.bin .gtr (.t ⟨.b,.m⟩) (.c (.c (.i .i64 (.ofNat 4096)))),[]⟩,⟨some ⟨.b,.o⟩,none,.pk (.t ⟨.b,.j⟩) (.c (.c (.b
 true))) (.t ⟨.b,.n⟩),[]⟩]) (.cond (.t ⟨.b,.o⟩) (.seq (.reg [⟨some ⟨.a,.c⟩,none,.mv (.c (.c (.b false))),[]⟩]) .ret) .skip)) (.reg [⟨some ⟨.b,.p⟩,none,.fa 0 (.t ⟨.a,.f⟩),[]⟩,⟨some ⟨.c,
 .a⟩,none,.ld 1 false (.t ⟨.b,.p⟩),[]⟩,⟨some ⟨.a,.d⟩,none,.mv (.t ⟨.c,.a⟩),[]⟩])))) (.reg [⟨some ⟨.c,.b⟩,none,.bin .add (.t ⟨.a,.l⟩) (.c (.c (.i .i64 (.ofNat 1)))),[]⟩,⟨some ⟨.a,.l⟩,
 none,.mv (.t ⟨.c,.b⟩),[]⟩]))))))) (.seq (.reg [⟨some ⟨.a,.c⟩,none,.mv (.c (.c (.b true))),[]⟩]) .ret)))),[(⟨.a,.c⟩,none)]⟩
theorem ok117 : FnR Tryz.prog 0 117 cf117 := fnC_ok [6,17] Tryz.func117 (by kernel_rfl) (by kernel_rfl)
def cf121 : CF := ⟨10,1,.seq (.reg [⟨some ⟨.a,.c⟩,none,.mv (.c (.c (.b false))),[]⟩]) (.seq (.seq (.reg [⟨some ⟨.a,.d⟩,none,.mv (.t ⟨.a,.a⟩),[]⟩]) (.blk 0 (.seq (.seq (.reg [⟨some ⟨.a,.f⟩,none,.bin .eql
 (.t ⟨.a,.d⟩) (.c (.c (.s [116,97,98,108,101]))),[]⟩,⟨some ⟨.a,.e⟩,none,.mv (.t ⟨.a,.f⟩),[]⟩]) (.cond (.t ⟨.a,.e⟩) .skip (.seq (.reg [⟨some ⟨.a,.g⟩,none,.bin .eql (.t ⟨.a,.d⟩) (.c (.c
 (.s [116,98,111,100,121]))),[]⟩,⟨some ⟨.a,.e⟩,none,.mv (.t ⟨.a,.g⟩),[]⟩]) (.cond (.t ⟨.a,.e⟩) .skip (.seq (.reg [⟨some ⟨.a,.h⟩,none,.bin .eql (.t ⟨.a,.d⟩) (.c (.c (.s [116,102,111,
 111,116]))),[]⟩,⟨some ⟨.a,.e⟩,none,.mv (.t ⟨.a,.h⟩),[]⟩]) (.cond (.t ⟨.a,.e⟩) .skip (.seq (.reg [⟨some ⟨.a,.i⟩,none,.bin .eql (.t ⟨.a,.d⟩) (.c (.c (.s [116,104,101,97,100]))),[]⟩,
 ⟨some ⟨.a,.e⟩,none,.mv (.t ⟨.a,.i⟩),[]⟩]) (.cond (.t ⟨.a,.e⟩) .skip (.reg [⟨some ⟨.a,.j⟩,none,.bin .eql (.t ⟨.a,.d⟩) (.c (.c (.s [116,114]))),[]⟩,⟨some ⟨.a,.e⟩,none,.mv (.t ⟨.a,.j⟩),
 []⟩]))))))))) (.cond (.t ⟨.a,.e⟩) (.seq (.reg [⟨some ⟨.a,.c⟩,none,.mv (.c (.c (.b true))),[]⟩]) .ret) .skip)))) (.seq (.reg [⟨some ⟨.a,.c⟩,none,.mv (.c (.c (.b false))),[]⟩]) .ret)),[(⟨.a,
 .c⟩,none)]⟩
theorem ok121 : FnR Tryz.prog 0 121 cf121 := fnC_ok [] Tryz.func121 (by kernel_rfl) (by kernel_rfl)
def cf123 : CF := ⟨95,3,.seq (.reg [⟨some ⟨.a,.g⟩,none,.mv (.c (.c (.sl none 0 0 0))),[]⟩]) (.seq (.reg [⟨some ⟨.a,.m⟩,none,.slc 1 (.t ⟨.a,.a⟩) (some (.t ⟨.a,.b⟩)) none none,[]⟩]) (.seq (.reg [⟨some ⟨.a,
 .o⟩,none,.len true (.t ⟨.a,.c⟩),[]⟩,⟨some ⟨.a,.h⟩,none,.mv (.t ⟨.a,.o⟩),[]⟩]) (.seq (.seq (.reg [⟨some ⟨.b,.a⟩,none,.bin .eql (.t ⟨.a,.h⟩) (.c (.c (.i .i64 (.ofNat 0)))),[]⟩]) (.cond
 (.t ⟨.b,.a⟩) (.seq (.reg [⟨some ⟨.a,.g⟩,none,.mv (.t ⟨.a,.a⟩),[]⟩]) .ret) .skip)) (.seq (.reg [⟨some ⟨.b,.d⟩,none,.len true (.t ⟨.a,.a⟩),[]⟩,⟨some ⟨.a,.i⟩,none,.mv (.t ⟨.b,.d⟩),[]⟩])
 (.seq (.seq (.reg [⟨some ⟨.b,.g⟩,none,.bin .eql (.t ⟨.a,.b⟩) (.t ⟨.a,.i⟩),[]⟩]) (.cond (.t ⟨.b,.g⟩) (.seq (.reg [⟨some ⟨.b,.j⟩,none,.app 53 1 false (.t ⟨.a,.a⟩) (.t ⟨.a,.c⟩),[]⟩,⟨some
 ⟨.a,.g⟩,none,.mv (.t ⟨.b,.j⟩),[]⟩]) .ret) .skip)) (.seq (.seq (.reg [⟨some ⟨.b,.m⟩,none,.bin .add (.t ⟨.a,.i⟩) (.t ⟨.a,.h⟩),[]⟩,⟨some ⟨.b,.o⟩,none,.bad,[]⟩,⟨some ⟨.b,.p⟩,none,.bin
 .gtr (.t ⟨.b,.m⟩) (.t ⟨.b,.o⟩),[]⟩]) (.cond (.t ⟨.b,.p⟩) (.seq (.reg [⟨some ⟨.c,.c⟩,none,.slc 1 (.t ⟨.a,.a⟩) none (some (.t ⟨.a,.b⟩)) none,[]⟩,⟨some ⟨.c,.f⟩,none,.bin .add (.t ⟨.a,.i⟩)
 (.t ⟨.a,.h⟩),[]⟩,⟨some ⟨.c,.h⟩,none,.bin .sub (.t ⟨.c,.f⟩) (.t ⟨.a,.b⟩),[]⟩,⟨some ⟨.c,.i⟩,none,.bad,[]⟩,⟨some ⟨.a,.j⟩,none,.mv (.t ⟨.c,.i⟩),[]⟩]) (.seq (.reg [⟨some ⟨.c,.l⟩,
 none,.slc 1 (.t ⟨.a,.j⟩) (some (.t ⟨.a,.b⟩)) none none,[]⟩,⟨some ⟨.c,.n⟩,none,.cp 1 false (.t ⟨.c,.l⟩) (.t ⟨.a,.c⟩),[]⟩]) (.seq (.dreg [⟨some ⟨.c,.o⟩,none,.mv (.t ⟨.a,.j⟩),[]⟩,⟨some
 ⟨.c,.p⟩,none,.mv (.t ⟨.a,.b⟩),[]⟩,⟨some ⟨.d,.a⟩,none,.mv (.t ⟨.a,.h⟩),[]⟩,⟨some ⟨.d,.b⟩,none,.bin .add (.t ⟨.c,.p⟩) (.t ⟨.d,.a⟩),[]⟩,⟨some ⟨.d,.c⟩,none,.slc 1 (.t ⟨.c,.o⟩)
 (some (.t ⟨.d,.b⟩)) none none,[]⟩,⟨some ⟨.d,.d⟩,none,.mv (.t ⟨.a,.a⟩),[]⟩,⟨some ⟨.d,.e⟩,none,.mv (.t ⟨.a,.b⟩),[]⟩,⟨some ⟨.d,.f⟩,none,.slc 1 (.t ⟨.d,.d⟩) (some (.t ⟨.d,.e⟩)) none
 none,[]⟩,⟨some ⟨.d,.g⟩,none,.cp 1 false (.t ⟨.d,.c⟩) (.t ⟨.d,.f⟩),[]⟩]) (.seq (.reg [⟨some ⟨.a,.g⟩,none,.mv (.t ⟨.a,.j⟩),[]⟩]) .ret)))) .skip)) (.seq (.reg [⟨some ⟨.d,.l⟩,none,.bin
 .add (.t ⟨.a,.i⟩) (.t ⟨.a,.h⟩),[]⟩,⟨some ⟨.d,.m⟩,none,.slc 1 (.t ⟨.a,.a⟩) none (some (.t ⟨.d,.l⟩)) none,[]⟩,⟨some ⟨.a,.a⟩,none,.mv (.t ⟨.d,.m⟩),[]⟩]) (.seq (.seq (.reg [⟨some ⟨.e,
 .b⟩,none,.bin .add (.t ⟨.a,.b⟩) (.t ⟨.a,.h⟩),[]⟩,⟨some ⟨.e,.c⟩,none,.slc 1 (.t ⟨.a,.a⟩) (some (.t ⟨.e,.b⟩)) none none,[]⟩,⟨some ⟨.e,.d⟩,none,.call 153 [.t ⟨.a,.c⟩,.t ⟨.e,.c⟩],[]⟩,
 ⟨some ⟨.e,.e⟩,none,.un .not (.t ⟨.e,.d⟩),[]⟩]) (.cond (.t ⟨.e,.e⟩) (.seq (.dreg [⟨some ⟨.e,.f⟩,none,.mv (.t ⟨.a,.a⟩),[]⟩,⟨some ⟨.e,.g⟩,none,.mv (.t ⟨.a,.b⟩),[]⟩,⟨some ⟨.e,.h⟩,
 none,.mv (.t ⟨.a,.h⟩),[]⟩,⟨some ⟨.e,.i⟩,none,.bin .add (.t ⟨.e,.g⟩) (.t ⟨.e,.h⟩),[]⟩,⟨some ⟨.e,.j⟩,none,.slc 1 (.t ⟨.e,.f⟩) (some (.t ⟨.e,.i⟩)) none none,[]⟩,⟨some ⟨.e,.k⟩,none,
 .mv (.t ⟨.a,.a⟩),[]⟩,⟨some ⟨.e,.l⟩,none,.mv (.t ⟨.a,.b⟩),[]⟩,⟨some ⟨.e,.m⟩,none,.slc 1 (.t ⟨.e,.k⟩) (some (.t ⟨.e,.l⟩)) none none,[]⟩,⟨some ⟨.e,.n⟩,none,.cp 1 false (.t ⟨.e,.j⟩)
 (.t ⟨.e,.m⟩),[]⟩]) (.seq (.reg [⟨some ⟨.f,.a⟩,none,.slc 1 (.t ⟨.a,.a⟩) (some (.t ⟨.a,.b⟩)) none none,[]⟩,⟨some ⟨.f,.c⟩,none,.cp 1 false (.t ⟨.f,.a⟩) (.t ⟨.a,.c⟩),[]⟩]) (.seq (.reg
 [⟨some ⟨.a,.g⟩,none,.mv (.t ⟨.a,.a⟩),[]⟩]) .ret))) .skip)) (.seq (.reg [⟨some ⟨.f,.g⟩,none,.slc 1 (.t ⟨.a,.a⟩) (some (.t ⟨.a,.i⟩)) none none,[]⟩,⟨some ⟨.f,.i⟩,none,.cp 1 false (.t ⟨.f,
 .g⟩) (.t ⟨.a,.c⟩),[]⟩]) (.seq (.reg [⟨some ⟨.f,.l⟩,none,.slc 1 (.t ⟨.a,.a⟩) (some (.t ⟨.a,.b⟩)) none none,[]⟩,⟨some ⟨.f,.n⟩,none,.call 154 [.t ⟨.f,.l⟩,.t ⟨.a,.h⟩],[]⟩]) (.seq (.reg
 [⟨some ⟨.a,.g⟩,none,.mv (.t ⟨.a,.a⟩),[]⟩]) .ret))))))))))),[(⟨.a,.g⟩,none)]⟩
theorem ok123 : FnR Tryz.prog 0 123 cf123 := fnC_ok [10,11,13,15,17,18,20,21,23,24,26,27,29,32,33,35,36,38,41,42,44,55,56,57,58,61,62,63,64,78,79,81,83,84,85,87,89,90,92,94] Tryz.func123 (by kernel_rfl) (by kernel_rfl)
def cf124 : CF := ⟨17,1,.seq (.reg [⟨some ⟨.a,.c⟩,none,.mv (.c (.c (.b false))),[]⟩]) (.seq (.reg [⟨some ⟨.a,.e⟩,none,.bin .eql (.t ⟨.a,.a⟩) (.c (.c (.i .u8 (.ofNat 9)))),[]⟩,⟨some ⟨.a,.f⟩,none,.mv (.t
 ⟨.a,.e⟩),[]⟩,⟨some ⟨.a,.g⟩,some (⟨.a,.f⟩,false),.mv (.t ⟨.a,.a⟩),[]⟩,⟨some ⟨.a,.h⟩,some (⟨.a,.f⟩,false),.bin .eql (.t ⟨.a,.g⟩) (.c (.c (.i .u8 (.ofNat 10)))),[]⟩,⟨some ⟨.a,.i⟩,
 none,.pk (.t ⟨.a,.f⟩) (.c (.c (.b true))) (.t ⟨.a,.h⟩),[]⟩,⟨some ⟨.a,.j⟩,none,.mv (.t ⟨.a,.i⟩),[]⟩,⟨some ⟨.a,.k⟩,some (⟨.a,.j⟩,false),.mv (.t ⟨.a,.a⟩),[]⟩,⟨some ⟨.a,.l⟩,some
 (⟨.a,.j⟩,false),.bin .eql (.t ⟨.a,.k⟩) (.c (.c (.i .u8 (.ofNat 12)))),[]⟩,⟨some ⟨.a,.m⟩,none,.pk (.t ⟨.a,.j⟩) (.c (.c (.b true))) (.t ⟨.a,.l⟩),[]⟩,⟨some ⟨.a,.n⟩,none,.mv (.t ⟨.a,
 .m⟩),[]⟩,⟨some ⟨.a,.o⟩,some (⟨.a,.n⟩,false),.mv (.t ⟨.a,.a⟩),[]⟩,⟨some ⟨.a,.p⟩,some (⟨.a,.n⟩,false),.bin .eql (.t ⟨.a,.o⟩) (.c (.c (.i .u8 (.ofNat 32)))),[]⟩,⟨some ⟨.b,.a⟩,none,
 .pk (.t ⟨.a,.n⟩) (.c (.c (.b true))) (.t ⟨.a,.p⟩),[]⟩,⟨some ⟨.a,.c⟩,none,.mv (.t ⟨.b,.a⟩),[]⟩]) .ret),[(⟨.a,.c⟩,none)]⟩
theorem ok124 : FnR Tryz.prog 0 124 cf124 := fnC_ok [3] Tryz.func124 (by kernel_rfl) (by kernel_rfl)
def cf125 : CF := ⟨15,2,.seq (.reg [⟨some ⟨.a,.i⟩,none,.call 90 [.t ⟨.a,.a⟩],[]⟩,⟨some ⟨.a,.j⟩,none,.ext 0 (.t ⟨.a,.i⟩),[]⟩,⟨some ⟨.a,.k⟩,none,.ext 1 (.t ⟨.a,.i⟩),[]⟩,⟨some ⟨.a,.e⟩,none,.mv (.t
 ⟨.a,.j⟩),[]⟩,⟨some ⟨.a,.f⟩,none,.mv (.t ⟨.a,.k⟩),[]⟩]) (.reg [⟨some ⟨.a,.o⟩,none,.call 91 [.t ⟨.a,.e⟩,.t ⟨.a,.b⟩,.t ⟨.a,.f⟩],[]⟩]),[]⟩
theorem ok125 : FnR Tryz.prog 0 125 cf125 := fnC_ok [6,7,11,12,13] Tryz.func125 (by kernel_rfl) (by kernel_rfl)
def cf126 : CF := ⟨31,2,.seq (.reg [⟨some ⟨.a,.e⟩,none,.mv (.c (.c (.i .i64 (.ofNat 0)))),[]⟩]) (.seq (.seq (.reg [⟨some ⟨.a,.f⟩,none,.mv (.c (.c (.i .i64 (.ofNat 1)))),[]⟩]) (.blk 0 (.loop (.seq (.seq (.reg
 [⟨some ⟨.a,.k⟩,none,.len true (.t ⟨.a,.a⟩),[]⟩,⟨some ⟨.a,.l⟩,none,.bin .leq (.t ⟨.a,.f⟩) (.t ⟨.a,.k⟩),[]⟩]) (.cond (.t ⟨.a,.l⟩) .skip (.exit 0))) (.seq (.blk 1 (.seq (.reg [⟨some ⟨.a,
 .o⟩,none,.mv (.t ⟨.a,.b⟩),[]⟩,⟨some ⟨.a,.p⟩,none,.len true (.t ⟨.a,.o⟩),[]⟩,⟨some ⟨.b,.a⟩,none,.mv (.c (.c (.i .i64 (.ofNat 0)))),[]⟩]) (.blk 2 (.loop (.seq (.reg [⟨some ⟨.b,.b⟩,
 none,.bin .lss (.t ⟨.b,.a⟩) (.t ⟨.a,.p⟩),[]⟩]) (.seq (.cond (.t ⟨.b,.b⟩) .skip (.exit 2)) (.seq (.blk 3 (.seq (.reg [⟨some ⟨.b,.c⟩,none,.ia 1 (.t ⟨.a,.o⟩) (.t ⟨.b,.a⟩),[]⟩,⟨some ⟨.b,.d⟩,
 none,.ld 1 false (.t ⟨.b,.c⟩),[]⟩,⟨some ⟨.a,.h⟩,none,.mv (.t ⟨.b,.d⟩),[]⟩]) (.seq (.reg [⟨some ⟨.b,.g⟩,none,.len true (.t ⟨.a,.a⟩),[]⟩,⟨some ⟨.b,.i⟩,none,.bin .sub (.t ⟨.b,.g⟩) (.t
 ⟨.a,.f⟩),[]⟩,⟨some ⟨.b,.j⟩,none,.ia 1 (.t ⟨.a,.a⟩) (.t ⟨.b,.i⟩),[]⟩,⟨some ⟨.b,.k⟩,none,.ld 1 false (.t ⟨.b,.j⟩),[]⟩,⟨some ⟨.b,.m⟩,none,.bin .eql (.t ⟨.b,.k⟩) (.t ⟨.a,.h⟩),[]⟩])
 (.cond (.t ⟨.b,.m⟩) (.seq (.reg [⟨some ⟨.a,.e⟩,none,.mv (.t ⟨.a,.f⟩),[]⟩]) .ret) .skip)))) (.reg [⟨some ⟨.b,.o⟩,none,.bin .add (.t ⟨.b,.a⟩) (.c (.c (.i .i64 (.ofNat 1)))),[]⟩,⟨some ⟨.b,
 .a⟩,none,.mv (.t ⟨.b,.o⟩),[]⟩])))))))) (.reg [⟨some ⟨.a,.n⟩,none,.bin .add (.t ⟨.a,.f⟩) (.c (.c (.i .i64 (.ofNat 1)))),[]⟩,⟨some ⟨.a,.f⟩,none,.mv (.t ⟨.a,.n⟩),[]⟩])))))) (.seq (.reg
 [⟨some ⟨.a,.e⟩,none,.mv (.c (.c (.i .i64 (.ofNat 0)))),[]⟩]) .ret)),[(⟨.a,.e⟩,none)]⟩
theorem ok126 : FnR Tryz.prog 0 126 cf126 := fnC_ok [8,9,12,20,21,23,27,29] Tryz.func126 (by kernel_rfl) (by kernel_rfl)
def cf127 : CF := ⟨24,1,.seq (.reg [⟨some ⟨.a,.c⟩,none,.mv (.c (.c (.sl none 0 0 0))),[]⟩]) (.seq (.reg [⟨some ⟨.a,.d⟩,none,.mv (.c (.c (.sl none 0 0 0))),[]⟩]) (.seq (.seq (.reg [⟨some ⟨.a,.h⟩,none,.nc
 (.t ⟨.a,.a⟩),[]⟩,⟨some ⟨.a,.i⟩,none,.fa 3 (.t ⟨.a,.h⟩),[]⟩,⟨some ⟨.a,.j⟩,none,.ld 1 false (.t ⟨.a,.i⟩),[]⟩,⟨some ⟨.a,.k⟩,none,.len true (.t ⟨.a,.j⟩),[]⟩,⟨some ⟨.a,.l⟩,none,.mv
 (.c (.c (.i .i64 (.ofNat 0)))),[]⟩]) (.blk 0 (.loop (.seq (.reg [⟨some ⟨.a,.m⟩,none,.bin .lss (.t ⟨.a,.l⟩) (.t ⟨.a,.k⟩),[]⟩]) (.seq (.cond (.t ⟨.a,.m⟩) .skip (.exit 0)) (.seq (.blk 1 (.seq
 (.reg [⟨some ⟨.a,.n⟩,none,.ia 1 (.t ⟨.a,.j⟩) (.t ⟨.a,.l⟩),[]⟩,⟨some ⟨.a,.o⟩,none,.ld 1 false (.t ⟨.a,.n⟩),[]⟩,⟨some ⟨.a,.f⟩,none,.mv (.t ⟨.a,.o⟩),[]⟩]) (.reg [⟨some ⟨.b,.b⟩,none,
 .nc (.t ⟨.a,.f⟩),[]⟩,⟨some ⟨.b,.c⟩,none,.fa 2 (.t ⟨.b,.b⟩),[]⟩,⟨some ⟨.b,.d⟩,none,.ld 1 false (.t ⟨.b,.c⟩),[]⟩,⟨some ⟨.b,.e⟩,none,.bsl 9 1 1 [.s []] [(0,(1,.t ⟨.b,.d⟩))],[]⟩,
 ⟨some ⟨.b,.f⟩,none,.app 9 1 false (.t ⟨.a,.d⟩) (.t ⟨.b,.e⟩),[]⟩,⟨some ⟨.a,.d⟩,none,.mv (.t ⟨.b,.f⟩),[]⟩]))) (.reg [⟨some ⟨.b,.g⟩,none,.bin .add (.t ⟨.a,.l⟩) (.c (.c (.i .i64 (.ofNat
 1)))),[]⟩,⟨some ⟨.a,.l⟩,none,.mv (.t ⟨.b,.g⟩),[]⟩]))))))) (.seq (.reg [⟨some ⟨.a,.c⟩,none,.mv (.t ⟨.a,.d⟩),[]⟩]) .ret))),[(⟨.a,.c⟩,none)]⟩
theorem ok127 : FnR Tryz.prog 0 127 cf127 := fnC_ok [6,15,16,23] Tryz.func127 (by kernel_rfl) (by kernel_rfl)
def cf129 : CF := ⟨14,1,.seq (.reg [⟨some ⟨.a,.c⟩,none,.mv (.c (.c (.s []))),[]⟩]) (.seq (.reg [⟨some ⟨.a,.e⟩,none,.bld [.s [],.s [],.s [],.s [],.s [],.s [],.s [],.s [],.s []] [(1,(1,.c (.c (.s [97,
 114,101,97,32,98,97,115,101,32,98,114,32,99,111,108,32,101,109,98,101,100,32,104,114,32,105,109,103,32,105,110,112,117,116,32,108,105,110,107,32,109,101,116,
 97,32,112,97,114,97,109,32,115,111,117,114,99,101,32,116,114,97,99,107,32,119,98,114])))),(2,(1,.c (.c (.s [97,100,100,114,101,115,115,32,97,112,112,108,101,
 116,32,97,114,101,97,32,97,114,116,105,99,108,101,32,97,115,105,100,101,32,98,97,115,101,32,98,108,111,99,107,113,117,111,116,101,32,98,111,100,121,32,98,
 114,32,98,117,116,116,111,110,32,99,97,112,116,105,111,110,32,99,101,110,116,101,114,32,99,111,108,32,99,111,108,103,114,111,117,112,32,100,100,32,100,101,
 116,97,105,108,115,32,100,105,114,32,100,105,118,32,100,108,32,100,116,32,101,109,98,101,100,32,102,105,101,108,100,115,101,116,32,102,105,103,99,97,112,116,
 105,111,110,32,102,105,103,117,114,101,32,102,111,111,116,101,114,32,102,111,114,109,32,104,49,32,104,50,32,104,51,32,104,52,32,104,53,32,104,54,32,104,101,
 97,100,32,104,101,97,100,101,114,32,104,103,114,111,117,112,32,104,114,32,104,116,109,108,32,105,102,114,97,109,101,32,105,109,103,32,105,110,112,117,116,32,
 108,105,32,108,105,110,107,32,109,97,105,110,32,109,97,114,113,117,101,101,32,109,101,110,117,32,109,101,116,97,32,110,97,118,32,110,111,101,109,98,101,100,
 32,110,111,102,114,97,109,101,115,32,111,98,106,101,99,116,32,111,108,32,112,32,112,97,114,97,109,32,112,114,101,32,115,99,114,105,112,116,32,115,101,97,114,
 99,104,32,115,101,99,116,105,111,110,32,115,101,108,101,99,116,32,115,111,117,114,99,101,32,115,116,121,108,101,32,115,117,109,109,97,114,121,32,116,97,98,
 108,101,32,116,98,111,100,121,32,116,100,32,116,101,120,116,97,114,101,97,32,116,102,111,111,116,32,116,104,32,116,104,101,97,100,32,116,105,116,108,101,32,
 116,114,32,116,114,97,99,107,32,117,108,32,119,98,114,32,120,109,112])))),(3,(1,.c (.c (.s [97,32,98,32,98,105,103,32,99,111,100,101,32,101,109,32,102,111,110,
 116,32,105,32,110,111,98,114,32,115,32,115,109,97,108,108,32,115,116,114,105,107,101,32,115,116,114,111,110,103,32,116,116,32,117])))),(4,(1,.c (.c (.s [100,100,
 32,100,116,32,108,105,32,111,112,116,105,111,110,32,112,32,114,112,32,114,116])))),(5,(1,.c (.c (.s [104,49,32,104,50,32,104,51,32,104,52,32,104,53,32,104,
 54])))),(6,(1,.c (.c (.s [97,100,100,114,101,115,115,32,97,114,116,105,99,108,101,32,97,115,105,100,101,32,98,108,111,99,107,113,117,111,116,101,32,99,101,110,
 116,101,114,32,100,101,116,97,105,108,115,32,100,105,114,32,100,105,118,32,100,108,32,102,105,101,108,100,115,101,116,32,102,105,103,99,97,112,116,105,111,
 110,32,102,105,103,117,114,101,32,102,111,111,116,101,114,32,102,111,114,109,32,104,101,97,100,101,114,32,104,103,114,111,117,112,32,109,97,105,110,32,109,
 101,110,117,32,110,97,118,32,111,108,32,112,114,101,32,115,101,97,114,99,104,32,115,101,99,116,105,111,110,32,115,117,109,109,97,114,121,32,117,108])))),(7,
 (1,.c (.c (.s [97,112,112,108,101,116,32,109,97,114,113,117,101,101,32,111,98,106,101,99,116])))),(8,(1,.c (.c (.s [98,97,115,101,32,108,105,110,107,32,109,101,
 116,97,32,116,105,116,108,101,32,115,116,121,108,101,32,115,99,114,105,112,116,32,110,111,102,114,97,109,101,115]))))],[]⟩,⟨some ⟨.a,.d⟩,none,.new 48 (.c (.a [.s [],
 .s [],.s [],.s [],.s [],.s [],.s [],.s [],.s []])),[]⟩,⟨none,none,.st 9 (.t ⟨.a,.d⟩) (.t ⟨.a,.e⟩),[]⟩]) (.seq (.seq (.reg [⟨some ⟨.a,.g⟩,none,.bin .lss (.t ⟨.a,.a⟩) (.c (.c (.i .i64
 (.ofNat 1)))),[]⟩,⟨some ⟨.a,.h⟩,none,.mv (.t ⟨.a,.g⟩),[]⟩,⟨some ⟨.a,.i⟩,some (⟨.a,.h⟩,false),.mv (.t ⟨.a,.a⟩),[]⟩,⟨some ⟨.a,.j⟩,some (⟨.a,.h⟩,false),.bin .geq (.t ⟨.a,.i⟩) (.c
 (.c (.i .i64 (.ofNat 9)))),[]⟩,⟨some ⟨.a,.k⟩,none,.pk (.t ⟨.a,.h⟩) (.c (.c (.b true))) (.t ⟨.a,.j⟩),[]⟩]) (.cond (.t ⟨.a,.k⟩) (.seq (.reg [⟨some ⟨.a,.c⟩,none,.mv (.c (.c (.s []))),[]⟩])
 .ret) .skip)) (.seq (.reg [⟨some ⟨.a,.m⟩,none,.ip 1 9 (.t ⟨.a,.d⟩) (.t ⟨.a,.a⟩),[]⟩,⟨some ⟨.a,.n⟩,none,.ld 1 false (.t ⟨.a,.m⟩),[]⟩,⟨some ⟨.a,.c⟩,none,.mv (.t ⟨.a,.n⟩),[]⟩])
 .ret))),[(⟨.a,.c⟩,none)]⟩
theorem ok129 : FnR Tryz.prog 0 129 cf129 := fnC_ok [5,11] Tryz.func129 (by kernel_rfl) (by kernel_rfl)
def cf130 : CF := ⟨19,2,.seq (.reg [⟨some ⟨.a,.e⟩,none,.mv (.c (.c (.i .i64 (.ofNat 0)))),[]⟩]) (.seq (.seq (.reg [⟨some ⟨.a,.h⟩,none,.len true (.t ⟨.a,.a⟩),[]⟩,⟨some ⟨.a,.i⟩,none,.mv (.c (.c (.i .i64
 (.ofNat 0)))),[]⟩]) (.blk 0 (.loop (.seq (.reg [⟨some ⟨.a,.j⟩,none,.bin .lss (.t ⟨.a,.i⟩) (.t ⟨.a,.h⟩),[]⟩]) (.seq (.cond (.t ⟨.a,.j⟩) .skip (.exit 0)) (.seq (.blk 1 (.seq (.reg [⟨some ⟨.a,
 .f⟩,none,.mv (.t ⟨.a,.i⟩),[]⟩]) (.seq (.reg [⟨some ⟨.a,.o⟩,none,.ia 1 (.t ⟨.a,.a⟩) (.t ⟨.a,.f⟩),[]⟩,⟨some ⟨.a,.p⟩,none,.ld 1 false (.t ⟨.a,.o⟩),[]⟩,⟨some ⟨.b,.a⟩,none,.callv (.t
 ⟨.a,.b⟩) [.t ⟨.a,.p⟩],[]⟩]) (.cond (.t ⟨.b,.a⟩) (.seq (.reg [⟨some ⟨.a,.e⟩,none,.mv (.t ⟨.a,.f⟩),[]⟩]) .ret) .skip)))) (.reg [⟨some ⟨.b,.c⟩,none,.bin .add (.t ⟨.a,.i⟩) (.c (.c (.i .i64
 (.ofNat 1)))),[]⟩,⟨some ⟨.a,.i⟩,none,.mv (.t ⟨.b,.c⟩),[]⟩]))))))) (.seq (.reg [⟨some ⟨.a,.e⟩,none,.mv (.c (.c (.i .i64 (.negSucc 0)))),[]⟩]) .ret)),[(⟨.a,.e⟩,none)]⟩
theorem ok130 : FnR Tryz.prog 0 130 cf130 := fnC_ok [6,10,11,12,13,17] Tryz.func130 (by kernel_rfl) (by kernel_rfl)
def cf131 : CF := ⟨10,2,.seq (.reg [⟨some ⟨.a,.d⟩,none,.mv (.c (.c (.b false))),[]⟩]) (.seq (.dreg [⟨some ⟨.a,.e⟩,none,.mv (.t ⟨.a,.a⟩),[]⟩,⟨some ⟨.a,.f⟩,none,.nc (.t ⟨.a,.e⟩),[]⟩,⟨some ⟨.a,.g⟩,
 none,.fa 0 (.t ⟨.a,.f⟩),[]⟩,⟨some ⟨.a,.h⟩,none,.ld 1 false (.t ⟨.a,.g⟩),[]⟩,⟨some ⟨.a,.i⟩,none,.ld 1 false (.t ⟨.a,.b⟩),[]⟩,⟨some ⟨.a,.j⟩,none,.bin .eql (.t ⟨.a,.h⟩) (.t ⟨.a,
 .i⟩),[]⟩,⟨some ⟨.a,.d⟩,none,.mv (.t ⟨.a,.j⟩),[]⟩]) .ret),[(⟨.a,.d⟩,none)]⟩
theorem ok131 : FnR Tryz.prog 0 131 cf131 := fnC_ok [] Tryz.func131 (by kernel_rfl) (by kernel_rfl)
def cf132 : CF := ⟨27,3,.seq (.reg [⟨some ⟨.a,.g⟩,none,.mv (.c (.c (.b false))),[]⟩]) (.seq (.seq (.reg [⟨some ⟨.a,.j⟩,none,.len true (.t ⟨.a,.a⟩),[]⟩,⟨some ⟨.a,.k⟩,none,.bin .sub (.t ⟨.a,.j⟩) (.c (.c
 (.i .i64 (.ofNat 1)))),[]⟩,⟨some ⟨.a,.h⟩,none,.mv (.t ⟨.a,.k⟩),[]⟩]) (.blk 0 (.loop (.seq (.seq (.reg [⟨some ⟨.a,.m⟩,none,.bin .geq (.t ⟨.a,.h⟩) (.c (.c (.i .i64 (.ofNat 0)))),[]⟩])
 (.cond (.t ⟨.a,.m⟩) .skip (.exit 0))) (.seq (.blk 1 (.seq (.seq (.reg [⟨some ⟨.b,.b⟩,none,.ia 1 (.t ⟨.a,.a⟩) (.t ⟨.a,.h⟩),[]⟩,⟨some ⟨.b,.c⟩,none,.ld 1 false (.t ⟨.b,.b⟩),[]⟩,⟨some ⟨.b,
 .e⟩,none,.bin .eql (.t ⟨.b,.c⟩) (.t ⟨.a,.b⟩),[]⟩]) (.cond (.t ⟨.b,.e⟩) (.seq (.reg [⟨some ⟨.a,.g⟩,none,.mv (.c (.c (.b true))),[]⟩]) .ret) .skip)) (.seq (.reg [⟨some ⟨.b,.h⟩,none,.ia 1
 (.t ⟨.a,.a⟩) (.t ⟨.a,.h⟩),[]⟩,⟨some ⟨.b,.i⟩,none,.ld 1 false (.t ⟨.b,.h⟩),[]⟩,⟨some ⟨.b,.k⟩,none,.call 156 [.t ⟨.b,.i⟩,.t ⟨.a,.c⟩],[]⟩]) (.cond (.t ⟨.b,.k⟩) (.exit 0) .skip))))
 (.reg [⟨some ⟨.a,.o⟩,none,.bin .sub (.t ⟨.a,.h⟩) (.c (.c (.i .i64 (.ofNat 1)))),[]⟩,⟨some ⟨.a,.h⟩,none,.mv (.t ⟨.a,.o⟩),[]⟩])))))) (.seq (.reg [⟨some ⟨.a,.g⟩,none,.mv (.c (.c (.b
 false))),[]⟩]) .ret)),[(⟨.a,.g⟩,none)]⟩
theorem ok132 : FnR Tryz.prog 0 132 cf132 := fnC_ok [8,11,13,15,16,19,21,22,25] Tryz.func132 (by kernel_rfl) (by kernel_rfl)
def cf134 : CF := ⟨30,2,.seq (.reg [⟨some ⟨.a,.e⟩,none,.mv (.c (.c (.i .i64 (.ofNat 0)))),[]⟩]) (.seq (.reg [⟨some ⟨.a,.f⟩,none,.mv (.c (.c (.i .i64 (.ofNat 0)))),[]⟩]) (.seq (.blk 0 (.loop (.seq (.seq (.reg
 [⟨some ⟨.a,.j⟩,none,.len true (.t ⟨.a,.a⟩),[]⟩,⟨some ⟨.a,.k⟩,none,.bin .lss (.t ⟨.a,.f⟩) (.t ⟨.a,.j⟩),[]⟩]) (.cond (.t ⟨.a,.k⟩) .skip (.exit 0))) (.blk 1 (.seq (.reg [⟨some ⟨.a,.n⟩,
 none,.len true (.t ⟨.a,.a⟩),[]⟩,⟨some ⟨.a,.o⟩,none,.bin .sub (.t ⟨.a,.n⟩) (.c (.c (.i .i64 (.ofNat 1)))),[]⟩,⟨some ⟨.b,.a⟩,none,.bin .sub (.t ⟨.a,.o⟩) (.t ⟨.a,.f⟩),[]⟩,⟨some ⟨.b,
 .b⟩,none,.ia 1 (.t ⟨.a,.a⟩) (.t ⟨.b,.a⟩),[]⟩,⟨some ⟨.b,.c⟩,none,.ld 1 false (.t ⟨.b,.b⟩),[]⟩,⟨some ⟨.a,.g⟩,none,.mv (.t ⟨.b,.c⟩),[]⟩]) (.seq (.seq (.reg [⟨some ⟨.b,.f⟩,none,.bin
 .eql (.t ⟨.a,.g⟩) (.t ⟨.a,.b⟩),[]⟩,⟨some ⟨.b,.g⟩,none,.mv (.t ⟨.b,.f⟩),[]⟩,⟨some ⟨.b,.h⟩,some (⟨.b,.g⟩,false),.mv (.t ⟨.a,.g⟩),[]⟩,⟨some ⟨.b,.i⟩,some (⟨.b,.g⟩,false),.call 100
 [.t ⟨.b,.h⟩,.c (.c (.i .i64 (.ofNat 4)))],[]⟩,⟨some ⟨.b,.j⟩,some (⟨.b,.g⟩,false),.un .not (.t ⟨.b,.i⟩),[]⟩,⟨some ⟨.b,.k⟩,none,.pk (.t ⟨.b,.g⟩) (.c (.c (.b true))) (.t ⟨.b,.j⟩),[]⟩])
 (.cond (.t ⟨.b,.k⟩) (.exit 0) .skip)) (.reg [⟨some ⟨.b,.m⟩,none,.bin .add (.t ⟨.a,.f⟩) (.c (.c (.i .i64 (.ofNat 1)))),[]⟩,⟨some ⟨.a,.f⟩,none,.mv (.t ⟨.b,.m⟩),[]⟩]))))))) (.seq (.reg
 [⟨some ⟨.a,.e⟩,none,.mv (.t ⟨.a,.f⟩),[]⟩]) .ret))),[(⟨.a,.e⟩,none)]⟩
theorem ok134 : FnR Tryz.prog 0 134 cf134 := fnC_ok [7,8,11,12,15,19,20,27,29] Tryz.func134 (by kernel_rfl) (by kernel_rfl)
def cf135 : CF := ⟨26,1,.seq (.reg [⟨some ⟨.a,.c⟩,none,.mv (.c (.c (.i .i64 (.ofNat 0)))),[]⟩]) (.seq (.reg [⟨some ⟨.a,.f⟩,none,.nc (.t ⟨.a,.a⟩),[]⟩,⟨some ⟨.a,.g⟩,none,.fa 0 (.t ⟨.a,.f⟩),[]⟩,⟨some
 ⟨.a,.h⟩,none,.ld 1 false (.t ⟨.a,.g⟩),[]⟩,⟨some ⟨.a,.i⟩,none,.len true (.t ⟨.a,.h⟩),[]⟩,⟨some ⟨.a,.d⟩,none,.mv (.t ⟨.a,.i⟩),[]⟩]) (.seq (.blk 0 (.loop (.seq (.seq (.reg [⟨some ⟨.a,
 .k⟩,none,.bin .gtr (.t ⟨.a,.d⟩) (.c (.c (.i .i64 (.ofNat 0)))),[]⟩,⟨some ⟨.a,.l⟩,none,.mv (.t ⟨.a,.k⟩),[]⟩,⟨some ⟨.a,.m⟩,some (⟨.a,.l⟩,true),.mv (.t ⟨.a,.a⟩),[]⟩,⟨some ⟨.a,.n⟩,
 some (⟨.a,.l⟩,true),.nc (.t ⟨.a,.m⟩),[]⟩,⟨some ⟨.a,.o⟩,some (⟨.a,.l⟩,true),.fa 0 (.t ⟨.a,.n⟩),[]⟩,⟨some ⟨.a,.p⟩,some (⟨.a,.l⟩,true),.ld 1 false (.t ⟨.a,.o⟩),[]⟩,⟨some ⟨.b,.a⟩,
 some (⟨.a,.l⟩,true),.mv (.t ⟨.a,.d⟩),[]⟩,⟨some ⟨.b,.b⟩,some (⟨.a,.l⟩,true),.bin .sub (.t ⟨.b,.a⟩) (.c (.c (.i .i64 (.ofNat 1)))),[]⟩,⟨some ⟨.b,.c⟩,some (⟨.a,.l⟩,true),.ia 4 (.t
 ⟨.a,.p⟩) (.t ⟨.b,.b⟩),[]⟩,⟨some ⟨.b,.d⟩,some (⟨.a,.l⟩,true),.fa 3 (.t ⟨.b,.c⟩),[]⟩,⟨some ⟨.b,.e⟩,some (⟨.a,.l⟩,true),.ld 1 false (.t ⟨.b,.d⟩),[]⟩,⟨some ⟨.b,.f⟩,some (⟨.a,.l⟩,
 true),.un .not (.t ⟨.b,.e⟩),[]⟩,⟨some ⟨.b,.g⟩,none,.pk (.t ⟨.a,.l⟩) (.t ⟨.b,.f⟩) (.c (.c (.b false))),[]⟩]) (.cond (.t ⟨.b,.g⟩) .skip (.exit 0))) (.blk 1 (.reg [⟨some ⟨.b,.i⟩,none,.bin
 .sub (.t ⟨.a,.d⟩) (.c (.c (.i .i64 (.ofNat 1)))),[]⟩,⟨some ⟨.a,.d⟩,none,.mv (.t ⟨.b,.i⟩),[]⟩]))))) (.seq (.reg [⟨some ⟨.a,.c⟩,none,.mv (.t ⟨.a,.d⟩),[]⟩]) .ret))),[(⟨.a,.c⟩,none)]⟩
theorem ok135 : FnR Tryz.prog 0 135 cf135 := fnC_ok [4,9,23,25] Tryz.func135 (by kernel_rfl) (by kernel_rfl)
def cf136 : CF := ⟨8,1,.seq (.reg [⟨some ⟨.a,.c⟩,none,.mv (.c (.c (.i .i64 (.ofNat 0)))),[]⟩]) (.seq (.reg [⟨some ⟨.a,.e⟩,none,.nc (.t ⟨.a,.a⟩),[]⟩,⟨some ⟨.a,.f⟩,none,.fa 0 (.t ⟨.a,.e⟩),[]⟩,⟨some
 ⟨.a,.g⟩,none,.ld 1 false (.t ⟨.a,.f⟩),[]⟩,⟨some ⟨.a,.h⟩,none,.len true (.t ⟨.a,.g⟩),[]⟩,⟨some ⟨.a,.c⟩,none,.mv (.t ⟨.a,.h⟩),[]⟩]) .ret),[(⟨.a,.c⟩,none)]⟩
theorem ok136 : FnR Tryz.prog 0 136 cf136 := fnC_ok [3] Tryz.func136 (by kernel_rfl) (by kernel_rfl)
def cf137 : CF := ⟨26,2,.seq (.reg [⟨some ⟨.a,.e⟩,none,.mv (.c (.c (.b false))),[]⟩]) (.seq (.reg [⟨some ⟨.a,.j⟩,none,.nc (.t ⟨.a,.a⟩),[]⟩,⟨some ⟨.a,.k⟩,none,.fa 4 (.t ⟨.a,.j⟩),[]⟩,⟨some ⟨.a,.l⟩,
 none,.ld 1 false (.t ⟨.a,.k⟩),[]⟩,⟨some ⟨.a,.n⟩,none,.call 138 [.t ⟨.a,.l⟩,.t ⟨.a,.b⟩],[]⟩,⟨some ⟨.a,.o⟩,none,.ext 0 (.t ⟨.a,.n⟩),[]⟩,⟨some ⟨.a,.p⟩,none,.ext 1 (.t ⟨.a,.n⟩),
 []⟩,⟨some ⟨.a,.f⟩,none,.new 123 (.c (.a [.i .i64 (.ofNat 0),.s [],.sl none 0 0 0])),[]⟩,⟨none,none,.st 3 (.t ⟨.a,.f⟩) (.t ⟨.a,.o⟩),[]⟩]) (.seq (.reg [⟨some ⟨.b,.a⟩,none,.fa 0 (.t ⟨.a,
 .f⟩),[]⟩,⟨some ⟨.b,.b⟩,none,.ld 1 false (.t ⟨.b,.a⟩),[]⟩,⟨some ⟨.b,.c⟩,none,.bin .eql (.t ⟨.b,.b⟩) (.c (.c (.i .i64 (.ofNat 0)))),[]⟩,⟨some ⟨.b,.d⟩,none,.mv (.t ⟨.b,.c⟩),[]⟩,⟨some
 ⟨.b,.e⟩,some (⟨.b,.d⟩,false),.mv (.t ⟨.a,.a⟩),[]⟩,⟨some ⟨.b,.f⟩,some (⟨.b,.d⟩,false),.fa 0 (.t ⟨.a,.f⟩),[]⟩,⟨some ⟨.b,.g⟩,some (⟨.b,.d⟩,false),.ld 1 false (.t ⟨.b,.f⟩),[]⟩,
 ⟨some ⟨.b,.h⟩,some (⟨.b,.d⟩,false),.call 101 [.t ⟨.b,.e⟩,.t ⟨.b,.g⟩],[]⟩,⟨some ⟨.b,.i⟩,some (⟨.b,.d⟩,false),.bin .geq (.t ⟨.b,.h⟩) (.c (.c (.i .i64 (.ofNat 0)))),[]⟩,⟨some ⟨.b,.j⟩,
 none,.pk (.t ⟨.b,.d⟩) (.c (.c (.b true))) (.t ⟨.b,.i⟩),[]⟩,⟨some ⟨.a,.e⟩,none,.mv (.t ⟨.b,.j⟩),[]⟩]) .ret)),[(⟨.a,.e⟩,none)]⟩
theorem ok137 : FnR Tryz.prog 0 137 cf137 := fnC_ok [6,7,8,12] Tryz.func137 (by kernel_rfl) (by kernel_rfl)
def cf138 : CF := ⟨27,2,.seq (.reg [⟨some ⟨.a,.e⟩,none,.new 123 (.c (.a [.i .i64 (.ofNat 0),.s [],.sl none 0 0 0])),[]⟩,⟨some ⟨.a,.f⟩,none,.mv (.c (.c (.b false))),[]⟩]) (.seq (.seq (.reg [⟨some ⟨.a,.h⟩,
 none,.bin .lss (.t ⟨.a,.b⟩) (.c (.c (.i .i64 (.ofNat 0)))),[]⟩,⟨some ⟨.a,.i⟩,none,.mv (.t ⟨.a,.h⟩),[]⟩,⟨some ⟨.a,.j⟩,some (⟨.a,.i⟩,false),.mv (.t ⟨.a,.b⟩),[]⟩,⟨some ⟨.a,.k⟩,some
 (⟨.a,.i⟩,false),.mv (.t ⟨.a,.a⟩),[]⟩,⟨some ⟨.a,.l⟩,some (⟨.a,.i⟩,false),.nc (.t ⟨.a,.k⟩),[]⟩,⟨some ⟨.a,.m⟩,some (⟨.a,.i⟩,false),.fa 0 (.t ⟨.a,.l⟩),[]⟩,⟨some ⟨.a,.n⟩,some (⟨.a,
 .i⟩,false),.ld 1 false (.t ⟨.a,.m⟩),[]⟩,⟨some ⟨.a,.o⟩,some (⟨.a,.i⟩,false),.len true (.t ⟨.a,.n⟩),[]⟩,⟨some ⟨.a,.p⟩,some (⟨.a,.i⟩,false),.bin .geq (.t ⟨.a,.j⟩) (.t ⟨.a,.o⟩),[]⟩,
 ⟨some ⟨.b,.a⟩,none,.pk (.t ⟨.a,.i⟩) (.c (.c (.b true))) (.t ⟨.a,.p⟩),[]⟩]) (.cond (.t ⟨.b,.a⟩) (.seq (.reg [⟨some ⟨.b,.b⟩,none,.bld [.i .i64 (.ofNat 0),.s [],.sl none 0 0 0] [],[]⟩,
 ⟨none,none,.st 3 (.t ⟨.a,.e⟩) (.t ⟨.b,.b⟩),[]⟩,⟨some ⟨.a,.f⟩,none,.mv (.c (.c (.b false))),[]⟩]) .ret) .skip)) (.seq (.reg [⟨some ⟨.b,.d⟩,none,.nc (.t ⟨.a,.a⟩),[]⟩,⟨some ⟨.b,.e⟩,
 none,.fa 0 (.t ⟨.b,.d⟩),[]⟩,⟨some ⟨.b,.f⟩,none,.ld 1 false (.t ⟨.b,.e⟩),[]⟩,⟨some ⟨.b,.h⟩,none,.ia 4 (.t ⟨.b,.f⟩) (.t ⟨.a,.b⟩),[]⟩,⟨some ⟨.b,.i⟩,none,.fa 0 (.t ⟨.b,.h⟩),[]⟩,
 ⟨some ⟨.b,.j⟩,none,.ld 3 true (.t ⟨.b,.i⟩),[]⟩,⟨some ⟨.b,.k⟩,none,.call 158 [.t ⟨.b,.j⟩],[]⟩,⟨none,none,.st 3 (.t ⟨.a,.e⟩) (.t ⟨.b,.k⟩),[]⟩,⟨some ⟨.a,.f⟩,none,.mv (.c (.c (.b
 true))),[]⟩]) .ret)),[(⟨.a,.e⟩,some (3,true)),(⟨.a,.f⟩,none)]⟩
theorem ok138 : FnR Tryz.prog 0 138 cf138 := fnC_ok [6,18,22] Tryz.func138 (by kernel_rfl) (by kernel_rfl)
def cf139 : CF := ⟨24,3,.seq (.reg [⟨some ⟨.a,.f⟩,none,.new 123 (.t ⟨.a,.c⟩),[]⟩,⟨some ⟨.a,.g⟩,none,.mv (.c (.c (.b false))),[]⟩]) (.seq (.reg [⟨some ⟨.a,.k⟩,none,.call 159 [.t ⟨.a,.a⟩,.t ⟨.a,.b⟩],
 []⟩,⟨some ⟨.a,.h⟩,none,.mv (.t ⟨.a,.k⟩),[]⟩]) (.seq (.seq (.reg [⟨some ⟨.a,.m⟩,none,.bin .geq (.t ⟨.a,.h⟩) (.c (.c (.i .i64 (.ofNat 0)))),[]⟩]) (.cond (.t ⟨.a,.m⟩) (.dreg [⟨some ⟨.a,.n⟩,
 none,.mv (.t ⟨.a,.a⟩),[]⟩,⟨some ⟨.a,.o⟩,none,.nc (.t ⟨.a,.n⟩),[]⟩,⟨some ⟨.a,.p⟩,none,.fa 0 (.t ⟨.a,.o⟩),[]⟩,⟨some ⟨.b,.a⟩,none,.ld 1 false (.t ⟨.a,.p⟩),[]⟩,⟨some ⟨.b,.b⟩,none,
 .mv (.t ⟨.a,.h⟩),[]⟩,⟨some ⟨.b,.c⟩,none,.ld 3 true (.t ⟨.a,.f⟩),[]⟩,⟨some ⟨.b,.d⟩,none,.call 158 [.t ⟨.b,.c⟩],[⟨some ⟨.b,.a⟩,none,.ld 1 false (.t ⟨.a,.p⟩)⟩]⟩,⟨some ⟨.b,.e⟩,none,
 .ia 4 (.t ⟨.b,.a⟩) (.t ⟨.b,.b⟩),[]⟩,⟨some ⟨.b,.f⟩,none,.fa 0 (.t ⟨.b,.e⟩),[]⟩,⟨none,none,.st 3 (.t ⟨.b,.f⟩) (.t ⟨.b,.d⟩),[]⟩]) .skip)) (.seq (.reg [⟨some ⟨.b,.h⟩,none,.bin .geq (.t
 ⟨.a,.h⟩) (.c (.c (.i .i64 (.ofNat 0)))),[]⟩,⟨some ⟨.a,.g⟩,none,.mv (.t ⟨.b,.h⟩),[]⟩]) .ret))),[(⟨.a,.g⟩,none)]⟩
theorem ok139 : FnR Tryz.prog 0 139 cf139 := fnC_ok [8,9,11,22] Tryz.func139 (by kernel_rfl) (by kernel_rfl)
def cf140 : CF := ⟨16,1,.seq (.reg [⟨some ⟨.a,.c⟩,none,.new 123 (.c (.a [.i .i64 (.ofNat 0),.s [],.sl none 0 0 0])),[]⟩]) (.seq (.dreg [⟨some ⟨.a,.d⟩,none,.mv (.t ⟨.a,.a⟩),[]⟩,⟨some ⟨.a,.e⟩,none,.nc
 (.t ⟨.a,.d⟩),[]⟩,⟨some ⟨.a,.f⟩,none,.fa 0 (.t ⟨.a,.e⟩),[]⟩,⟨some ⟨.a,.g⟩,none,.ld 1 false (.t ⟨.a,.f⟩),[]⟩,⟨some ⟨.a,.h⟩,none,.mv (.t ⟨.a,.a⟩),[]⟩,⟨some ⟨.a,.i⟩,none,.nc (.t
 ⟨.a,.h⟩),[]⟩,⟨some ⟨.a,.j⟩,none,.fa 2 (.t ⟨.a,.i⟩),[]⟩,⟨some ⟨.a,.k⟩,none,.ld 1 false (.t ⟨.a,.j⟩),[]⟩,⟨some ⟨.a,.l⟩,none,.mv (.t ⟨.a,.a⟩),[]⟩,⟨some ⟨.a,.m⟩,none,.nc (.t ⟨.a,
 .l⟩),[]⟩,⟨some ⟨.a,.n⟩,none,.fa 4 (.t ⟨.a,.m⟩),[]⟩,⟨some ⟨.a,.o⟩,none,.ld 1 false (.t ⟨.a,.n⟩),[]⟩,⟨some ⟨.a,.p⟩,none,.bld [.i .i64 (.ofNat 0),.s [],.sl none 0 0 0] [(0,(1,.t
 ⟨.a,.g⟩)),(1,(1,.t ⟨.a,.k⟩)),(2,(1,.t ⟨.a,.o⟩))],[]⟩,⟨none,none,.st 3 (.t ⟨.a,.c⟩) (.t ⟨.a,.p⟩),[]⟩]) .ret),[(⟨.a,.c⟩,some (3,true))]⟩
theorem ok140 : FnR Tryz.prog 0 140 cf140 := fnC_ok [] Tryz.func140 (by kernel_rfl) (by kernel_rfl)
def cf142 : CF := ⟨9,1,.seq (.reg [⟨some ⟨.a,.d⟩,none,.call 106 [.t ⟨.a,.a⟩,.c (.c (.s [112])),.c (.c (.i .i64 (.ofNat 3)))],[]⟩]) (.cond (.t ⟨.a,.d⟩) (.seq (.reg [⟨some ⟨.a,.f⟩,none,.call 109 [.t ⟨.a,
 .a⟩,.c (.c (.s [112]))],[]⟩]) (.reg [⟨some ⟨.a,.h⟩,none,.bsl 9 1 1 [.s []] [(0,(1,.c (.c (.s [112]))))],[]⟩,⟨some ⟨.a,.i⟩,none,.call 99 [.t ⟨.a,.a⟩,.t ⟨.a,.h⟩],[]⟩])) .skip),[]⟩
theorem ok142 : FnR Tryz.prog 0 142 cf142 := fnC_ok [2,4,6] Tryz.func142 (by kernel_rfl) (by kernel_rfl)
def cf144 : CF := ⟨77,2,.seq (.reg [⟨some ⟨.a,.d⟩,none,.new 51 (.t ⟨.a,.b⟩),[]⟩]) (.seq (.seq (.reg [⟨some ⟨.a,.h⟩,none,.fa 1 (.t ⟨.a,.d⟩),[]⟩,⟨some ⟨.a,.i⟩,none,.ld 1 false (.t ⟨.a,.h⟩),[]⟩,⟨some
 ⟨.a,.j⟩,none,.bin .eql (.t ⟨.a,.i⟩) (.c (.c (.s [97]))),[]⟩]) (.cond (.t ⟨.a,.j⟩) (.seq (.reg [⟨some ⟨.a,.m⟩,none,.nc (.t ⟨.a,.a⟩),[]⟩,⟨some ⟨.a,.n⟩,none,.fa 4 (.t ⟨.a,.m⟩),[]⟩,
 ⟨some ⟨.a,.o⟩,none,.ld 1 false (.t ⟨.a,.n⟩),[]⟩,⟨some ⟨.a,.p⟩,none,.call 164 [.t ⟨.a,.o⟩,.c (.c (.s [97]))],[]⟩,⟨some ⟨.b,.a⟩,none,.ext 0 (.t ⟨.a,.p⟩),[]⟩,⟨some ⟨.b,.b⟩,none,
 .ext 1 (.t ⟨.a,.p⟩),[]⟩,⟨some ⟨.a,.e⟩,none,.new 123 (.c (.a [.i .i64 (.ofNat 0),.s [],.sl none 0 0 0])),[]⟩,⟨none,none,.st 3 (.t ⟨.a,.e⟩) (.t ⟨.b,.a⟩),[]⟩,⟨some ⟨.a,.f⟩,none,.mv
 (.t ⟨.b,.b⟩),[]⟩]) (.seq (.reg [⟨some ⟨.b,.c⟩,none,.mv (.t ⟨.a,.f⟩),[]⟩]) (.cond (.t ⟨.b,.c⟩) (.seq (.reg [⟨some ⟨.b,.e⟩,none,.call 147 [.t ⟨.a,.a⟩,.c (.c (.s [97]))],[]⟩]) (.seq (.dreg
 [⟨some ⟨.b,.f⟩,none,.mv (.t ⟨.a,.a⟩),[]⟩,⟨some ⟨.b,.g⟩,none,.nc (.t ⟨.b,.f⟩),[]⟩,⟨some ⟨.b,.h⟩,none,.fa 4 (.t ⟨.b,.g⟩),[]⟩,⟨some ⟨.b,.i⟩,none,.ld 1 false (.t ⟨.b,.h⟩),[]⟩,
 ⟨some ⟨.b,.j⟩,none,.fa 0 (.t ⟨.a,.e⟩),[]⟩,⟨some ⟨.b,.k⟩,none,.ld 1 false (.t ⟨.b,.j⟩),[]⟩,⟨some ⟨.b,.l⟩,none,.call 165 [.t ⟨.b,.i⟩,.t ⟨.b,.k⟩],[]⟩]) (.seq (.reg [⟨some ⟨.b,.n⟩,
 none,.fa 0 (.t ⟨.a,.e⟩),[]⟩,⟨some ⟨.b,.o⟩,none,.ld 1 false (.t ⟨.b,.n⟩),[]⟩,⟨some ⟨.b,.p⟩,none,.call 101 [.t ⟨.a,.a⟩,.t ⟨.b,.o⟩],[]⟩,⟨some ⟨.a,.g⟩,none,.mv (.t ⟨.b,.p⟩),[]⟩])
 (.seq (.reg [⟨some ⟨.c,.b⟩,none,.bin .geq (.t ⟨.a,.g⟩) (.c (.c (.i .i64 (.ofNat 0)))),[]⟩]) (.cond (.t ⟨.c,.b⟩) (.dreg [⟨some ⟨.c,.c⟩,none,.mv (.t ⟨.a,.a⟩),[]⟩,⟨some ⟨.c,.d⟩,none,.mv
 (.t ⟨.a,.a⟩),[]⟩,⟨some ⟨.c,.e⟩,none,.nc (.t ⟨.c,.d⟩),[]⟩,⟨some ⟨.c,.f⟩,none,.fa 3 (.t ⟨.c,.e⟩),[]⟩,⟨some ⟨.c,.g⟩,none,.ld 1 false (.t ⟨.c,.f⟩),[]⟩,⟨some ⟨.c,.h⟩,none,.mv (.t
 ⟨.a,.g⟩),[]⟩,⟨some ⟨.c,.i⟩,none,.mv (.t ⟨.a,.g⟩),[]⟩,⟨some ⟨.c,.j⟩,none,.slc 1 (.t ⟨.c,.g⟩) none (some (.t ⟨.c,.h⟩)) (some (.t ⟨.c,.i⟩)),[]⟩,⟨some ⟨.c,.k⟩,none,.mv (.t ⟨.a,.a⟩),
 []⟩,⟨some ⟨.c,.l⟩,none,.nc (.t ⟨.c,.k⟩),[]⟩,⟨some ⟨.c,.m⟩,none,.fa 3 (.t ⟨.c,.l⟩),[]⟩,⟨some ⟨.c,.n⟩,none,.ld 1 false (.t ⟨.c,.m⟩),[]⟩,⟨some ⟨.c,.o⟩,none,.mv (.t ⟨.a,.g⟩),[]⟩,
 ⟨some ⟨.c,.p⟩,none,.bin .add (.t ⟨.c,.o⟩) (.c (.c (.i .i64 (.ofNat 1)))),[]⟩,⟨some ⟨.d,.a⟩,none,.slc 1 (.t ⟨.c,.n⟩) (some (.t ⟨.c,.p⟩)) none none,[]⟩,⟨some ⟨.d,.b⟩,none,.app 53 1
 false (.t ⟨.c,.j⟩) (.t ⟨.d,.a⟩),[]⟩,⟨some ⟨.d,.c⟩,none,.nc (.t ⟨.c,.c⟩),[]⟩,⟨some ⟨.d,.d⟩,none,.fa 3 (.t ⟨.d,.c⟩),[]⟩,⟨none,none,.st 1 (.t ⟨.d,.d⟩) (.t ⟨.d,.b⟩),[]⟩]) .skip)))))
 .skip))) .skip)) (.seq (.reg [⟨some ⟨.d,.f⟩,none,.call 114 [.t ⟨.a,.a⟩],[]⟩]) (.seq (.seq (.reg [⟨some ⟨.d,.g⟩,none,.fa 1 (.t ⟨.a,.d⟩),[]⟩,⟨some ⟨.d,.h⟩,none,.ld 1 false (.t ⟨.d,.g⟩),
 []⟩,⟨some ⟨.d,.i⟩,none,.bin .eql (.t ⟨.d,.h⟩) (.c (.c (.s [110,111,98,114]))),[]⟩,⟨some ⟨.d,.j⟩,none,.mv (.t ⟨.d,.i⟩),[]⟩,⟨some ⟨.d,.k⟩,some (⟨.d,.j⟩,true),.mv (.t ⟨.a,.a⟩),
 []⟩,⟨some ⟨.d,.l⟩,some (⟨.d,.j⟩,true),.call 106 [.t ⟨.d,.k⟩,.c (.c (.s [110,111,98,114])),.c (.c (.i .i64 (.ofNat 1)))],[]⟩,⟨some ⟨.d,.m⟩,none,.pk (.t ⟨.d,.j⟩) (.t ⟨.d,.l⟩) (.c (.c
 (.b false))),[]⟩]) (.cond (.t ⟨.d,.m⟩) (.seq (.reg [⟨some ⟨.d,.o⟩,none,.call 147 [.t ⟨.a,.a⟩,.c (.c (.s [110,111,98,114]))],[]⟩]) (.reg [⟨some ⟨.e,.a⟩,none,.call 114 [.t ⟨.a,.a⟩],
 []⟩])) .skip)) (.dreg [⟨some ⟨.e,.b⟩,none,.mv (.t ⟨.a,.a⟩),[]⟩,⟨some ⟨.e,.c⟩,none,.nc (.t ⟨.e,.b⟩),[]⟩,⟨some ⟨.e,.d⟩,none,.fa 4 (.t ⟨.e,.c⟩),[]⟩,⟨some ⟨.e,.e⟩,none,.ld 1 false
 (.t ⟨.e,.d⟩),[]⟩,⟨some ⟨.e,.f⟩,none,.mv (.t ⟨.a,.a⟩),[]⟩,⟨some ⟨.e,.g⟩,none,.fa 1 (.t ⟨.a,.d⟩),[]⟩,⟨some ⟨.e,.h⟩,none,.ld 1 false (.t ⟨.e,.g⟩),[]⟩,⟨some ⟨.e,.i⟩,none,.fa 3 (.t
 ⟨.a,.d⟩),[]⟩,⟨some ⟨.e,.j⟩,none,.ld 1 false (.t ⟨.e,.i⟩),[]⟩,⟨some ⟨.e,.k⟩,none,.call 96 [.t ⟨.e,.f⟩,.t ⟨.e,.h⟩,.t ⟨.e,.j⟩],[⟨some ⟨.e,.e⟩,none,.ld 1 false (.t ⟨.e,.d⟩)⟩]⟩,
 ⟨some ⟨.e,.l⟩,none,.call 140 [.t ⟨.e,.k⟩],[⟨some ⟨.e,.e⟩,none,.ld 1 false (.t ⟨.e,.d⟩)⟩]⟩,⟨some ⟨.e,.m⟩,none,.call 166 [.t ⟨.e,.e⟩,.t ⟨.e,.l⟩],[]⟩])))),[]⟩
theorem ok144 : FnR Tryz.prog 0 144 cf144 := fnC_ok [10,11,19,28,32,52,61,63] Tryz.func144 (by kernel_rfl) (by kernel_rfl)
end
end Ev
end
section
namespace Ev
variable [Tx]
set_option autoImplicit false
noncomputable section
def cf145 : CF := ⟨67,2,.seq (.reg [⟨some ⟨.a,.d⟩,none,.new 51 (.t ⟨.a,.b⟩),[]⟩,⟨some ⟨.a,.e⟩,none,.mv (.c (.c (.b false))),[]⟩]) (.seq (.reg [⟨some ⟨.a,.g⟩,none,.fa 1 (.t ⟨.a,.d⟩),[]⟩,⟨some ⟨.a,
 .h⟩,none,.ld 1 false (.t ⟨.a,.g⟩),[]⟩,⟨some ⟨.a,.f⟩,none,.mv (.t ⟨.a,.h⟩),[]⟩]) (.seq (.blk 0 (.seq (.reg [⟨some ⟨.a,.k⟩,none,.bin .eql (.t ⟨.a,.f⟩) (.c (.c (.s [98,117,116,116,111,
 110]))),[]⟩,⟨some ⟨.a,.l⟩,none,.mv (.t ⟨.a,.k⟩),[]⟩,⟨some ⟨.a,.m⟩,some (⟨.a,.l⟩,true),.mv (.t ⟨.a,.a⟩),[]⟩,⟨some ⟨.a,.n⟩,some (⟨.a,.l⟩,true),.call 106 [.t ⟨.a,.m⟩,.c (.c (.s
 [98,117,116,116,111,110])),.c (.c (.i .i64 (.ofNat 1)))],[]⟩,⟨some ⟨.a,.o⟩,none,.pk (.t ⟨.a,.l⟩) (.t ⟨.a,.n⟩) (.c (.c (.b false))),[]⟩,⟨some ⟨.a,.i⟩,none,.mv (.t ⟨.a,.o⟩),[]⟩])
 (.cond (.t ⟨.a,.i⟩) (.seq (.reg [⟨some ⟨.b,.a⟩,none,.call 109 [.t ⟨.a,.a⟩,.c (.c (.s []))],[]⟩]) (.reg [⟨some ⟨.b,.c⟩,none,.bsl 9 1 1 [.s []] [(0,(1,.c (.c (.s [98,117,116,116,111,
 110]))))],[]⟩,⟨some ⟨.b,.d⟩,none,.call 99 [.t ⟨.a,.a⟩,.t ⟨.b,.c⟩],[]⟩])) (.seq (.reg [⟨some ⟨.b,.g⟩,none,.bin .eql (.t ⟨.a,.f⟩) (.c (.c (.s [120,109,112]))),[]⟩,⟨some ⟨.b,.e⟩,none,
 .mv (.t ⟨.b,.g⟩),[]⟩]) (.cond (.t ⟨.b,.e⟩) (.reg [⟨some ⟨.b,.i⟩,none,.call 142 [.t ⟨.a,.a⟩],[]⟩]) (.seq (.reg [⟨some ⟨.b,.l⟩,none,.bin .eql (.t ⟨.a,.f⟩) (.c (.c (.s [111,112,116,105,
 111,110]))),[]⟩,⟨some ⟨.b,.m⟩,none,.mv (.t ⟨.b,.l⟩),[]⟩,⟨some ⟨.b,.n⟩,some (⟨.b,.m⟩,true),.mv (.t ⟨.a,.a⟩),[]⟩,⟨some ⟨.b,.o⟩,some (⟨.b,.m⟩,true),.call 58 [.t ⟨.b,.n⟩],[]⟩,
 ⟨some ⟨.b,.p⟩,some (⟨.b,.m⟩,true),.nc (.t ⟨.b,.o⟩),[]⟩,⟨some ⟨.c,.a⟩,some (⟨.b,.m⟩,true),.fa 2 (.t ⟨.b,.p⟩),[]⟩,⟨some ⟨.c,.b⟩,some (⟨.b,.m⟩,true),.ld 1 false (.t ⟨.c,.a⟩),[]⟩,
 ⟨some ⟨.c,.c⟩,some (⟨.b,.m⟩,true),.bin .eql (.t ⟨.c,.b⟩) (.c (.c (.s [111,112,116,105,111,110]))),[]⟩,⟨some ⟨.c,.d⟩,none,.pk (.t ⟨.b,.m⟩) (.t ⟨.c,.c⟩) (.c (.c (.b false))),[]⟩,
 ⟨some ⟨.b,.j⟩,none,.mv (.t ⟨.c,.d⟩),[]⟩]) (.cond (.t ⟨.b,.j⟩) (.reg [⟨some ⟨.c,.f⟩,none,.call 62 [.t ⟨.a,.a⟩,.c (.c (.i .i64 (.ofNat 1)))],[]⟩]) .skip))))))) (.seq (.reg [⟨some ⟨.c,.h⟩,
 none,.call 114 [.t ⟨.a,.a⟩],[]⟩]) (.seq (.seq (.reg [⟨some ⟨.c,.i⟩,none,.mv (.t ⟨.a,.f⟩),[]⟩]) (.blk 1 (.seq (.blk 3 (.seq (.blk 2 (.seq (.seq (.seq (.reg [⟨some ⟨.c,.k⟩,none,.bin .eql (.t
 ⟨.c,.i⟩) (.c (.c (.s [105,109,97,103,101]))),[]⟩,⟨some ⟨.c,.j⟩,none,.mv (.t ⟨.c,.k⟩),[]⟩]) (.cond (.t ⟨.c,.j⟩) (.exit 2) .skip)) (.seq (.seq (.reg [⟨some ⟨.c,.m⟩,none,.bin .eql (.t
 ⟨.c,.i⟩) (.c (.c (.s [97,114,101,97]))),[]⟩,⟨some ⟨.c,.l⟩,none,.mv (.t ⟨.c,.m⟩),[]⟩]) (.cond (.t ⟨.c,.l⟩) .skip (.seq (.reg [⟨some ⟨.c,.n⟩,none,.bin .eql (.t ⟨.c,.i⟩) (.c (.c (.s [98,
 114]))),[]⟩,⟨some ⟨.c,.l⟩,none,.mv (.t ⟨.c,.n⟩),[]⟩]) (.cond (.t ⟨.c,.l⟩) .skip (.seq (.reg [⟨some ⟨.c,.o⟩,none,.bin .eql (.t ⟨.c,.i⟩) (.c (.c (.s [101,109,98,101,100]))),[]⟩,⟨some
 ⟨.c,.l⟩,none,.mv (.t ⟨.c,.o⟩),[]⟩]) (.cond (.t ⟨.c,.l⟩) .skip (.seq (.reg [⟨some ⟨.c,.p⟩,none,.bin .eql (.t ⟨.c,.i⟩) (.c (.c (.s [105,109,103]))),[]⟩,⟨some ⟨.c,.l⟩,none,.mv (.t ⟨.c,
 .p⟩),[]⟩]) (.cond (.t ⟨.c,.l⟩) .skip (.seq (.reg [⟨some ⟨.d,.a⟩,none,.bin .eql (.t ⟨.c,.i⟩) (.c (.c (.s [105,110,112,117,116]))),[]⟩,⟨some ⟨.c,.l⟩,none,.mv (.t ⟨.d,.a⟩),[]⟩]) (.cond
 (.t ⟨.c,.l⟩) .skip (.reg [⟨some ⟨.d,.b⟩,none,.bin .eql (.t ⟨.c,.i⟩) (.c (.c (.s [119,98,114]))),[]⟩,⟨some ⟨.c,.l⟩,none,.mv (.t ⟨.d,.b⟩),[]⟩]))))))))))) (.cond (.t ⟨.c,.l⟩) (.exit 3)
 .skip))) (.exit 1))) (.reg [⟨some ⟨.a,.f⟩,none,.mv (.c (.c (.s [105,109,103]))),[]⟩]))) (.seq (.seq (.reg [⟨some ⟨.d,.e⟩,none,.fa 3 (.t ⟨.a,.d⟩),[]⟩,⟨some ⟨.d,.f⟩,none,.ld 1 false (.t
 ⟨.d,.e⟩),[]⟩,⟨some ⟨.d,.g⟩,none,.call 98 [.t ⟨.a,.a⟩,.t ⟨.a,.f⟩,.t ⟨.d,.f⟩],[]⟩]) (.seq (.reg [⟨some ⟨.a,.e⟩,none,.mv (.c (.c (.b false))),[]⟩]) .ret)) (.exit 1))))) (.seq (.reg
 [⟨some ⟨.d,.j⟩,none,.fa 3 (.t ⟨.a,.d⟩),[]⟩,⟨some ⟨.d,.k⟩,none,.ld 1 false (.t ⟨.d,.j⟩),[]⟩,⟨some ⟨.d,.l⟩,none,.call 96 [.t ⟨.a,.a⟩,.t ⟨.a,.f⟩,.t ⟨.d,.k⟩],[]⟩]) (.seq (.seq (.reg
 [⟨some ⟨.d,.n⟩,none,.call 100 [.t ⟨.a,.f⟩,.c (.c (.i .i64 (.ofNat 7)))],[]⟩]) (.cond (.t ⟨.d,.n⟩) (.reg [⟨some ⟨.d,.p⟩,none,.nc (.t ⟨.a,.a⟩),[]⟩,⟨some ⟨.e,.a⟩,none,.fa 4 (.t ⟨.d,
 .p⟩),[]⟩,⟨some ⟨.e,.b⟩,none,.ld 1 false (.t ⟨.e,.a⟩),[]⟩,⟨some ⟨.e,.c⟩,none,.call 104 [.t ⟨.e,.b⟩],[]⟩]) .skip)) (.seq (.reg [⟨some ⟨.a,.e⟩,none,.mv (.c (.c (.b false))),[]⟩])
 .ret))))))),[(⟨.a,.e⟩,none)]⟩
theorem ok145 : FnR Tryz.prog 0 145 cf145 := fnC_ok [9,15,17,21,23,26,36,38,50,51,55,56,60,62] Tryz.func145 (by kernel_rfl) (by kernel_rfl)
def cf146 : CF := ⟨2,0,.seq (.reg [⟨some ⟨.a,.a⟩,none,.mv (.c (.c (.sl none 0 0 0))),[]⟩]) (.seq (.reg [⟨some ⟨.a,.b⟩,none,.bsl 9 1 6 [.s [],.s [],.s [],.s [],.s [],.s []] [(0,(1,.c (.c (.s [104,
 49])))),(1,(1,.c (.c (.s [104,50])))),(2,(1,.c (.c (.s [104,51])))),(3,(1,.c (.c (.s [104,52])))),(4,(1,.c (.c (.s [104,53])))),(5,(1,.c (.c (.s [104,54]))))],[]⟩,⟨some ⟨.a,
 .a⟩,none,.mv (.t ⟨.a,.b⟩),[]⟩]) .ret),[(⟨.a,.a⟩,none)]⟩
theorem ok146 : FnR Tryz.prog 0 146 cf146 := fnC_ok [] Tryz.func146 (by kernel_rfl) (by kernel_rfl)
def cf156 : CF := ⟨34,2,.seq (.reg [⟨some ⟨.a,.e⟩,none,.mv (.c (.c (.b false))),[]⟩]) (.seq (.blk 0 (.seq (.reg [⟨some ⟨.a,.h⟩,none,.bin .eql (.t ⟨.a,.a⟩) (.c (.c (.s [104,116,109,108]))),[]⟩,⟨some ⟨.a,
 .i⟩,none,.mv (.t ⟨.a,.h⟩),[]⟩,⟨some ⟨.a,.j⟩,some (⟨.a,.i⟩,false),.mv (.t ⟨.a,.a⟩),[]⟩,⟨some ⟨.a,.k⟩,some (⟨.a,.i⟩,false),.bin .eql (.t ⟨.a,.j⟩) (.c (.c (.s [116,97,98,108,
 101]))),[]⟩,⟨some ⟨.a,.l⟩,none,.pk (.t ⟨.a,.i⟩) (.c (.c (.b true))) (.t ⟨.a,.k⟩),[]⟩,⟨some ⟨.a,.f⟩,none,.mv (.t ⟨.a,.l⟩),[]⟩]) (.cond (.t ⟨.a,.f⟩) (.seq (.reg [⟨some ⟨.a,.e⟩,none,
 .mv (.c (.c (.b true))),[]⟩]) .ret) (.seq (.reg [⟨some ⟨.a,.o⟩,none,.bin .eql (.t ⟨.a,.b⟩) (.c (.c (.i .i64 (.ofNat 4)))),[]⟩,⟨some ⟨.a,.m⟩,none,.mv (.t ⟨.a,.o⟩),[]⟩]) (.cond (.t ⟨.a,
 .m⟩) (.seq (.reg [⟨some ⟨.a,.e⟩,none,.mv (.c (.c (.b false))),[]⟩]) .ret) (.seq (.seq (.reg [⟨some ⟨.b,.b⟩,none,.bin .eql (.t ⟨.a,.b⟩) (.c (.c (.i .i64 (.ofNat 2)))),[]⟩,⟨some ⟨.b,.c⟩,
 none,.mv (.t ⟨.b,.b⟩),[]⟩,⟨some ⟨.b,.d⟩,some (⟨.b,.c⟩,true),.mv (.t ⟨.a,.a⟩),[]⟩,⟨some ⟨.b,.e⟩,some (⟨.b,.c⟩,true),.bin .eql (.t ⟨.b,.d⟩) (.c (.c (.s [111,108]))),[]⟩,⟨some ⟨.b,
 .f⟩,some (⟨.b,.c⟩,true),.mv (.t ⟨.b,.e⟩),[]⟩,⟨some ⟨.b,.g⟩,some (⟨.b,.f⟩,false),.mv (.t ⟨.a,.a⟩),[]⟩,⟨some ⟨.b,.h⟩,some (⟨.b,.f⟩,false),.bin .eql (.t ⟨.b,.g⟩) (.c (.c (.s [117,
 108]))),[]⟩,⟨some ⟨.b,.i⟩,some (⟨.b,.c⟩,true),.pk (.t ⟨.b,.f⟩) (.c (.c (.b true))) (.t ⟨.b,.h⟩),[]⟩,⟨some ⟨.b,.j⟩,none,.pk (.t ⟨.b,.c⟩) (.t ⟨.b,.i⟩) (.c (.c (.b false))),[]⟩,⟨some
 ⟨.a,.p⟩,none,.mv (.t ⟨.b,.j⟩),[]⟩]) (.cond (.t ⟨.a,.p⟩) .skip (.reg [⟨some ⟨.b,.l⟩,none,.bin .eql (.t ⟨.a,.b⟩) (.c (.c (.i .i64 (.ofNat 3)))),[]⟩,⟨some ⟨.b,.m⟩,none,.mv (.t ⟨.b,.l⟩),
 []⟩,⟨some ⟨.b,.n⟩,some (⟨.b,.m⟩,true),.mv (.t ⟨.a,.a⟩),[]⟩,⟨some ⟨.b,.o⟩,some (⟨.b,.m⟩,true),.bin .eql (.t ⟨.b,.n⟩) (.c (.c (.s [98,117,116,116,111,110]))),[]⟩,⟨some ⟨.b,.p⟩,
 none,.pk (.t ⟨.b,.m⟩) (.t ⟨.b,.o⟩) (.c (.c (.b false))),[]⟩,⟨some ⟨.a,.p⟩,none,.mv (.t ⟨.b,.p⟩),[]⟩]))) (.cond (.t ⟨.a,.p⟩) (.seq (.reg [⟨some ⟨.a,.e⟩,none,.mv (.c (.c (.b true))),
 []⟩]) .ret) .skip))))))) (.seq (.reg [⟨some ⟨.c,.b⟩,none,.call 128 [.c (.c (.s [97,112,112,108,101,116,32,99,97,112,116,105,111,110,32,116,100,32,116,104,32,109,97,114,113,
 117,101,101,32,111,98,106,101,99,116])),.t ⟨.a,.a⟩],[]⟩,⟨some ⟨.a,.e⟩,none,.mv (.t ⟨.c,.b⟩),[]⟩]) .ret)),[(⟨.a,.e⟩,none)]⟩
theorem ok156 : FnR Tryz.prog 0 156 cf156 := fnC_ok [6,13,16,26,32] Tryz.func156 (by kernel_rfl) (by kernel_rfl)
def cf158 : CF := ⟨8,1,.seq (.reg [⟨some ⟨.a,.b⟩,none,.new 123 (.t ⟨.a,.a⟩),[]⟩,⟨some ⟨.a,.c⟩,none,.new 123 (.c (.a [.i .i64 (.ofNat 0),.s [],.sl none 0 0 0])),[]⟩]) (.seq (.reg [⟨some ⟨.a,.d⟩,none,
 .fa 2 (.t ⟨.a,.b⟩),[]⟩,⟨some ⟨.a,.e⟩,none,.ld 1 false (.t ⟨.a,.d⟩),[]⟩,⟨some ⟨.a,.f⟩,none,.call 35 [.t ⟨.a,.e⟩],[]⟩,⟨some ⟨.a,.g⟩,none,.fa 2 (.t ⟨.a,.b⟩),[]⟩,⟨none,none,.st 1
 (.t ⟨.a,.g⟩) (.t ⟨.a,.f⟩),[]⟩]) (.seq (.reg [⟨some ⟨.a,.h⟩,none,.ld 3 true (.t ⟨.a,.b⟩),[]⟩,⟨none,none,.st 3 (.t ⟨.a,.c⟩) (.t ⟨.a,.h⟩),[]⟩]) .ret)),[(⟨.a,.c⟩,some (3,true))]⟩
theorem ok158 : FnR Tryz.prog 0 158 cf158 := fnC_ok [] Tryz.func158 (by kernel_rfl) (by kernel_rfl)
def cf159 : CF := ⟨11,2,.seq (.reg [⟨some ⟨.a,.d⟩,none,.new 3 (.t ⟨.a,.b⟩),[]⟩,⟨some ⟨.a,.e⟩,none,.mv (.c (.c (.i .i64 (.ofNat 0)))),[]⟩]) (.seq (.reg [⟨some ⟨.a,.g⟩,none,.nc (.t ⟨.a,.a⟩),[]⟩,⟨some
 ⟨.a,.h⟩,none,.fa 0 (.t ⟨.a,.g⟩),[]⟩,⟨some ⟨.a,.i⟩,none,.ld 1 false (.t ⟨.a,.h⟩),[]⟩,⟨some ⟨.a,.j⟩,none,.mkf 175 [.t ⟨.a,.d⟩],[]⟩,⟨some ⟨.a,.k⟩,none,.call 174 [.t ⟨.a,.i⟩,.t
 ⟨.a,.j⟩],[]⟩,⟨some ⟨.a,.e⟩,none,.mv (.t ⟨.a,.k⟩),[]⟩]) .ret),[(⟨.a,.e⟩,none)]⟩
theorem ok159 : FnR Tryz.prog 0 159 cf159 := fnC_ok [5] Tryz.func159 (by kernel_rfl) (by kernel_rfl)
def cf166 : CF := ⟨73,2,.seq (.reg [⟨some ⟨.a,.d⟩,none,.new 123 (.t ⟨.a,.b⟩),[]⟩]) (.seq (.reg [⟨some ⟨.a,.j⟩,none,.ld 3 true (.t ⟨.a,.d⟩),[]⟩,⟨some ⟨.a,.k⟩,none,.call 180 [.t ⟨.a,.j⟩],[]⟩,⟨some
 ⟨.a,.e⟩,none,.new 170 (.c (.a [.s [],.s []])),[]⟩,⟨none,none,.st 2 (.t ⟨.a,.e⟩) (.t ⟨.a,.k⟩),[]⟩]) (.seq (.reg [⟨some ⟨.a,.l⟩,none,.mkm,[]⟩,⟨some ⟨.a,.f⟩,none,.mv (.t ⟨.a,.l⟩),
 []⟩]) (.seq (.reg [⟨some ⟨.a,.g⟩,none,.mv (.c (.c (.i .i64 (.negSucc 0)))),[]⟩]) (.seq (.seq (.reg [⟨some ⟨.a,.n⟩,none,.call 135 [.t ⟨.a,.a⟩],[]⟩,⟨some ⟨.a,.h⟩,none,.mv (.t ⟨.a,.n⟩),
 []⟩]) (.blk 0 (.loop (.seq (.seq (.reg [⟨some ⟨.b,.a⟩,none,.nc (.t ⟨.a,.a⟩),[]⟩,⟨some ⟨.b,.b⟩,none,.fa 0 (.t ⟨.b,.a⟩),[]⟩,⟨some ⟨.b,.c⟩,none,.ld 1 false (.t ⟨.b,.b⟩),[]⟩,⟨some ⟨.b,
 .d⟩,none,.len true (.t ⟨.b,.c⟩),[]⟩,⟨some ⟨.b,.e⟩,none,.bin .lss (.t ⟨.a,.h⟩) (.t ⟨.b,.d⟩),[]⟩]) (.cond (.t ⟨.b,.e⟩) .skip (.exit 0))) (.seq (.blk 1 (.seq (.reg [⟨some ⟨.b,.i⟩,none,.nc
 (.t ⟨.a,.a⟩),[]⟩,⟨some ⟨.b,.j⟩,none,.fa 0 (.t ⟨.b,.i⟩),[]⟩,⟨some ⟨.b,.k⟩,none,.ld 1 false (.t ⟨.b,.j⟩),[]⟩,⟨some ⟨.b,.m⟩,none,.ia 4 (.t ⟨.b,.k⟩) (.t ⟨.a,.h⟩),[]⟩,⟨some ⟨.b,.n⟩,
 none,.fa 0 (.t ⟨.b,.m⟩),[]⟩,⟨some ⟨.b,.o⟩,none,.ld 3 true (.t ⟨.b,.n⟩),[]⟩,⟨some ⟨.b,.p⟩,none,.call 180 [.t ⟨.b,.o⟩],[]⟩,⟨some ⟨.a,.i⟩,none,.new 170 (.c (.a [.s [],.s []])),[]⟩,
 ⟨none,none,.st 2 (.t ⟨.a,.i⟩) (.t ⟨.b,.p⟩),[]⟩]) (.seq (.seq (.reg [⟨some ⟨.c,.a⟩,none,.ld 2 true (.t ⟨.a,.i⟩),[]⟩,⟨some ⟨.c,.b⟩,none,.ld 2 true (.t ⟨.a,.e⟩),[]⟩,⟨some ⟨.c,.c⟩,
 none,.aeq false [.s,.s] (.t ⟨.c,.a⟩) (.t ⟨.c,.b⟩),[]⟩,⟨some ⟨.c,.d⟩,none,.mv (.t ⟨.c,.c⟩),[]⟩,⟨some ⟨.c,.e⟩,some (⟨.c,.d⟩,true),.mv (.t ⟨.a,.g⟩),[]⟩,⟨some ⟨.c,.f⟩,some (⟨.c,
 .d⟩,true),.bin .lss (.t ⟨.c,.e⟩) (.c (.c (.i .i64 (.ofNat 0)))),[]⟩,⟨some ⟨.c,.g⟩,none,.pk (.t ⟨.c,.d⟩) (.t ⟨.c,.f⟩) (.c (.c (.b false))),[]⟩]) (.cond (.t ⟨.c,.g⟩) (.reg [⟨some ⟨.a,.g⟩,
 none,.mv (.t ⟨.a,.h⟩),[]⟩]) .skip)) (.dreg [⟨some ⟨.c,.i⟩,none,.mv (.t ⟨.a,.f⟩),[]⟩,⟨some ⟨.c,.j⟩,none,.ld 2 true (.t ⟨.a,.i⟩),[]⟩,⟨some ⟨.c,.k⟩,none,.lkp [.s,.s] (.i .i64 (.ofNat
 0)) (.t ⟨.c,.i⟩) (.t ⟨.c,.j⟩),[]⟩,⟨some ⟨.c,.l⟩,none,.bin .add (.t ⟨.c,.k⟩) (.c (.c (.i .i64 (.ofNat 1)))),[]⟩,⟨some ⟨.c,.m⟩,none,.men [.s,.s] (.i .i64 (.ofNat 0)) (.t ⟨.c,.i⟩) (.t
 ⟨.c,.j⟩),[⟨some ⟨.c,.k⟩,none,.lkp [.s,.s] (.i .i64 (.ofNat 0)) (.t ⟨.c,.i⟩) (.t ⟨.c,.j⟩)⟩]⟩,⟨some ⟨.c,.n⟩,none,.ext 1 (.t ⟨.c,.m⟩),[]⟩,⟨none,none,.est (.t ⟨.c,.i⟩) (.t ⟨.c,.n⟩) (.t
 ⟨.c,.l⟩),[]⟩])))) (.reg [⟨some ⟨.b,.g⟩,none,.bin .add (.t ⟨.a,.h⟩) (.c (.c (.i .i64 (.ofNat 1)))),[]⟩,⟨some ⟨.a,.h⟩,none,.mv (.t ⟨.b,.g⟩),[]⟩])))))) (.seq (.seq (.reg [⟨some ⟨.c,.p⟩,
 none,.ld 2 true (.t ⟨.a,.e⟩),[]⟩,⟨some ⟨.d,.a⟩,none,.lkp [.s,.s] (.i .i64 (.ofNat 0)) (.t ⟨.a,.f⟩) (.t ⟨.c,.p⟩),[]⟩,⟨some ⟨.d,.b⟩,none,.bin .geq (.t ⟨.d,.a⟩) (.c (.c (.i .i64 (.ofNat
 3)))),[]⟩]) (.cond (.t ⟨.d,.b⟩) (.reg [⟨some ⟨.d,.e⟩,none,.nc (.t ⟨.a,.a⟩),[]⟩,⟨some ⟨.d,.f⟩,none,.fa 0 (.t ⟨.d,.e⟩),[]⟩,⟨some ⟨.d,.g⟩,none,.ld 1 false (.t ⟨.d,.f⟩),[]⟩,⟨some ⟨.d,
 .j⟩,none,.bin .add (.t ⟨.a,.g⟩) (.c (.c (.i .i64 (.ofNat 1)))),[]⟩,⟨some ⟨.d,.k⟩,none,.call 179 [.t ⟨.d,.g⟩,.t ⟨.a,.g⟩,.t ⟨.d,.j⟩],[]⟩,⟨some ⟨.d,.l⟩,none,.nc (.t ⟨.a,.a⟩),[]⟩,
 ⟨some ⟨.d,.m⟩,none,.fa 0 (.t ⟨.d,.l⟩),[]⟩,⟨none,none,.st 1 (.t ⟨.d,.m⟩) (.t ⟨.d,.k⟩),[]⟩]) .skip)) (.dreg [⟨some ⟨.d,.n⟩,none,.mv (.t ⟨.a,.a⟩),[]⟩,⟨some ⟨.d,.o⟩,none,.mv (.t ⟨.a,
 .a⟩),[]⟩,⟨some ⟨.d,.p⟩,none,.nc (.t ⟨.d,.o⟩),[]⟩,⟨some ⟨.e,.a⟩,none,.fa 0 (.t ⟨.d,.p⟩),[]⟩,⟨some ⟨.e,.b⟩,none,.ld 1 false (.t ⟨.e,.a⟩),[]⟩,⟨some ⟨.e,.c⟩,none,.ld 3 true (.t
 ⟨.a,.d⟩),[]⟩,⟨some ⟨.e,.d⟩,none,.call 158 [.t ⟨.e,.c⟩],[⟨some ⟨.e,.b⟩,none,.ld 1 false (.t ⟨.e,.a⟩)⟩]⟩,⟨some ⟨.e,.e⟩,none,.bld [.i .i64 (.ofNat 0),.s [],.sl none 0 0 0,.b false]
 [(0,(3,.t ⟨.e,.d⟩))],[]⟩,⟨some ⟨.e,.f⟩,none,.bsl 125 4 1 [.i .i64 (.ofNat 0),.s [],.sl none 0 0 0,.b false] [(0,(4,.t ⟨.e,.e⟩))],[]⟩,⟨some ⟨.e,.g⟩,none,.app 125 4 false (.t ⟨.e,
 .b⟩) (.t ⟨.e,.f⟩),[]⟩,⟨some ⟨.e,.h⟩,none,.nc (.t ⟨.d,.n⟩),[]⟩,⟨some ⟨.e,.i⟩,none,.fa 0 (.t ⟨.e,.h⟩),[]⟩,⟨none,none,.st 1 (.t ⟨.e,.i⟩) (.t ⟨.e,.g⟩),[]⟩])))))),[]⟩
theorem ok166 : FnR Tryz.prog 0 166 cf166 := fnC_ok [12,14,15,21,23,27,39,46,50,51,55,56] Tryz.func166 (by kernel_rfl) (by kernel_rfl)
def cf174 : CF := ⟨19,2,.seq (.reg [⟨some ⟨.a,.e⟩,none,.mv (.c (.c (.i .i64 (.ofNat 0)))),[]⟩]) (.seq (.seq (.reg [⟨some ⟨.a,.h⟩,none,.len true (.t ⟨.a,.a⟩),[]⟩,⟨some ⟨.a,.i⟩,none,.mv (.c (.c (.i .i64
 (.ofNat 0)))),[]⟩]) (.blk 0 (.loop (.seq (.reg [⟨some ⟨.a,.j⟩,none,.bin .lss (.t ⟨.a,.i⟩) (.t ⟨.a,.h⟩),[]⟩]) (.seq (.cond (.t ⟨.a,.j⟩) .skip (.exit 0)) (.seq (.blk 1 (.seq (.reg [⟨some ⟨.a,
 .f⟩,none,.mv (.t ⟨.a,.i⟩),[]⟩]) (.seq (.reg [⟨some ⟨.a,.o⟩,none,.ia 4 (.t ⟨.a,.a⟩) (.t ⟨.a,.f⟩),[]⟩,⟨some ⟨.a,.p⟩,none,.ld 4 true (.t ⟨.a,.o⟩),[]⟩,⟨some ⟨.b,.a⟩,none,.callv (.t
 ⟨.a,.b⟩) [.t ⟨.a,.p⟩],[]⟩]) (.cond (.t ⟨.b,.a⟩) (.seq (.reg [⟨some ⟨.a,.e⟩,none,.mv (.t ⟨.a,.f⟩),[]⟩]) .ret) .skip)))) (.reg [⟨some ⟨.b,.c⟩,none,.bin .add (.t ⟨.a,.i⟩) (.c (.c (.i .i64
 (.ofNat 1)))),[]⟩,⟨some ⟨.a,.i⟩,none,.mv (.t ⟨.b,.c⟩),[]⟩]))))))) (.seq (.reg [⟨some ⟨.a,.e⟩,none,.mv (.c (.c (.i .i64 (.negSucc 0)))),[]⟩]) .ret)),[(⟨.a,.e⟩,none)]⟩
theorem ok174 : FnR Tryz.prog 0 174 cf174 := fnC_ok [6,10,11,12,13,17] Tryz.func174 (by kernel_rfl) (by kernel_rfl)
def cf175 : CF := ⟨14,2,.seq (.reg [⟨some ⟨.a,.c⟩,none,.new 125 (.t ⟨.a,.a⟩),[]⟩,⟨some ⟨.a,.d⟩,none,.mv (.c (.c (.b false))),[]⟩]) (.seq (.reg [⟨some ⟨.a,.e⟩,none,.fa 3 (.t ⟨.a,.c⟩),[]⟩,⟨some ⟨.a,
 .f⟩,none,.ld 1 false (.t ⟨.a,.e⟩),[]⟩,⟨some ⟨.a,.g⟩,none,.un .not (.t ⟨.a,.f⟩),[]⟩,⟨some ⟨.a,.h⟩,none,.mv (.t ⟨.a,.g⟩),[]⟩,⟨some ⟨.a,.i⟩,some (⟨.a,.h⟩,true),.fa 0 (.t ⟨.a,.c⟩),
 []⟩,⟨some ⟨.a,.j⟩,some (⟨.a,.h⟩,true),.fa 0 (.t ⟨.a,.i⟩),[]⟩,⟨some ⟨.a,.k⟩,some (⟨.a,.h⟩,true),.ld 1 false (.t ⟨.a,.j⟩),[]⟩,⟨some ⟨.a,.l⟩,some (⟨.a,.h⟩,true),.ld 1 false (.t
 ⟨.a,.b⟩),[]⟩,⟨some ⟨.a,.m⟩,some (⟨.a,.h⟩,true),.bin .eql (.t ⟨.a,.k⟩) (.t ⟨.a,.l⟩),[]⟩,⟨some ⟨.a,.n⟩,none,.pk (.t ⟨.a,.h⟩) (.t ⟨.a,.m⟩) (.c (.c (.b false))),[]⟩,⟨some ⟨.a,.d⟩,
 none,.mv (.t ⟨.a,.n⟩),[]⟩]) .ret),[(⟨.a,.d⟩,none)]⟩
theorem ok175 : FnR Tryz.prog 0 175 cf175 := fnC_ok [] Tryz.func175 (by kernel_rfl) (by kernel_rfl)
def cf180 : CF := ⟨36,1,.seq (.reg [⟨some ⟨.a,.b⟩,none,.new 123 (.t ⟨.a,.a⟩),[]⟩,⟨some ⟨.a,.c⟩,none,.new 170 (.c (.a [.s [],.s []])),[]⟩]) (.seq (.reg [⟨some ⟨.a,.d⟩,none,.new 183 (.c (.a [.p none,.sl
 none 0 0 0])),[]⟩]) (.seq (.seq (.reg [⟨some ⟨.a,.i⟩,none,.fa 2 (.t ⟨.a,.b⟩),[]⟩,⟨some ⟨.a,.j⟩,none,.ld 1 false (.t ⟨.a,.i⟩),[]⟩,⟨some ⟨.a,.k⟩,none,.len true (.t ⟨.a,.j⟩),[]⟩,⟨some
 ⟨.a,.l⟩,none,.mv (.c (.c (.i .i64 (.ofNat 0)))),[]⟩]) (.blk 0 (.loop (.seq (.reg [⟨some ⟨.a,.m⟩,none,.bin .lss (.t ⟨.a,.l⟩) (.t ⟨.a,.k⟩),[]⟩]) (.seq (.cond (.t ⟨.a,.m⟩) .skip (.exit 0))
 (.seq (.blk 1 (.seq (.reg [⟨some ⟨.a,.n⟩,none,.ia 2 (.t ⟨.a,.j⟩) (.t ⟨.a,.l⟩),[]⟩,⟨some ⟨.a,.o⟩,none,.ld 2 true (.t ⟨.a,.n⟩),[]⟩,⟨some ⟨.a,.f⟩,none,.new 79 (.c (.a [.s [],.s []])),
 []⟩,⟨none,none,.st 2 (.t ⟨.a,.f⟩) (.t ⟨.a,.o⟩),[]⟩]) (.seq (.reg [⟨some ⟨.a,.p⟩,none,.fa 0 (.t ⟨.a,.f⟩),[]⟩,⟨some ⟨.b,.a⟩,none,.ld 1 false (.t ⟨.a,.p⟩),[]⟩,⟨some ⟨.b,.b⟩,none,.fa
 1 (.t ⟨.a,.f⟩),[]⟩,⟨some ⟨.b,.c⟩,none,.ld 1 false (.t ⟨.b,.b⟩),[]⟩,⟨some ⟨.b,.d⟩,none,.bld [.s [],.s []] [(0,(1,.t ⟨.b,.a⟩)),(1,(1,.t ⟨.b,.c⟩))],[]⟩,⟨some ⟨.b,.e⟩,none,.mv
 (.c (.c (.i .i64 (.ofNat 0)))),[]⟩]) (.blk 2 (.loop (.seq (.reg [⟨some ⟨.b,.f⟩,none,.bin .lss (.t ⟨.b,.e⟩) (.c (.c (.i .i64 (.ofNat 2)))),[]⟩]) (.seq (.cond (.t ⟨.b,.f⟩) .skip (.exit 2)) (.seq
 (.blk 3 (.seq (.reg [⟨some ⟨.b,.g⟩,none,.ix 2 1 false (.t ⟨.b,.d⟩) (.t ⟨.b,.e⟩),[]⟩,⟨some ⟨.a,.h⟩,none,.mv (.t ⟨.b,.g⟩),[]⟩]) (.seq (.reg [⟨some ⟨.b,.i⟩,none,.len false (.t ⟨.a,.h⟩),
 []⟩,⟨some ⟨.b,.j⟩,none,.call 190 [.t ⟨.b,.i⟩],[]⟩,⟨some ⟨.b,.k⟩,none,.call 189 [.t ⟨.a,.d⟩,.t ⟨.b,.j⟩],[]⟩]) (.seq (.reg [⟨some ⟨.b,.l⟩,none,.call 191 [.t ⟨.a,.d⟩,.c (.c (.i .u8
 (.ofNat 58)))],[]⟩]) (.reg [⟨some ⟨.b,.n⟩,none,.call 189 [.t ⟨.a,.d⟩,.t ⟨.a,.h⟩],[]⟩]))))) (.reg [⟨some ⟨.b,.o⟩,none,.bin .add (.t ⟨.b,.e⟩) (.c (.c (.i .i64 (.ofNat 1)))),[]⟩,⟨some ⟨.b,
 .e⟩,none,.mv (.t ⟨.b,.o⟩),[]⟩]))))))))) (.reg [⟨some ⟨.b,.p⟩,none,.bin .add (.t ⟨.a,.l⟩) (.c (.c (.i .i64 (.ofNat 1)))),[]⟩,⟨some ⟨.a,.l⟩,none,.mv (.t ⟨.b,.p⟩),[]⟩]))))))) (.seq (.dreg
 [⟨some ⟨.c,.a⟩,none,.fa 1 (.t ⟨.a,.b⟩),[]⟩,⟨some ⟨.c,.b⟩,none,.ld 1 false (.t ⟨.c,.a⟩),[]⟩,⟨some ⟨.c,.c⟩,none,.call 192 [.t ⟨.a,.d⟩],[⟨some ⟨.c,.b⟩,none,.ld 1 false (.t ⟨.c,
 .a⟩)⟩]⟩,⟨some ⟨.c,.d⟩,none,.bld [.s [],.s []] [(0,(1,.t ⟨.c,.b⟩)),(1,(1,.t ⟨.c,.c⟩))],[]⟩,⟨none,none,.st 2 (.t ⟨.a,.c⟩) (.t ⟨.c,.d⟩),[]⟩]) .ret))),[(⟨.a,.c⟩,some (2,true))]⟩
theorem ok180 : FnR Tryz.prog 0 180 cf180 := fnC_ok [23,28] Tryz.func180 (by kernel_rfl) (by kernel_rfl)
def cf192 : CF := ⟨14,1,.seq (.reg [⟨some ⟨.a,.c⟩,none,.mv (.c (.c (.s []))),[]⟩]) (.seq (.dreg [⟨some ⟨.a,.d⟩,none,.mv (.t ⟨.a,.a⟩),[]⟩,⟨some ⟨.a,.e⟩,none,.nc (.t ⟨.a,.d⟩),[]⟩,⟨some ⟨.a,.f⟩,none,
 .fa 1 (.t ⟨.a,.e⟩),[]⟩,⟨some ⟨.a,.g⟩,none,.ld 1 false (.t ⟨.a,.f⟩),[]⟩,⟨some ⟨.a,.h⟩,none,.usd (.t ⟨.a,.g⟩),[]⟩,⟨some ⟨.a,.i⟩,none,.mv (.t ⟨.a,.a⟩),[]⟩,⟨some ⟨.a,.j⟩,none,.nc
 (.t ⟨.a,.i⟩),[]⟩,⟨some ⟨.a,.k⟩,none,.fa 1 (.t ⟨.a,.j⟩),[]⟩,⟨some ⟨.a,.l⟩,none,.ld 1 false (.t ⟨.a,.k⟩),[]⟩,⟨some ⟨.a,.m⟩,none,.len true (.t ⟨.a,.l⟩),[]⟩,⟨some ⟨.a,.n⟩,none,
 .ustr (.t ⟨.a,.h⟩) (.t ⟨.a,.m⟩),[]⟩,⟨some ⟨.a,.c⟩,none,.mv (.t ⟨.a,.n⟩),[]⟩]) .ret),[(⟨.a,.c⟩,none)]⟩
theorem ok192 : FnR Tryz.prog 0 192 cf192 := fnC_ok [] Tryz.func192 (by kernel_rfl) (by kernel_rfl)
end
end Ev
end
section
namespace Ev
variable [Tx]
set_option autoImplicit false
noncomputable section
def ftb : FT := (.node 94 cf94 (.node 51 cf51 (.node 33 cf33 (.node 22 cf22 (.node 19 cf19 (.node 11 cf11 (.node 10 cf10 .nil .nil) (.node 16 cf16 .nil .nil)) (.node 21 cf21 (.node 20 cf20 .nil .nil) .nil)) (.node
 29 cf29 (.node 28 cf28 (.node 23 cf23 .nil .nil) .nil) (.node 31 cf31 (.node 30 cf30 .nil .nil) .nil))) (.node 41 cf41 (.node 38 cf38 (.node 35 cf35 (.node 34 cf34 .nil .nil) (.node 37 cf37 .nil
 .nil)) (.node 40 cf40 (.node 39 cf39 .nil .nil) .nil)) (.node 48 cf48 (.node 46 cf46 (.node 45 cf45 .nil .nil) .nil) (.node 50 cf50 (.node 49 cf49 .nil .nil) .nil)))) (.node 69 cf69 (.node 62 cf62
 (.node 59 cf59 (.node 57 cf57 (.node 52 cf52 .nil .nil) (.node 58 cf58 .nil .nil)) (.node 61 cf61 (.node 60 cf60 .nil .nil) .nil)) (.node 65 cf65 (.node 64 cf64 (.node 63 cf63 .nil .nil) .nil) (.node
 67 cf67 (.node 66 cf66 .nil .nil) .nil))) (.node 81 cf81 (.node 75 cf75 (.node 73 cf73 (.node 72 cf72 .nil .nil) (.node 74 cf74 .nil .nil)) (.node 79 cf79 (.node 76 cf76 .nil .nil) .nil)) (.node 90
 cf90 (.node 83 cf83 (.node 82 cf82 .nil .nil) .nil) (.node 92 cf92 (.node 91 cf91 .nil .nil) .nil))))) (.node 126 cf126 (.node 109 cf109 (.node 102 cf102 (.node 99 cf99 (.node 96 cf96 (.node 95 cf95
 .nil .nil) (.node 98 cf98 .nil .nil)) (.node 101 cf101 (.node 100 cf100 .nil .nil) .nil)) (.node 105 cf105 (.node 104 cf104 (.node 103 cf103 .nil .nil) .nil) (.node 108 cf108 (.node 106 cf106 .nil
 .nil) .nil))) (.node 116 cf116 (.node 113 cf113 (.node 111 cf111 (.node 110 cf110 .nil .nil) (.node 112 cf112 .nil .nil)) (.node 115 cf115 (.node 114 cf114 .nil .nil) .nil)) (.node 123 cf123 (.node
 121 cf121 (.node 117 cf117 .nil .nil) .nil) (.node 125 cf125 (.node 124 cf124 .nil .nil) .nil)))) (.node 142 cf142 (.node 135 cf135 (.node 131 cf131 (.node 129 cf129 (.node 127 cf127 .nil .nil)
 (.node 130 cf130 .nil .nil)) (.node 134 cf134 (.node 132 cf132 .nil .nil) .nil)) (.node 138 cf138 (.node 137 cf137 (.node 136 cf136 .nil .nil) .nil) (.node 140 cf140 (.node 139 cf139 .nil .nil)
 .nil))) (.node 159 cf159 (.node 146 cf146 (.node 145 cf145 (.node 144 cf144 .nil .nil) .nil) (.node 158 cf158 (.node 156 cf156 .nil .nil) .nil)) (.node 175 cf175 (.node 174 cf174 (.node 166 cf166
 .nil .nil) .nil) (.node 192 cf192 (.node 180 cf180 .nil .nil) .nil))))))
theorem ftb_ok : ftb.Ok (FnR Tryz.prog 0) := (.node ok94 (.node ok51 (.node ok33 (.node ok22 (.node ok19 (.node ok11 (.node ok10 .nil .nil) (.node ok16 .nil .nil)) (.node ok21 (.node ok20 .nil .nil) .nil)) (.node ok29 (.node ok28 (.node ok23
 .nil .nil) .nil) (.node ok31 (.node ok30 .nil .nil) .nil))) (.node ok41 (.node ok38 (.node ok35 (.node ok34 .nil .nil) (.node ok37 .nil .nil)) (.node ok40 (.node ok39 .nil .nil) .nil)) (.node ok48
 (.node ok46 (.node ok45 .nil .nil) .nil) (.node ok50 (.node ok49 .nil .nil) .nil)))) (.node ok69 (.node ok62 (.node ok59 (.node ok57 (.node ok52 .nil .nil) (.node ok58 .nil .nil)) (.node ok61 (.node
 ok60 .nil .nil) .nil)) (.node ok65 (.node ok64 (.node ok63 .nil .nil) .nil) (.node ok67 (.node ok66 .nil .nil) .nil))) (.node ok81 (.node ok75 (.node ok73 (.node ok72 .nil .nil) (.node ok74 .nil
 .nil)) (.node ok79 (.node ok76 .nil .nil) .nil)) (.node ok90 (.node ok83 (.node ok82 .nil .nil) .nil) (.node ok92 (.node ok91 .nil .nil) .nil))))) (.node ok126 (.node ok109 (.node ok102 (.node ok99
 (.node ok96 (.node ok95 .nil .nil) (.node ok98 .nil .nil)) (.node ok101 (.node ok100 .nil .nil) .nil)) (.node ok105 (.node ok104 (.node ok103 .nil .nil) .nil) (.node ok108 (.node ok106 .nil .nil)
 .nil))) (.node ok116 (.node ok113 (.node ok111 (.node ok110 .nil .nil) (.node ok112 .nil .nil)) (.node ok115 (.node ok114 .nil .nil) .nil)) (.node ok123 (.node ok121 (.node ok117 .nil .nil) .nil)
 (.node ok125 (.node ok124 .nil .nil) .nil)))) (.node ok142 (.node ok135 (.node ok131 (.node ok129 (.node ok127 .nil .nil) (.node ok130 .nil .nil)) (.node ok134 (.node ok132 .nil .nil) .nil)) (.node
 ok138 (.node ok137 (.node ok136 .nil .nil) .nil) (.node ok140 (.node ok139 .nil .nil) .nil))) (.node ok159 (.node ok146 (.node ok145 (.node ok144 .nil .nil) .nil) (.node ok158 (.node ok156 .nil .nil)
 .nil)) (.node ok175 (.node ok174 (.node ok166 .nil .nil) .nil) (.node ok192 (.node ok180 .nil .nil) .nil))))))
end
end Ev
end
section
inductive Pc where
 |s (nm : Str)
 |e (nm : Str)
 |t (x : Str)
namespace Pc
def src : Pc → Str
 |.s nm => 60 :: (nm ++ [62])
 |.e nm => 60 :: 47 :: (nm ++ [62])
 |.t x => x
def kind : Pc → Int
 |.s _ => 1
 |.e _ => 2
 |.t _ => 3
def name : Pc → Str
 |.s nm => nm
 |.e nm => nm
 |.t _ => []
def text : Pc → Str
 |.t x => x
 |_ => []
end Pc
def blankB (c : UInt8) : Bool := (((decide ((c.toNat : Int) = 9)) || (decide ((c.toNat : Int) = 10))) || (decide ((c.toNat : Int) = 12))) || (decide ((c.toNat : Int) = 32))
def letterB (c : UInt8) : Bool := ((decide (97 ≤ (c.toNat : Int))) && (decide ((c.toNat : Int) ≤ 122))) || ((decide (65 ≤ (c.toNat : Int))) && (decide ((c.toNat : Int) ≤ 90)))
def goodB (c : UInt8) : Bool := decide (33 ≤ c.toNat) && decide (c.toNat ≤ 126) && decide (c.toNat ≠ 38) && decide (c.toNat ≠ 47) && decide (c.toNat ≠ 60) && decide (c.toNat ≠ 62)
theorem good_iff {c : UInt8} (h : goodB c = true) : 33 ≤ c.toNat ∧ c.toNat ≤ 126 ∧ c.toNat ≠ 38 ∧ c.toNat ≠ 47 ∧ c.toNat ≠ 60 ∧ c.toNat ≠ 62 := by
 simpa [goodB,and_assoc] using h
theorem good_blank {c : UInt8} (h : goodB c = true) : blankB c = false := by
 obtain ⟨h1,_⟩ := good_iff h
 simp only [blankB,Bool.or_eq_false_iff,decide_eq_false_iff_not]
 omega
theorem drop_head {s r : Str} {k : Nat} {c : UInt8} (h : s.drop k = c :: r) : k < s.length ∧ s.getD k 0 = c ∧ s.drop (k + 1) = r := by
 have hlt : k < s.length := by
  rcases Nat.lt_or_ge k s.length with h' | h'
  ·exact h'
  ·rw [List.drop_eq_nil_of_le h'] at h; cases h
 have h2 := List.drop_eq_getElem_cons hlt
 rw [h] at h2
 injection h2 with h3 h4
 refine ⟨hlt,?_,h4.symm⟩
 rw [List.getD_eq_getElem?_getD,List.getElem?_eq_getElem hlt,h3]; rfl
theorem drop_app {s l r : Str} {k : Nat} (h : s.drop k = l ++ r) : s.drop (k + l.length) = r ∧ (s.drop k).take l.length = l := by
 constructor
 ·rw [← List.drop_drop,h]; simp
 ·rw [h]; simp
theorem drop_len {s r : Str} {k : Nat} (h : s.drop k = r) (hk : k ≤ s.length) : k + r.length = s.length := by
 rw [← h,List.length_drop]; omega
theorem drop_at {s l r : Str} {k j : Nat} (h : s.drop k = l ++ r) (hj : j < l.length) : s.drop (k + j) = l[j] :: (l.drop (j + 1) ++ r) := by
 rw [← List.drop_drop,h,List.drop_append_of_le_length (by omega),List.drop_eq_getElem_cons hj]; rfl
end
section
open Go.RowKit
theorem blankC {w : World} (c : UInt8) : Calls Tryz.prog 79 #[.int .u8 (c.toNat : Int)] w (Ret fun v w' => Ext w w' ∧ v = .bool (blankB c)) := by
 refine ref04_Blank.ok _ ?_
 unfold ref04_Blank.vc
 exact ⟨Chg.refl _ _,rfl⟩
theorem letterC {w : World} (c : UInt8) : Calls Tryz.prog 81 #[.int .u8 (c.toNat : Int)] w (Ret fun v w' => Ext w w' ∧ v = .bool (letterB c)) := by
 refine ref04_Letter.ok _ ?_
 unfold ref04_Letter.vc
 exact ⟨Chg.refl _ _,rfl⟩
theorem letterAt {w : World} {s r : Str} {k : Nat} {c : UInt8} (h : s.drop k = c :: r) : Calls Tryz.prog 50 #[.string (Bs s),.int .i64 (k : Int)] w (Ret fun v w' => Ext w w' ∧ v = .bool (letterB c)) := by
 obtain ⟨h1,h2,_⟩ := drop_head h
 refine ref10_letter.ok _ _ ?_
 unfold ref10_letter.vc
 refine ⟨fun _ => ⟨by omega,by omega⟩,letterB c,fun _ => ?_,fun w1 hE => ⟨hE,?_⟩⟩
 ·rw [Int.toNat_natCast,h2]; exact letterC c
 ·rw [decide_eq_true (by omega : (k : Int) < (s.length : Int))]; rfl
theorem uptoC {w : World} {s nm r : Str} {k : Nat} (h : s.drop k = nm ++ 62 :: r) (hg : ∀ c ∈ nm,goodB c = true) (hl : s.length ≤ 1000000) :
  Calls Tryz.prog 82 #[.string (Bs s),.int .i64 (k : Int),.string (Bs ([47,62] : Str))] w (Ret fun v w' => Ext w w' ∧ v = .int .i64 ((k + nm.length : Nat) : Int)) := by
 refine ref10_upto.ok _ _ _ ?_
 unfold ref10_upto.vc
 have hend := drop_head (drop_app h).1
 -- the sign at a place
 have sign : ∀ j,j ≤ nm.length → k + j < s.length ∧ blankB (s.getD (k + j) 0) = false ∧ (j < nm.length → goodB (s.getD (k + j) 0) = true) ∧ (j = nm.length → s.getD (k + j) 0 = 62) := fun j hj => by
  rcases Nat.lt_or_ge j nm.length with h1 | h1
  ·obtain ⟨g1,g2,_⟩ := drop_head (drop_at h h1)
   have hgood := hg _ (List.getElem_mem h1)
   exact ⟨g1,by rw [g2]; exact good_blank hgood,fun _ => by rw [g2]; exact hgood,fun e => by omega⟩
  ·have e : j = nm.length := by omega
   subst e
   exact ⟨hend.1,by rw [hend.2.1]; decide,fun h => by omega,fun _ => hend.2.1⟩
 refine ⟨fun a w1 => ∃ j : Nat,a = ((k + j : Nat) : Int) ∧ j ≤ nm.length ∧ Ext w w1,fun a _ => s.length - a.toNat,⟨0,rfl,Nat.zero_le _,Chg.refl _ _⟩,?_⟩
 rintro _ w1 ⟨j,rfl,hj,hE⟩
 obtain ⟨h1,h2,h3,h4⟩ := sign j hj
 rw [Int.toNat_natCast]
 refine ⟨fun _ => ⟨by omega,by omega⟩,false,fun _ => ?_,fun w2 hE2 => ⟨fun _ => ?_,fun h => ?_⟩⟩
 ·have := blankC (w := w1) (s.getD (k + j) 0)
  rw [h2] at this; exact this
 ·refine ⟨fun i w3 => (i = 0 ∨ i = 1 ∨ (i = 2 ∧ j < nm.length)) ∧ Ext w w3,fun i _ => (2 - i).toNat,⟨.inl rfl,hE.trans hE2⟩,?_⟩
  rintro i w3 ⟨hi,hE3⟩
  have hlen : ((([47,62] : Str)).length : Int) = 2 := rfl
  refine ⟨fun hi2 w4 hE4 => ⟨⟨by omega,by omega⟩,⟨by omega,hi2⟩,fun he w5 hE5 => ⟨((hE3.trans hE4).trans hE5),?_⟩,fun he => ⟨⟨by omega,by omega⟩,fun w5 hE5 => ⟨⟨?_,(hE3.trans hE4).trans hE5⟩,?_⟩⟩⟩,fun hi2 => ⟨⟨by omega,by omega⟩,⟨j + 1,by omega,?_,hE3⟩,?_⟩⟩
  ·rcases Nat.lt_or_ge j nm.length with hlt | hge
   ·obtain ⟨g1,g2,g3,g4,g5,g6⟩ := good_iff (h3 hlt)
    rcases hi with rfl | rfl | ⟨rfl,_⟩
    ·exact absurd he (by simp only [Int.toNat_zero]; intro e; have : (s.getD (k + j) 0).toNat = 47 := (by exact_mod_cast e); omega)
    ·exact absurd he (by intro e; have : (s.getD (k + j) 0).toNat = 62 := (by exact_mod_cast e); omega)
    ·omega
   ·rw [show j = nm.length by omega]
  ·rcases hi with rfl | rfl | ⟨rfl,_⟩
   ·exact .inr (.inl rfl)
   ·refine .inr (.inr ⟨rfl,?_⟩)
    rcases Nat.lt_or_ge j nm.length with hlt | hge
    ·exact hlt
    ·exact absurd (h4 (by omega)) (fun e => he (by rw [e]; rfl))
   ·omega
  ·dsimp only; omega
  ·rcases hi with rfl | rfl | ⟨rfl,h⟩
   ·omega
   ·omega
   ·omega
  ·have hj' : j < nm.length := by
    rcases hi with rfl | rfl | ⟨rfl,h⟩
    ·omega
    ·omega
    ·exact h
   dsimp only; omega
 ·rcases h with h | h
  ·omega
  ·cases h
theorem tagC {w : World} {s nm r : Str} {k : Nat} {kind : Int} {Q : World → Prop} (hq : Q w) (hQ : ∀ {a b : World},Q a → Ext a b → Q b) (h : s.drop k = nm ++ 62 :: r) (hg : ∀ c ∈ nm,goodB c = true) (hl : s.length ≤ 1000000)
  (hn : ∀ w : World,Q w → Calls Tryz.prog 83 #[.string (Bs nm)] w (Ret fun v w' => Ext w w' ∧ v = .string (Bs nm))) :
  Calls Tryz.prog 51 #[.string (Bs s),.int .i64 (k : Int),.int .i64 kind] w (Ret fun v w' => Ext w w' ∧ v = .tuple #[.agg #[.int .i64 kind,.string (Bs nm),.string (Bs ([] : Str)),Sl.v Sl.nil,.bool false],.int .i64 ((k + nm.length + 1 : Nat) : Int),.bool true]) := by
 refine ref10_tag.ok _ _ _ ?_
 unfold ref10_tag.vc
 obtain ⟨e1,e2,_⟩ := drop_head (drop_app h).1
 have e3 := (drop_app h).2
 intro w1 B4 hN4 hE1
 refine CallK.exact (uptoC h hg hl) fun w2 hE2 => ⟨_,rfl,⟨by omega,by omega,by omega⟩,?_⟩
 rw [Int.toNat_natCast,Int.toNat_natCast,show k + nm.length - k = nm.length by omega,e3]
 refine CallK.exact (hn _ (hQ hq (hE1.trans hE2))) fun w3 hE3 => ⟨_,rfl,?_⟩
 intro w4 B12 hN12 hE4
 have hE : Ext w w4 := ((hE1.trans hE2).trans hE3).trans hE4
 have hB4 : w.heap.size ≤ B4 := hN4.ge
 have hB12 : w.heap.size ≤ B12 := Nat.le_trans ((hE1.trans hE2).trans hE3).size hN12.ge
 refine ⟨fun a c w5 => a = ((k + nm.length : Nat) : Int) ∧ c = Sl.nil ∧ Ext w w5,fun _ _ _ => 0,⟨rfl,rfl,hE⟩,?_⟩
 rintro _ _ w5 ⟨rfl,rfl,hE5⟩
 refine ⟨fun a w6 => a = ((k + nm.length : Nat) : Int) ∧ Ext w w6,fun _ _ => 0,⟨rfl,hE5⟩,?_⟩
 rintro _ w6 ⟨rfl,hE6⟩
 rw [Int.toNat_natCast,e2]
 have h62 : ((62 : UInt8).toNat : Int) = 62 := rfl
 refine ⟨fun _ => ⟨by omega,by omega⟩,false,fun _ => blankC 62,fun w7 hE7 => ⟨fun _ => ⟨by omega,by omega⟩,fun hx => ?_,fun _ => ⟨fun hx => by omega,fun _ => ⟨⟨by omega,by omega⟩,fun _ => ?_,fun hx => absurd h62 hx⟩⟩⟩⟩
 ·rcases hx.2 with hx | hx
  ·cases hx
  ·rw [h62] at hx; omega
 ·refine ⟨fun c w8 => c = Sl.nil ∧ Ext w w8,⟨fun _ w8 hC => ⟨rfl,Chg.fresh (hE6.trans hE7) hC (by simpa using hB12)⟩,fun _ => ⟨rfl,hE6.trans hE7⟩⟩,?_⟩
  rintro _ w8 ⟨rfl,hE8⟩
  refine ⟨⟨by omega,by omega⟩,fun w9 hC => ⟨Chg.fresh hE8 hC (by simpa using hB4),?_⟩⟩
  rw [show (((k + nm.length : Nat) : Int) + 1) = ((k + nm.length + 1 : Nat) : Int) by omega]
theorem decodeC {w : World} {x : Str} (hg : ∀ c ∈ x,goodB c = true) (hl : x.length ≤ 1000000) :
  Calls Tryz.prog 48 #[.string (Bs x),.bool false] w (Ret fun v w' => Ext w w' ∧ v = .string (Bs x)) := by
 refine ref09_Decode.ok _ _ ?_
 unfold ref09_Decode.vc
 refine ⟨fun t a w1 => ∃ j : Nat,a = (j : Int) ∧ j ≤ x.length ∧ t = x.take j ∧ Ext w w1,fun _ a _ => x.length - a.toNat,⟨0,rfl,Nat.zero_le _,rfl,Chg.refl _ _⟩,?_⟩
 rintro _ _ w1 ⟨j,rfl,hj,rfl,hE⟩
 rw [Int.toNat_natCast]
 refine ⟨fun hlt => ?_,fun hge => ⟨hE,by rw [show j = x.length by omega,List.take_length]⟩⟩
 have hj' : j < x.length := by omega
 have hc : x.getD j 0 = x[j] := by rw [List.getD_eq_getElem?_getD,List.getElem?_eq_getElem hj']; rfl
 obtain ⟨_,_,h38,_⟩ := good_iff (hg _ (List.getElem_mem hj'))
 have e : x.take j ++ (x.drop j).take (((j : Int) + 1).toNat - j) = x.take (j + 1) := by
  rw [show ((j : Int) + 1).toNat - j = 1 by omega,List.take_add]
 refine ⟨⟨by omega,hlt⟩,fun h => ?_,fun _ => ⟨⟨by omega,by omega⟩,⟨by omega,by omega,by omega⟩,?_,⟨by omega,by omega⟩,⟨j + 1,by omega,by omega,e,hE⟩,?_⟩⟩
 ·rw [hc] at h
  exact absurd (by exact_mod_cast h) h38
 ·simp only [List.length_take,List.length_drop]; omega
 ·dsimp only; omega
theorem textC {w : World} {s x r : Str} {k : Nat} (h : s.drop k = x ++ r) (hk : k ≤ s.length) (hx : x ≠ []) (hg : ∀ c ∈ x,goodB c = true) (hr : r = [] ∨ ∃ q,r = 60 :: q) (hl : s.length ≤ 1000000) :
  Calls Tryz.prog 49 #[.string (Bs s),.int .i64 (k : Int)] w (Ret fun v w' => Ext w w' ∧ v = .tuple #[.agg #[.int .i64 3,.string (Bs ([] : Str)),.string (Bs x),Sl.v Sl.nil,.bool false],.int .i64 ((k + x.length : Nat) : Int),.bool true]) := by
 refine ref10_text.ok _ _ ?_
 unfold ref10_text.vc
 have hlen := drop_len h hk
 rw [List.length_append] at hlen
 have hx0 : 0 < x.length := by cases x with
  |nil => exact absurd rfl hx
  |cons a b => simp
 have good : ∀ j,j < x.length → goodB (s.getD (k + j) 0) = true := fun j hj => by
  obtain ⟨_,g2,_⟩ := drop_head (drop_at h hj)
  rw [g2]; exact hg _ (List.getElem_mem hj)
 have g0 := good_blank (good 0 hx0)
 rw [Nat.add_zero] at g0
 intro w1 B3 hN hE1
 have hB3 := hN.ge
 refine ⟨fun a w2 => ∃ j : Nat,a = ((k + j : Nat) : Int) ∧ j ≤ x.length ∧ Ext w w2,fun a _ => s.length - a.toNat,⟨0,rfl,Nat.zero_le _,hE1⟩,?_⟩
 rintro _ w2 ⟨j,rfl,hj,hE2⟩
 rw [Int.toNat_natCast,Int.toNat_natCast]
 intro w3 hE3
 refine ⟨fun h => ⟨by omega,h⟩,fun h => ⟨by omega,h.1⟩,blankB (s.getD (k + j) 0),fun _ w' hw' => blankC _,fun h => ⟨by omega,by omega⟩,blankB (s.getD k 0),fun _ w' hw' => blankC _,fun hc => ⟨⟨by omega,by omega⟩,fun w4 hE4 => ⟨⟨j + 1,by omega,?_,(hE2.trans hE3).trans hE4⟩,?_⟩⟩,fun hc => ?_⟩
 ·rcases Nat.lt_or_ge j x.length with hlt | hge
  ·omega
  ·exfalso
   have e : j = x.length := by omega
   subst e
   rcases hr with rfl | ⟨q,rfl⟩
   ·have := hc.1.1; simp at hlen; omega
   ·obtain ⟨_,g2,_⟩ := drop_head (drop_app h).1
    have h60 := hc.1.2
    rw [g2] at h60; exact h60 rfl
 ·have := hc.1.1; dsimp only; omega
 ·have e : j = x.length := by
   rcases Nat.lt_or_ge j x.length with hlt | hge
   ·exfalso
    obtain ⟨_,_,_,_,g5,_⟩ := good_iff (good j hlt)
    rcases hc with (hc | hc) | hc
    ·omega
    ·exact hc (fun e => g5 (by exact_mod_cast e))
    ·rw [good_blank (good j hlt),g0] at hc; cases hc
   ·omega
  subst e
  refine ⟨⟨by omega,by omega,by omega⟩,fun w4 hE4 => ?_⟩
  rw [show k + x.length - k = x.length by omega,(drop_app h).2]
  refine CallK.exact (decodeC hg (by omega)) fun w5 hE5 => ⟨_,rfl,fun w6 hC => ⟨Chg.fresh ((((hE2.trans hE3).trans hE4)).trans hE5) hC (by simpa using hB3),rfl⟩⟩
theorem hasEnd {w : World} {s r : Str} {k : Nat} {Q : World → Prop} (hq : Q w) (h : s.drop k = 60 :: 47 :: r) (hl : s.length ≤ 1000000)
  (hlow : ∀ w : World,Q w → Calls Tryz.prog 46 #[.string (Bs ([60,47] : Str))] w (Ret fun v w' => Ext w w' ∧ v = .string (Bs ([60,47] : Str)))) :
  Calls Tryz.prog 52 #[.string (Bs s),.int .i64 (k : Int),.string (Bs ([60,47] : Str))] w (Ret fun v w' => Ext w w' ∧ v = .bool true) := by
 refine ref10_has.ok _ _ _ ?_
 unfold ref10_has.vc
 have h1 := drop_head h
 have h2 := drop_head h1.2.2
 have hlen : ((([60,47] : Str)).length : Int) = 2 := rfl
 refine ⟨fun _ => ⟨by omega,by omega⟩,fun _ => ⟨by omega,by omega⟩,fun _ => ⟨by omega,by omega,by omega⟩,[60,47],fun _ => ?_,fun w1 hE => ⟨hE,?_⟩⟩
 ·have e : (s.drop (k : Int).toNat).take (((k : Int) + ((([60,47] : Str)).length : Int)).toNat - (k : Int).toNat) = [60,47] := by
   rw [hlen,show ((k : Int) + 2).toNat - (k : Int).toNat = 2 by omega,Int.toNat_natCast,h]; rfl
  rw [e]; exact hlow w hq
 ·rw [decide_eq_true (show (0 : Int) ≤ (k : Int) by omega),decide_eq_true (show ((([60,47] : Str)).length : Int) ≤ (s.length : Int) - (k : Int) by omega),decide_eq_true rfl]; rfl
structure Pc.Ok (p : Pc) : Prop where
 good : ∀ c ∈ p.name ++ p.text,goodB c = true
 first : ∀ nm,p = .s nm ∨ p = .e nm → ∃ c r,nm = c :: r ∧ letterB c = true
 word : ∀ x,p = .t x → x ≠ []
theorem nextC {w : World} {s r : Str} {k : Nat} {p : Pc} {Q : World → Prop} (hq : Q w) (hQ : ∀ {a b : World},Q a → Ext a b → Q b) (h : s.drop k = p.src ++ r) (hk : k ≤ s.length) (hp : p.Ok) (hr : ∀ x,p = .t x → r = [] ∨ ∃ q,r = 60 :: q) (hl : s.length ≤ 1000000)
  (hn : (∀ x,p ≠ .t x) → ∀ w : World,Q w → Calls Tryz.prog 83 #[.string (Bs p.name)] w (Ret fun v w' => Ext w w' ∧ v = .string (Bs p.name)))
  (hlow : ∀ w : World,Q w → Calls Tryz.prog 46 #[.string (Bs ([60,47] : Str))] w (Ret fun v w' => Ext w w' ∧ v = .string (Bs ([60,47] : Str)))) :
  Calls Tryz.prog 29 #[.string (Bs s),.int .i64 (k : Int),.string (Bs ([] : Str))] w (Ret fun v w' => Ext w w' ∧ v = .tuple #[.agg #[.int .i64 p.kind,.string (Bs p.name),.string (Bs p.text),Sl.v Sl.nil,.bool false],.int .i64 ((k + p.src.length : Nat) : Int),.bool true]) := by
 refine ref10_Next.ok _ _ _ ?_
 unfold ref10_Next.vc
 have hlt : k < s.length := by
  have hlen := drop_len h hk
  have : 0 < p.src.length := by
   cases p with
   |s nm => simp [Pc.src]
   |e nm => simp [Pc.src]
   |t x => cases x with
    |nil => exact absurd rfl (hp.word _ rfl)
    |cons a b => simp [Pc.src]
  rw [List.length_append] at hlen; omega
 refine ⟨fun hx => by omega,fun _ w1 B4 hN hE1 => ?_⟩
 have hB4 := hN.ge
 refine ⟨fun w2 => Ext w w2,⟨fun hx => absurd rfl hx,fun _ => hE1⟩,fun w2 hE2 => ⟨⟨by omega,by omega⟩,fun hx => ?_,fun hx => ?_⟩⟩
 ·rw [Int.toNat_natCast] at hx
  cases p with
  |s nm => exact absurd (by rw [(drop_head h).2.1]; rfl) hx
  |e nm => exact absurd (by rw [(drop_head h).2.1]; rfl) hx
  |t x =>
   refine CallK.exact (textC h hk (hp.word _ rfl) (fun c hc => hp.good c (by simp only [Pc.name,Pc.text,List.nil_append]; exact hc)) (hr _ rfl) hl) fun w3 hE3 => ⟨_,_,_,_,_,_,_,rfl,fun w4 hC => ⟨Chg.fresh (hE2.trans hE3) hC (by simpa using hB4),rfl⟩⟩
 ·rw [Int.toNat_natCast] at hx
  refine ⟨⟨by omega,by omega⟩,?_⟩
  cases p with
  |t x =>
   obtain ⟨c,q,rfl⟩ : ∃ c q,x = c :: q := by
    cases x with
    |nil => exact absurd rfl (hp.word _ rfl)
    |cons c q => exact ⟨c,q,rfl⟩
   obtain ⟨_,_,_,_,g5,_⟩ := good_iff (hp.good c (by simp [Pc.name,Pc.text]))
   rw [(drop_head h).2.1] at hx
   exact absurd (fun e => g5 (by exact_mod_cast e)) hx
  |s nm =>
   obtain ⟨c,q,rfl,hc⟩ := hp.first nm (.inl rfl)
   have h1 := (drop_head h).2.2
   have h1' : s.drop (k + 1) = (c :: q) ++ 62 :: r := by rw [h1]; simp
   rw [show ((k : Int) + 1) = ((k + 1 : Nat) : Int) by omega]
   refine CallK.exact (letterAt (c := c) h1') fun w3 hE3 => ⟨_,rfl,fun _ => ⟨⟨by omega,by omega⟩,?_⟩,fun hx => by rw [hc] at hx; cases hx⟩
   refine CallK.exact (tagC (hQ hq (hE2.trans hE3)) hQ h1' (fun c' hc' => hp.good c' (by simp only [Pc.name,Pc.text,List.append_nil]; exact hc')) hl (hn fun x h => by cases h)) fun w4 hE4 => ⟨_,_,_,_,_,_,_,rfl,fun w5 hC => ⟨Chg.fresh ((hE2.trans hE3).trans hE4) hC (by simpa using hB4),?_⟩⟩
   simp only [Pc.kind,Pc.name,Pc.text,Pc.src,List.length_cons,List.length_append,List.length_nil]
   rw [show k + 1 + (q.length + 1) + 1 = k + (q.length + 1 + (0 + 1) + 1) by omega]
  |e nm =>
   obtain ⟨c,q,rfl,hc⟩ := hp.first nm (.inr rfl)
   have h0 : s.drop k = 60 :: 47 :: ((c :: q) ++ 62 :: r) := by rw [h]; simp [Pc.src]
   have h1 := (drop_head h0).2.2
   have h2 := (drop_head h1).2.2
   rw [show ((k : Int) + 1) = ((k + 1 : Nat) : Int) by omega]
   refine CallK.exact (letterAt h1) fun w3 hE3 => ⟨_,rfl,fun hx => absurd hx (by decide),fun _ => ?_⟩
   refine CallK.exact (hasEnd (hQ hq (hE2.trans hE3)) h0 hl hlow) fun w4 hE4 => ⟨_,rfl,fun _ => ⟨by omega,by omega⟩,true,fun _ => ?_,fun w5 hE5 => ⟨fun _ => ⟨⟨by omega,by omega⟩,?_⟩,fun hx => ?_⟩⟩
   ·rw [show ((k : Int) + 2) = ((k + 1 + 1 : Nat) : Int) by omega,← hc]; exact letterAt h2
   ·rw [show ((k : Int) + 2) = ((k + 1 + 1 : Nat) : Int) by omega]
    refine CallK.exact (tagC (hQ hq (((hE2.trans hE3).trans hE4).trans hE5)) hQ h2 (fun c' hc' => hp.good c' (by simp only [Pc.name,Pc.text,List.append_nil]; exact hc')) hl (hn fun x h => by cases h)) fun w6 hE6 => ⟨_,_,_,_,_,_,_,rfl,fun w7 hC => ⟨Chg.fresh ((((hE2.trans hE3).trans hE4).trans hE5).trans hE6) hC (by simpa using hB4),?_⟩⟩
    simp only [Pc.kind,Pc.name,Pc.text,Pc.src,List.length_cons,List.length_append,List.length_nil]
    rw [show k + 1 + 1 + (q.length + 1) + 1 = k + (q.length + 1 + (0 + 1) + 1 + 1) by omega]
   ·rcases hx with hx | hx <;> cases hx
end
section
open Go.RowKit
def srcs (ps : List Pc) : Str := (ps.map Pc.src).flatten
def Sep : List Pc → Prop
 |[] => True
 |p :: r => (∀ x,p = .t x → r = [] ∨ ∃ q r',r = q :: r' ∧ ∀ y,q ≠ .t y) ∧ Sep r
def tkc (p : Pc) : List Value := [.int .i64 p.kind,.string (Bs p.name),.string (Bs p.text),Sl.v Sl.nil,.bool false]
def tkc0 : List Value := [.int .i64 6,.string (Bs ([] : Str)),.string (Bs ([] : Str)),Sl.v Sl.nil,.bool false]
theorem srcs_cons (p : Pc) (ps : List Pc) : srcs (p :: ps) = p.src ++ srcs ps := rfl
theorem src_sign {p : Pc} (hp : p.Ok) : ∀ c ∈ p.src,33 ≤ c.toNat ∧ c.toNat ≤ 126 := by
 have g : ∀ c,goodB c = true → 33 ≤ c.toNat ∧ c.toNat ≤ 126 := fun c h => ⟨(good_iff h).1,(good_iff h).2.1⟩
 intro c hc
 cases p with
 |s nm =>
  simp only [Pc.src,List.mem_cons,List.mem_append,List.not_mem_nil,or_false] at hc
  rcases hc with rfl | hc | rfl
  ·decide
  ·exact g c (hp.good c (by simp [Pc.name,hc]))
  ·decide
 |e nm =>
  simp only [Pc.src,List.mem_cons,List.mem_append,List.not_mem_nil,or_false] at hc
  rcases hc with rfl | rfl | hc | rfl
  ·decide
  ·decide
  ·exact g c (hp.good c (by simp [Pc.name,hc]))
  ·decide
 |t x => exact g c (hp.good c (by simp [Pc.name,Pc.text]; exact hc))
theorem runeC {w : World} {s : Str} {k : Nat} (hk : k < s.length) (hc : (s.getD k 0).toNat < 128) : Calls Tryz.prog 45 #[.string (Bs s),.int .i64 (k : Int)] w (Ret fun v w' => Ext w w' ∧ v = .tuple #[.int .i32 (IntKind.i32.wrap ((s.getD k 0).toNat : Int)),.int .i64 1]) := by
 refine ref04_Next.ok _ _ ?_
 unfold ref04_Next.vc
 rw [Int.toNat_natCast]
 refine ⟨⟨by omega,by omega⟩,⟨by omega,by omega⟩,fun _ _ _ _ => False,⟨fun _ => ⟨Chg.refl _ _,rfl⟩,fun h => absurd (by exact_mod_cast hc) h⟩,fun _ _ _ _ h => h.elim⟩
theorem cleanC {w : World} {s : Str} (hs : ∀ c ∈ s,33 ≤ c.toNat ∧ c.toNat ≤ 126) (hl : s.length ≤ 1000000) : Calls Tryz.prog 28 #[.string (Bs s)] w (Ret fun v w' => Ext w w' ∧ v = .string (Bs s)) := by
 refine ref04_Clean.ok _ ?_
 unfold ref04_Clean.vc
 refine ⟨fun t a w1 => ∃ j : Nat,a = (j : Int) ∧ j ≤ s.length ∧ t = s.take j ∧ Ext w w1,fun _ a _ => s.length - a.toNat,⟨0,rfl,Nat.zero_le _,rfl,Chg.refl _ _⟩,?_⟩
 rintro _ _ w1 ⟨j,rfl,hj,rfl,hE⟩
 rw [Int.toNat_natCast]
 refine ⟨fun hlt => ?_,fun hge => ⟨hE,by rw [show j = s.length by omega,List.take_length]⟩⟩
 have hj' : j < s.length := by omega
 have hc : s.getD j 0 = s[j] := by rw [List.getD_eq_getElem?_getD,List.getElem?_eq_getElem hj']; rfl
 obtain ⟨h1,h2⟩ := hs _ (List.getElem_mem hj')
 rw [← hc] at h1 h2
 have e : s.take j ++ (s.drop j).take (((j : Int) + 1).toNat - j) = s.take (j + 1) := by
  rw [show ((j : Int) + 1).toNat - j = 1 by omega,List.take_add]
 refine CallK.exact (runeC hj' (by omega)) fun w2 hE2 => ⟨_,_,rfl,fun _ => ⟨by omega,hlt⟩,fun h => ?_,fun _ => ⟨⟨by omega,hlt⟩,fun h => ?_,fun _ => ⟨⟨by omega,by omega⟩,⟨by omega,by omega,by omega⟩,?_,⟨by omega,by omega⟩,⟨j + 1,by omega,by omega,e,hE.trans hE2⟩,?_⟩⟩⟩
 ·rcases h with h | h
  ·omega
  ·omega
 ·omega
 ·simp only [List.length_take,List.length_drop]; omega
 ·dsimp only; omega
theorem nextEnd {w : World} {s : Str} : Calls Tryz.prog 29 #[.string (Bs s),.int .i64 (s.length : Int),.string (Bs ([] : Str))] w (Ret fun v w' => Ext w w' ∧ v = .tuple #[.agg #[.int .i64 6,.string (Bs ([] : Str)),.string (Bs ([] : Str)),Sl.v Sl.nil,.bool false],.int .i64 (s.length : Int),.bool true]) := by
 refine ref10_Next.ok _ _ _ ?_
 unfold ref10_Next.vc
 exact ⟨fun _ w1 B4 hN hE => ⟨hE,rfl⟩,fun h => by omega⟩
theorem sep_next {p : Pc} {ps : List Pc} (h : Sep (p :: ps)) (hok : ∀ q ∈ ps,q.Ok) : ∀ x,p = .t x → srcs ps = [] ∨ ∃ q,srcs ps = 60 :: q := fun x hx => by
 rcases h.1 x hx with rfl | ⟨q,r',rfl,hq⟩
 ·exact .inl rfl
 ·cases q with
  |s nm => exact .inr ⟨_,rfl⟩
  |e nm => exact .inr ⟨_,rfl⟩
  |t y => exact absurd rfl (hq y)
theorem tkc_one (p : Pc) : ∀ u ∈ ([tkc p].flatten),u.oneCell' = true := by
 intro u hu
 simp only [List.flatten_cons,List.flatten_nil,List.append_nil,tkc,List.mem_cons,List.not_mem_nil,or_false] at hu
 rcases hu with rfl | rfl | rfl | rfl | rfl <;> rfl
theorem tkc0_one : ∀ u ∈ ([tkc0].flatten),u.oneCell' = true := by
 intro u hu
 simp only [List.flatten_cons,List.flatten_nil,List.append_nil,tkc0,List.mem_cons,List.not_mem_nil,or_false] at hu
 rcases hu with rfl | rfl | rfl | rfl | rfl <;> rfl
theorem Own.many {A : List Nat} {w : World} {B size : Nat} {S : TypeId} {us : List (List Value)} (h : Box w B S us.flatten) (hu : ∀ u ∈ us,u.length = size) (hn : us.length ≤ maxLen) (hA : B ∉ A) : Own A w ⟨some ⟨B,0,none⟩,us.length,us.length⟩ size S us :=
 ⟨rfl,Nat.le_refl _,hn,hu,.inr ⟨B,us.flatten,rfl,hA,h,flatten_len us hu,by rw [← flatten_len us hu,List.take_length]⟩⟩
theorem allC {w : World} {Q : World → Prop} (hq : Q w) (hQ : ∀ {a b : World},Q a → Ext a b → Q b) (ps : List Pc) (hok : ∀ p ∈ ps,p.Ok) (hsep : Sep ps) (hl : (srcs ps).length ≤ 100000)
  (hn : ∀ p ∈ ps,(∀ x,p ≠ .t x) → ∀ w : World,Q w → Calls Tryz.prog 83 #[.string (Bs p.name)] w (Ret fun v w' => Ext w w' ∧ v = .string (Bs p.name)))
  (hraw : ∀ p ∈ ps,p.kind = 1 → ∀ w : World,Q w → Calls Tryz.prog 30 #[.string (Bs p.name)] w (Ret fun v w' => Ext w w' ∧ v = .int .i64 0))
  (hlow : ∀ w : World,Q w → Calls Tryz.prog 46 #[.string (Bs ([60,47] : Str))] w (Ret fun v w' => Ext w w' ∧ v = .string (Bs ([60,47] : Str)))) :
  Calls Tryz.prog 16 #[.string (Bs (srcs ps))] w (Ret fun v w' => Ext w w' ∧ ∃ l : Sl,v = l.v ∧ Row [] w' l 5 (ps.map tkc ++ [tkc0])) := by
 refine ref11_All.ok _ ?_
 unfold ref11_All.vc
 have hsig : ∀ c ∈ srcs ps,33 ≤ c.toNat ∧ c.toNat ≤ 126 := fun c hc => by
  obtain ⟨l,hl,hc⟩ := List.mem_flatten.1 hc
  obtain ⟨p,hp,rfl⟩ := List.mem_map.1 hl
  exact src_sign (hok p hp) c hc
 have hnum : ∀ l : List Pc,(∀ p ∈ l,p.Ok) → l.length ≤ (srcs l).length := fun l => by
  induction l with
  |nil => intro _; exact Nat.zero_le _
  |cons p l ih =>
   intro h
   have h1 := ih fun q hq => h q (by simp [hq])
   have h2 : 0 < p.src.length := by
    have hp := h p (by simp)
    cases p with
    |s nm => simp [Pc.src]
    |e nm => simp [Pc.src]
    |t x => cases x with
     |nil => exact absurd rfl (hp.word _ rfl)
     |cons a b => simp [Pc.src]
   rw [srcs_cons,List.length_append,List.length_cons]; omega
 refine CallK.exact (cleanC hsig (by omega)) fun w1 hE1 => ⟨_,rfl,?_⟩
 generalize hs : srcs ps = s at hl hsig
 refine ⟨fun l raw a w2 => ∃ (dn td : List Pc) (k : Nat),a = (k : Int) ∧ raw = [] ∧ ps = dn ++ td ∧ Sep td ∧ k ≤ s.length ∧ s.drop k = srcs td ∧ Own (List.range w.heap.size) w2 l 5 51 (dn.map tkc) ∧ Ext w w2,fun _ _ a _ => s.length - a.toNat,⟨[],ps,0,rfl,rfl,rfl,hsep,Nat.zero_le _,hs.symm,Own.nil _ _ _ _,hE1⟩,?_⟩
 rintro l _ _ w2 ⟨dn,td,k,rfl,rfl,hps,hst,hk,hd,hO,hE2⟩
 have hdn : dn.length ≤ 100000 := by
  have := hnum ps hok
  rw [hs,hps,List.length_append] at this; omega
 have hln : l.n = dn.length := by simpa using hO.len
 -- a piece more
 have more : ∀ {w3 w4 : World} {B53 B60 : Nat} {c : List Value} {K : Value → World → Prop},Ext w2 w3 → New w3 B53 w4 → New w3 B60 w4 → Ext w3 w4 → Box w4 B60 51 c → c.length = 5 → (∀ u ∈ ([c].flatten),u.oneCell' = true) →
   (∀ (l' : Sl) (w5 : World),Own (List.range w.heap.size) w5 l' 5 51 (dn.map tkc ++ [c]) → Ext w w5 → K l'.v w5) →
   RunK Tryz.prog (Builtin.append_ #[22,22] 22 #[Sl.v l,Sl.v (Sl.mk (some ⟨B60,0,none⟩) 1 1)]) w4 [B53] K := fun {w3 w4 B53 B60 c K} hE3 hN53 hN60 hE4 hB hc h1 kk => by
  have hO4 : Own (B53 :: List.range w.heap.size) w4 l 5 51 (dn.map tkc) := ((hO.ext hE3).ext hE4).cons fun hm => by
   have := ((hO.ext hE3).blk _ hm).2
   have := hN53.ge
   omega
  have hEw : Ext w w4 := (hE2.trans hE3).trans hE4
  refine App.runK Tryz.underlying22 ti_51 rfl (by decide) (.inl hO4) (fun b hb => ?_) (Own.many (us := [c]) (by simpa using hB) (by simpa using hc) (by simp [maxLen]) (by simp)).row h1 (by simp) (by simp [maxLen]; omega) (by simp; omega) (by simp) fun l' w5 hO5 hC5 _ => ?_
  ·rcases List.mem_cons.1 hb with rfl | hb
   ·exact hN53.lt
   ·have := List.mem_range.1 hb; have := hEw.size; omega
  ·refine kk l' w5 (hO5.less fun b hb => List.mem_cons_of_mem _ hb) (Chg.fresh hEw hC5 fun x hx => ?_)
   have := (hO.blk x (Sl.own_blk hx)).1
   rcases Nat.lt_or_ge x w.heap.size with h | h
   ·exact absurd (List.mem_range.2 h) this
   ·exact h
 cases td with
 |nil =>
  have hkl : k = s.length := by
   have := drop_len hd hk
   simpa [srcs] using this
  subst hkl
  refine CallK.exact nextEnd fun w3 hE3 => ⟨_,_,_,_,_,_,_,rfl,fun h => (by cases h),fun _ w4 B53 B60 hN53 hN60 _ hE4 hB => ?_⟩
  refine more hE3 hN53 hN60 hE4 hB rfl tkc0_one fun l' w5 hO5 hE5 => ⟨l',rfl,fun _ => ⟨hE5,l',rfl,?_⟩,fun h => absurd rfl h⟩
  rw [hps,List.append_nil]
  exact hO5.row.less (by simp)
 |cons p td =>
  have hp : p.Ok := hok p (by rw [hps]; simp)
  have hpm : p ∈ ps := by rw [hps]; simp
  rw [srcs_cons] at hd
  have hlen := drop_len hd hk
  rw [List.length_append] at hlen
  refine CallK.exact (nextC (hQ hq hE2) hQ hd hk hp (sep_next hst fun q hq => hok q (by rw [hps]; simp [hq])) (by omega) (hn p hpm) hlow) fun w3 hE3 => ⟨_,_,_,_,_,_,_,rfl,fun h => (by cases h),fun _ w4 B53 B60 hN53 hN60 _ hE4 hB => ?_⟩
  refine more hE3 hN53 hN60 hE4 hB rfl (tkc_one p) fun l' w5 hO5 hE5 => ⟨l',rfl,fun h => ?_,fun _ => ⟨0,fun h => hraw p hpm h w5 (hQ hq hE5),fun w6 hE6 => ?_⟩⟩
  ·cases p <;> simp [Pc.kind] at h
  ·have hr : (bif ((decide (p.kind = 1)) && (decide ((0 : Int) < 0))) then p.name else (bif ((decide (p.kind = 1)) || ((decide (p.kind = 2)) && (decide (p.name = ([] : Str))))) then ([] : Str) else ([] : Str))) = ([] : Str) := by
    cases decide (p.kind = 1) <;> cases decide (p.kind = 2) <;> cases decide (p.name = ([] : Str)) <;> rfl
   have hpos : 0 < p.src.length := by
    have := hnum [p] (by simpa using hp)
    simp [srcs] at this; omega
   rw [hr]
   refine ⟨⟨dn ++ [p],td,k + p.src.length,rfl,rfl,by rw [hps]; simp,hst.2,by omega,(drop_app hd).1,by rw [List.map_append]; exact hO5.ext hE6,hE5.trans hE6⟩,?_⟩
   dsimp only; omega
end
section
open Go.RowKit
namespace Ev
noncomputable section
def retV (r : Option (AV × AH)) : Option AV := match r with
 |some (v,_) => some v
 |none => none
section
variable [Ev.Tx]
theorem closedV {f : FuncId} {vs : List AV} {args : List Value} {v : AV} (h : retV (runT ftb f vs H00) = some v) (hvs : All2 (AV.v fun _ => none) vs args) {w : World} (hw : WP w) : Calls Tryz.prog f args.toArray w (Ret fun u w' => Ext w w' ∧ ∃ E,v.v E u) := by
 unfold retV at h
 split at h
 ·rename_i v' H hr
  injection h with h; subst h
  obtain ⟨_,hb⟩ := runT_ok ftb_ok hr
  refine (hb (fun g hg => absurd hg (Nat.not_lt_zero g)) (HR.start hw) hvs).2.mono fun e w' hx => ?_
  cases e with
  |returned u =>
   obtain ⟨E',_,_,h3,h4⟩ := hx
   exact ⟨h3.ch.ext,E',h4⟩
  |_ => exact hx.elim
 ·cases h
end
theorem nat_str (x : Str) : (x.map UInt8.toNat).map UInt8.ofNat = x ∧ ∀ n ∈ x.map UInt8.toNat,n < 256 := by
 constructor
 ·rw [List.map_map]
  conv => rhs; rw [← List.map_id x]
  exact List.map_congr_left fun b _ => by simp
 ·intro n hn
  obtain ⟨b,_,rfl⟩ := List.mem_map.1 hn
  exact b.toNat_lt
def ns (x : Str) : List Nat := x.map UInt8.toNat
section
variable [Ev.Tx]
theorem sv_str (E : En) (x : Str) : (AC.s (ns x)).v E (.string (Bs x)) := by
 obtain ⟨h1,h2⟩ := nat_str x
 exact ⟨by unfold ns; rw [h1],h2⟩
theorem closed_str {f : FuncId} {x y : Str} (h : retV (runT ftb f [.c (.s (ns x))] H00) = some (.c (.s (ns y)))) {w : World} (hw : WP w) : Calls Tryz.prog f #[.string (Bs x)] w (Ret fun u w' => Ext w w' ∧ u = .string (Bs y)) :=
 (closedV h (.cons (sv_str (fun _ => none) x) .nil) hw).mono fun e w' hx => by
  cases e with
  |returned u =>
   obtain ⟨hE,E,hu,_⟩ := hx
   exact ⟨hE,by rw [hu]; unfold ns; rw [(nat_str y).1]⟩
  |_ => exact hx.elim
theorem closed_int {f : FuncId} {x : Str} {n : Int} (h : retV (runT ftb f [.c (.s (ns x))] H00) = some (.c (.i .i64 n))) {w : World} (hw : WP w) : Calls Tryz.prog f #[.string (Bs x)] w (Ret fun u w' => Ext w w' ∧ u = .int .i64 n) :=
 (closedV h (.cons (sv_str (fun _ => none) x) .nil) hw).mono fun e w' hx => by
  cases e with
  |returned u =>
   obtain ⟨hE,E,hu⟩ := hx
   exact ⟨hE,hu⟩
  |_ => exact hx.elim
def tkA (p : Pc) : List AC := [.i .i64 p.kind,.s (ns p.name),.s (ns p.text),.sl none 0 0 0,.b false]
def tkA0 : List AC := [.i .i64 6,.s [],.s [],.sl none 0 0 0,.b false]
theorem tkA_v (E : En) (p : Pc) : (AV.a (tkA p)).v E (.agg #[.int .i64 p.kind,.string (Bs p.name),.string (Bs p.text),Sl.v Sl.nil,.bool false]) :=
 ⟨tkc p,rfl,.cons rfl (.cons (sv_str E p.name) (.cons (sv_str E p.text) (.cons ⟨rfl,rfl,rfl⟩ (.cons rfl .nil))))⟩
theorem tkA0_v (E : En) : (AV.a tkA0).v E (.agg #[.int .i64 6,.string (Bs ([] : Str)),.string (Bs ([] : Str)),Sl.v Sl.nil,.bool false]) :=
 ⟨tkc0,rfl,.cons rfl (.cons (sv_str E []) (.cons (sv_str E []) (.cons ⟨rfl,rfl,rfl⟩ (.cons rfl .nil))))⟩
def madeOk (S : AH) : Bool := match S.at 0 with
 |some (_,_ :: _ :: .i .i64 (.ofNat m) :: _,_) => Nat.ble m 300
 |_ => false
theorem made_cell {S : AH} {F : List Nat} {b : Nat} {w : World} (h : BSt S F b w) (hm : madeOk S = true) : ∃ x : Int,w.cell? ((⟨b,0,none⟩ : Addr).add 2) = some (.int .i64 x) ∧ ¬ (300 < x) := by
 unfold madeOk at hm
 split at hm
 ·rename_i T x y m r l hat
  obtain ⟨E,h⟩ := h
  obtain ⟨v,h1,rfl⟩ := h.cell hat (j := 2) rfl
  refine ⟨_,by rw [Addr.add_lit]; exact h1,?_⟩
  rw [Nat.ble_eq] at hm
  intro h
  have : ((m : Nat) : Int) ≤ 300 := by omega
  exact absurd h (by simpa using this)
 ·cases hm
structure PStep (S : AH) (p : Pc) (S' : AH) : Prop where
 made : madeOk S = true
 cnt : retV (runT ftb 20 [.a (tkA p)] H00) = some (.c (.b true))
 step : stepM (runT ftb) 21 [.a (tkA p)] S = some S'
def TkV (l : List AC) (p : Pc) : Prop := ∀ E,(AV.a l).v E (.agg #[.int .i64 p.kind,.string (Bs p.name),.string (Bs p.text),Sl.v Sl.nil,.bool false])
structure LStep (S : AH) (l : List AC) (S' : AH) : Prop where
 made : madeOk S = true
 cnt : retV (runT ftb 20 [.a l] H00) = some (.c (.b true))
 step : stepM (runT ftb) 21 [.a l] S = some S'
inductive Path : AH → List Pc → AH → Prop
 |nil (S : AH) : Path S [] S
 |consL {S S' S2 : AH} {l : List AC} {p : Pc} {ps : List Pc} (hv : TkV l p) (h : LStep S l S') (t : Path S' ps S2) : Path S (p :: ps) S2
theorem Path.cons {S S' S2 : AH} {p : Pc} {ps : List Pc} (h : PStep S p S') (t : Path S' ps S2) : Path S (p :: ps) S2 := .consL (fun E => tkA_v E p) ⟨h.made,h.cnt,h.step⟩ t
theorem Path.app {S S' S2 : AH} {ps qs : List Pc} (h : Path S ps S') (k : Path S' qs S2) : Path S (ps ++ qs) S2 := by
 induction h with
 |nil => exact k
 |consL hv h _ ih => exact .consL hv h (ih k)
def finT (S : AH) : Option T := match S.at 0 with
 |some (_,.p (some (r,0)) :: _,_) => (match runT ftb 22 [.c (.p (some (r,0)))] S with
  |some (v,H) => (match gcV v H with
   |some (v1,S1) => treeT S1 v1
   |none => none)
  |none => none)
 |_ => none
def initS : AH := mkH [.cells 60 [.p (some (1,0)),.p none,.i .i64 1,.sl none 0 0 0,.p (some (2,0)),.i .i64 0,.b false,.b false] .own,
 .cells 56 [.i .i64 0,.i .i64 1,.s [],.s [],.sl none 0 0 0,.p none,.sl none 0 0 0] .own,.cells 73 [.sl none 0 0 0] .own]
end
theorem newC {w : World} : Calls Tryz.prog 19 #[] w (Ret fun v w' => Ext w w' ∧ ∃ B,v = .pointer (some ⟨B,0,none⟩) ∧ w.heap.size ≤ B ∧ Box w' B 73 [Sl.v Sl.nil]) := by
 refine format_New.ok ?_
 unfold format_New.vc
 intro w3 B hN hE hB
 exact ⟨hE,B,rfl,hN.ge,hB⟩
section
variable [Ev.Tx]
theorem buildC {w : World} (hw : WP w) {ps : List Pc} {l : Sl} (hl : Row [] w l 5 (ps.map tkc ++ [tkc0])) {S S2 : AH} {t : T} (hp : Path initS ps S) (h0 : stepM (runT ftb) 21 [.a tkA0] S = some S2) (hm2 : madeOk S2 = true) (ht : finT S2 = some t) (hck : t.check = true) (hbk : t.bulk ≤ 1099511627776) :
  Calls Tryz.prog 11 #[l.v] w (Ret fun v w' => Ext w w' ∧ ∃ sk : Sl,v = .tuple #[tv t Sl.nil sk,.int .i64 0] ∧ RdQ w' t Sl.nil sk) := by
 have hrun : RunOk Tryz.prog 0 (runT ftb) := runT_ok ftb_ok
 have hln : l.n = ps.length + 1 := by simpa using hl.len
 have hmost : l.n ≤ maxLen := Nat.le_trans hl.cap hl.most
 simp only [maxLen] at hmost
 have htab := table_lt hw
 refine build_Build.ok _ ?_
 unfold build_Build.vc
 intro w6 B2 B5 hN2 hN5 hne hE6
 refine CallK.ext newC ?_
 rintro _ w8 hE8 ⟨BL,rfl,hBL,hboxL⟩
 refine ⟨_,rfl,fun w10 B9 hN9 hE10 => ?_⟩
 have hE : Ext w w10 := (hE6.trans hE8).trans hE10
 have h2 := hN2.ge
 have h2' := hN2.lt
 have h5 := hN5.ge
 have h5' := hN5.lt
 have h9 := hN9.ge
 have hLlt := hboxL.lt
 have s6 := hE6.size
 have s8 := hE8.size
 have s10 := hE10.size
 refine ⟨fun w' => ∃ F,BSt S F B9 w' ∧ (∀ x ∈ F,w.heap.size ≤ x ∧ x ≠ B2) ∧ B2 < w'.heap.size ∧ Ext w w',fun hb5 hb9 => ?_,?_⟩
 ·refine ⟨fun x w' => ∃ (dn td : List Pc) (S' : AH) (F : List Nat),x = (dn.length : Int) ∧ ps = dn ++ td ∧ Path S' td S ∧ BSt S' F B9 w' ∧ (∀ x ∈ F,w.heap.size ≤ x ∧ x ≠ B2) ∧ B2 < w'.heap.size ∧ Ext w w',fun x _ => l.n - x.toNat,⟨[],ps,initS,[B9,B5,BL],rfl,rfl,hp,?_,?_,by omega,hE⟩,?_⟩
  ·have hwp : WP w10 := WP.ext hw hE
   have hq : HR (bkE [⟨B9,60,[.p (some (1,0)),.p none,.i .i64 1,.sl none 0 0 0,.p (some (2,0)),.i .i64 0,.b false,.b false],[.pointer (some (⟨B5,0,none⟩ : Addr)),.pointer none,.int .i64 1,Sl.v Sl.nil,.pointer (some ⟨BL,0,none⟩),.int .i64 0,.bool false,.bool false]⟩,
     ⟨B5,56,[.i .i64 0,.i .i64 1,.s [],.s [],.sl none 0 0 0,.p none,.sl none 0 0 0],[.int .i64 0,.int .i64 1,.string (Bs ([] : Str)),.string (Bs ([] : Str)),Sl.v Sl.nil,.pointer none,Sl.v Sl.nil]⟩,
     ⟨BL,73,[.sl none 0 0 0],[Sl.v Sl.nil]⟩]) initS (F0 w10 [B9,B5,BL]) w10 := by
    refine bkH_ok hwp ?_ ?_ ?_ ?_
    ·simp only [List.mem_cons,List.not_mem_nil,or_false,not_or]; omega
    ·simp
    ·intro i j x y hij hx hy
     rcases i with _ | _ | _ | i <;> rcases j with _ | _ | _ | j <;> simp at hx hy hij ⊢ <;> subst hx <;> subst hy <;> simp only <;> omega
    ·intro x hx
     have z : ∀ E : En,(AC.sl none 0 0 0).v E (Sl.v Sl.nil) := fun E => ⟨rfl,rfl,rfl⟩
     simp only [List.mem_cons,List.not_mem_nil,or_false] at hx
     rcases hx with rfl | rfl | rfl
     ·exact ⟨hb9,Pre.all2 (.cons ⟨B5,7,rfl,rfl⟩ (.cons rfl (.cons rfl (.cons (z _) (.cons ⟨BL,1,rfl,rfl⟩ (.cons rfl (.cons rfl (.cons rfl .nil))))))))⟩
     ·exact ⟨hb5,Pre.all2 (.cons rfl (.cons rfl (.cons (sv_str _ []) (.cons (sv_str _ []) (.cons (z _) (.cons rfl (.cons (z _) .nil)))))))⟩
     ·exact ⟨hboxL.ext hE10,Pre.all2 (.cons (z _) .nil)⟩
   refine ⟨_,⟨8,rfl⟩,fun n p hn => ?_,hq,fun x hx => ?_⟩
   ·rcases n with _ | _ | _ | n <;> simp [bkE] at hn <;> subst hn <;> simp
   ·simp only [List.mem_cons,List.not_mem_nil,or_false] at hx
    rcases hx with rfl | rfl | rfl
    ·exact hN9.lt
    ·have := hE10.size; omega
    ·have := hE10.size; omega
  ·intro x hx
   simp only [List.mem_cons,List.not_mem_nil,or_false] at hx
   rcases hx with rfl | rfl | rfl
   ·exact ⟨by omega,by omega⟩
   ·exact ⟨by omega,fun e => hne e.symm⟩
   ·exact ⟨by omega,by omega⟩
  ·rintro _ w98 ⟨dn,td,S',F,rfl,hps,hpt,hS,hF,hB2,hE98⟩
   have hdn : dn.length ≤ ps.length := by rw [hps]; simp
   refine ⟨fun hlt => ⟨⟨by omega,hlt⟩,?_⟩,fun hge => by omega⟩
   rw [Int.toNat_natCast]
   obtain ⟨p,hpa,_,hc,_⟩ := (hl.ext hE98).at_ dn.length (by simp; omega)
   refine ⟨p,hpa,?_⟩
   cases td with
   |nil =>
    have e : (ps.map tkc ++ [tkc0]).getD dn.length [] = tkc0 := by
     rw [hps,List.append_nil,List.getD_eq_getElem?_getD,List.getElem?_append_right (by simp)]; simp
    rw [e] at hc
    cases hpt
    refine ⟨_,_,_,_,_,hc,fun w122 B120 hN hE122 => ⟨0,fun h => absurd rfl h,fun _ => ⟨F,hS.ext hE122,hF,Nat.lt_of_lt_of_le hB2 hE122.size,hE98.trans hE122⟩,fun h => absurd rfl h.1⟩⟩
   |cons q td =>
    have e : (ps.map tkc ++ [tkc0]).getD dn.length [] = tkc q := by
     rw [hps,List.getD_eq_getElem?_getD,List.getElem?_append_left (by simp)]; simp
    rw [e] at hc
    cases hpt with
    |@consL _ S1 _ ql _ _ htv hst hrest =>
    refine ⟨_,_,_,_,_,hc,fun w122 B120 hN hE122 => ?_⟩
    have hS1 := hS.ext hE122
    obtain ⟨x,hx1,hx2⟩ := made_cell hS1 hst.made
    have hk6 : ¬ q.kind = 6 := by cases q <;> simp [Pc.kind]
    refine ⟨x,fun _ => hx1,fun h => ?_,fun _ => ?_⟩
    ·rcases h with h | h
     ·exact absurd h hk6
     ·exact absurd h hx2
    have hwp : WP w122 := WP.ext hw (hE98.trans hE122)
    refine CallK.ext (closedV hst.cnt (.cons (htv _) .nil) hwp) ?_
    rintro _ w128 hE128 ⟨E0,rfl⟩
    refine ⟨true,rfl,fun _ => ?_,fun h => by cases h⟩
    have hS2 := hS1.ext hE128
    have hlt98 : ∀ x ∈ F,x < w98.heap.size := by obtain ⟨E,h⟩ := hS; exact h.lt
    refine CallK.chg (hS2.step hrun (fun E => .cons (htv E) .nil) hst.step) (fun b hb => ?_) ?_
    ·simp only [List.mem_cons,List.not_mem_nil,or_false] at hb
     rcases hb with rfl | rfl
     ·exact fun hm => (hF _ hm).2 rfl
     ·exact fun hm => by have := hlt98 _ hm; have := hN.ge; omega
    ·rintro _ w130 hC ⟨⟨F',hS',hF'⟩,rfl⟩
     have hEw : Ext w w128 := (hE98.trans hE122).trans hE128
     have hEw' : Ext w w130 := Chg.fresh hEw hC fun x hx => (hF x hx).1
     refine ⟨rfl,⟨by omega,by omega⟩,⟨dn ++ [q],td,S1,F',by simp,by rw [hps]; simp,hrest,hS',fun x hx => ?_,?_,hEw'⟩,by dsimp only; omega⟩
     ·rcases hF' x hx with h | h
      ·exact hF x h
      ·have := hE122.size; have := hE128.size; have := hEw.size
       exact ⟨by omega,by omega⟩
     ·have := hE122.size; have := hE128.size; have := hC.size; omega
 ·rintro w73 ⟨F,hS,hF,hB2,hE73⟩
  refine CallK.chg (hS.step hrun (fun E => .cons (tkA0_v E) .nil) h0) (fun b hb => ?_) ?_
  ·simp only [List.mem_cons,List.not_mem_nil,or_false] at hb
   subst hb
   exact fun hm => (hF _ hm).2 rfl
  ·rintro _ w135 hC ⟨⟨F2,hS2,hF2⟩,rfl⟩
   have hE135 : Ext w w135 := Chg.fresh hE73 hC fun x hx => (hF x hx).1
   have hB2' : B2 < w135.heap.size := Nat.lt_of_lt_of_le hB2 hC.size
   have hF2' : ∀ x ∈ F2,w.heap.size ≤ x ∧ x ≠ B2 := fun x hx => by
    rcases hF2 x hx with h | h
    ·exact hF x h
    ·have := hE73.size; exact ⟨by omega,by omega⟩
   obtain ⟨x,hx1,hx2⟩ := made_cell hS2 hm2
   refine ⟨rfl,x,hx1,fun h => absurd h hx2,fun _ => ?_⟩
   obtain ⟨E,hB⟩ := hS2
   unfold finT at ht
   split at ht
   ·rename_i T0 r rest lk hat
    split at ht
    ·rename_i v H hr
     split at ht
     ·rename_i v1 S1 hg
      obtain ⟨hg1,hv1⟩ := gcV_ok hg
      obtain ⟨u0,hu1,hu2⟩ := hB.cell hat (j := 0) rfl
      obtain ⟨Br,nr,hEr,rfl⟩ := hu2
      refine ⟨_,by rw [Addr.add_lit]; exact hu1,?_⟩
      refine CallK.chg (F := F2) (Ret.mono (hB.call hrun (.cons (show AV.v E (.c (.p (some (r,0)))) (.pointer (some ⟨Br,0,none⟩)) from ⟨Br,nr,hEr,rfl⟩) .nil) hr hg1) fun u w' h => h) (fun b hb => ?_) ?_
      ·simp only [List.mem_cons,List.not_mem_nil,or_false] at hb
       subst hb
       exact fun hm => (hF2' _ hm).2 rfl
      ·rintro u w143 hC143 ⟨F3,E3,E3',hB3,hF3,_,hu,hren⟩
       have hu1' := hren _ _ _ hv1 hu
       obtain ⟨sk,rfl,hq⟩ := treeT_ok hB3.hr ht hu1'
       have hE143 : Ext w w143 := Chg.fresh hE135 hC143 fun x hx => (hF2' x hx).1
       have hF3' : ∀ x ∈ F3,w.heap.size ≤ x ∧ x ≠ B2 := fun x hx => by
        rcases hF3 x hx with h | h
        ·exact hF2' x h
        ·have := hE135.size; exact ⟨by omega,by omega⟩
       refine ⟨_,_,_,_,_,rfl,fun w146 B144 hN144 hE146 => ?_⟩
       refine CallK.exact (treeCheckQ t hbk (hq.ext hE146)) fun w149 hE149 => ?_
       rw [hck]
       refine ⟨true,rfl,fun h => (by cases h),fun _ w153 hC153 => ⟨Chg.fresh ((hE143.trans hE146).trans hE149) hC153 (by simpa using h2),?_⟩⟩
       have hB6 := ((hB3.ext hE146).ext hE149).chg hC153 (fun x hx => by simpa using (hF3' x hx).2) (by simp; omega)
       obtain ⟨sk',e,hq⟩ := treeT_ok hB6.hr ht hu1'
       refine ⟨sk',?_,hq⟩
       rw [← e]; rfl
     ·cases ht
    ·cases ht
   ·cases ht
end
end
end Ev
end
section
open Go.RowKit
def KQ (w : World) (ks : List T) (s : Sl) : Prop := s.n = ks.length ∧ ∀ i,i < ks.length → ∃ p sa sk,s.a = some p ∧ Cells w (p.add (i * 5)) (tc (ks.getD i T.nul) (sa,sk)) ∧ RdQ w (ks.getD i T.nul) sa sk
theorem KQ.ext {w w' : World} {ks : List T} {s : Sl} (h : KQ w ks s) (c : Ext w w') : KQ w' ks s := ⟨h.1,fun i hi => by
 obtain ⟨p,sa,sk,h1,h2,h3⟩ := h.2 i hi
 exact ⟨p,sa,sk,h1,h2.chgE c,h3.ext c⟩⟩
theorem srcs_app (ps qs : List Pc) : srcs (ps ++ qs) = srcs ps ++ srcs qs := by simp [srcs]
namespace Ev
noncomputable section
structure PcG (p : Pc) : Prop where
 ok : p.Ok
 nm : (∀ x,p ≠ .t x) → retV (runT ftb 83 [.c (.s (ns p.name))] H00) = some (.c (.s (ns p.name)))
 raw : p.kind = 1 → retV (runT ftb 30 [.c (.s (ns p.name))] H00) = some (.c (.i .i64 0))
structure Srcs (ps : List Pc) : Prop where
 g : ∀ p ∈ ps,PcG p
 sep : Sep ps
 len : (srcs ps).length ≤ 100000
theorem low_closed : retV (runT ftb 46 [.c (.s (ns [60,47]))] H00) = some (.c (.s (ns [60,47]))) := by kernel_rfl
section
variable [Tx]
theorem allG {w : World} (hw : WP w) {ps : List Pc} (h : Srcs ps) : Calls Tryz.prog 16 #[.string (Bs (srcs ps))] w (Ret fun v w' => Ext w w' ∧ ∃ l : Sl,v = l.v ∧ Row [] w' l 5 (ps.map tkc ++ [tkc0])) :=
 allC hw (fun h c => WP.ext h c) ps (fun p hp => (h.g p hp).ok) h.sep h.len (fun p hp hx _ hw => closed_str ((h.g p hp).nm hx) hw) (fun p hp hx _ hw => closed_int ((h.g p hp).raw hx) hw) (fun _ hw => closed_str low_closed hw)
structure Runs (ps : List Pc) (t : T) : Prop where
 src : Srcs ps
 ex : ∃ S S2,Path initS ps S ∧ stepM (runT ftb) 21 [.a tkA0] S = some S2 ∧ madeOk S2 = true ∧ finT S2 = some t
 chk : t.check = true
 bulk : t.bulk ≤ 1099511627776
theorem buildS {w : World} (hw : WP w) {ps : List Pc} {t : T} (h : Runs ps t) {l : Sl} (hl : Row [] w l 5 (ps.map tkc ++ [tkc0])) : Calls Tryz.prog 11 #[l.v] w (Ret fun v w' => Ext w w' ∧ ∃ sk : Sl,v = .tuple #[tv t Sl.nil sk,.int .i64 0] ∧ RdQ w' t Sl.nil sk) := by
 obtain ⟨S,S2,h1,h2,h3,h4⟩ := h.ex
 exact buildC hw hl h1 h2 h3 h4 h.chk h.bulk
def elT (nm : Str) (ks : List T) : T := .node 2 nm [] [] ks
def txT (x : Str) : T := .node 3 [] x [] []
def pageT (hd ks : List T) : T := .node 1 [] [] [] [elT [104,116,109,108] [elT [104,101,97,100] hd,elT [98,111,100,121] ks]]
end
end
end Ev
end
section
namespace Ev
set_option autoImplicit false
set_option maxRecDepth 100000
noncomputable section
def ptN (n : Nat) : AC := .p (some (n,0))
def ksN (b n : Nat) : AC := .sl (some (b,0)) n n 1
def nlN : AC := .sl none 0 0 0
def ndE (id : Nat) (nm : List Nat) (par : AC) (kids : AC) : AO := .cells 56 [.i .i64 (.ofNat id),.i .i64 2,.s nm,.s [],nlN,par,kids] .own
def ndX (id : Nat) (x : List Nat) (par : AC) : AO := .cells 56 [.i .i64 (.ofNat id),.i .i64 3,.s [],.s x,nlN,par,nlN] .own
def rowN (l : List AC) : AO := .cells 53 l .own
def baseN (made : Nat) (op : AC) (li : Nat) : List AO := [.cells 60 [ptN 1,ptN 5,.i .i64 (.ofNat made),op,ptN li,.i .i64 5,.b false,.b false] .own,
 .cells 56 [.i .i64 0,.i .i64 1,.s [],.s [],nlN,.p none,ksN 2 1] .own,rowN [ptN 3],
 ndE 2 [104,116,109,108] (ptN 1) (ksN 4 2),rowN [ptN 5,ptN 6],ndE 3 [104,101,97,100] (ptN 3) nlN]
def AllL {α : Type} (p : α → Prop) (l : List α) : Prop := List.rec True (fun x _ ih => p x ∧ ih) l
theorem AllL.mem {α : Type} {p : α → Prop} : ∀ {l : List α},AllL p l → ∀ x ∈ l,p x
 |[],_,x,hx => by cases hx
 |y :: l,h,x,hx => by
  rcases List.mem_cons.1 hx with rfl | hx
  ·exact h.1
  ·exact AllL.mem h.2 x hx
def S0 : AH := mkH (baseN 4 (ksN 7 2) 8 ++ [ndE 4 [98,111,100,121] (ptN 3) nlN,rowN [ptN 3,ptN 6],.cells 73 [nlN] .own])
def itN (l : List (List Nat × List Nat)) : Nat → Nat → List AO := List.rec (fun _ _ => []) (fun p _ ih id k => ndE id p.1 (ptN 6) (ksN (Nat.succ k) 1) :: rowN [ptN (Nat.add k 2)] :: ndX (Nat.succ id) p.2 (ptN k) :: ih (Nat.add id 2) (Nat.add k 3)) l
def pt3 (n : Nat) : Nat → List AC := Nat.rec (fun _ => []) (fun _ ih k => ptN k :: ih (Nat.add k 3)) n
def hS (l : List (List Nat × List Nat)) (n o : Nat) : AH := match n with
 |0 => S0
 |Nat.succ m => mkH (baseN (Nat.add 4 (Nat.mul 2 n)) (.sl (some (Nat.add 8 (Nat.mul 3 n),0)) o 3 1) (Nat.add 9 (Nat.mul 3 n)) ++ ndE 4 [98,111,100,121] (ptN 3) (ksN 7 n) :: rowN (pt3 n 8) :: (itN l 5 8 ++ [rowN [ptN 3,ptN 6,ptN (Nat.add 8 (Nat.mul 3 m))],.cells 73 [nlN] .own]))
end
end Ev
end
section
namespace Ev
set_option autoImplicit false
set_option maxRecDepth 100000
noncomputable section
def runP (l : List (List AC)) : AH → Option AH := List.rec (fun S => some S) (fun p _ ih S => cond (madeOk S) (match stepM (runT ftb) 21 [.a p] S with
 |some S' => ih S'
 |none => none) none) l
section
variable [Tx]
def finP (l : List (List AC)) : Option T := match runP l initS with
 |some S => match stepM (runT ftb) 21 [.a tkA0] S with
  |some S2 => cond (madeOk S2) (finT S2) none
  |none => none
 |none => none
theorem runP_ok : ∀ {l : List (List AC)} {ps : List Pc} {S S' : AH},All2 TkV l ps → (∀ x ∈ l,retV (runT ftb 20 [.a x] H00) = some (.c (.b true))) → runP l S = some S' → Path S ps S'
 |[],[],S,S',.nil,_,h => by
  have h : some S = some S' := h
  injection h with h; subst h; exact .nil _
 |x :: l,p :: ps,S,S',.cons hv hvs,hc,h => by
  replace h : cond (madeOk S) (match stepM (runT ftb) 21 [.a x] S with
   |some S' => runP l S'
   |none => none) none = some S' := h
  cases hm : madeOk S with
  |false => rw [hm] at h; cases h
  |true =>
   rw [hm] at h
   replace h : (match stepM (runT ftb) 21 [.a x] S with
    |some S' => runP l S'
    |none => none) = some S' := h
   split at h
   ·rename_i S1 hs
    exact .consL hv ⟨hm,hc x (List.mem_cons_self ..),hs⟩ (runP_ok hvs (fun q hq => hc q (List.mem_cons_of_mem _ hq)) h)
   ·cases h
theorem finP_ok {l : List (List AC)} {ps : List Pc} {t : T} (hv : All2 TkV l ps) (hc : ∀ x ∈ l,retV (runT ftb 20 [.a x] H00) = some (.c (.b true))) (h : finP l = some t) :
  ∃ S S2,Path initS ps S ∧ stepM (runT ftb) 21 [.a tkA0] S = some S2 ∧ madeOk S2 = true ∧ finT S2 = some t := by
 unfold finP at h
 split at h
 ·rename_i S h1
  split at h
  ·rename_i S2 h2
   cases hm : madeOk S2 with
   |false => rw [hm] at h; cases h
   |true => rw [hm] at h; exact ⟨S,S2,runP_ok hv hc h1,h2,hm,h⟩
  ·cases h
 ·cases h
def foT (nm : List Nat) : List AC := [.i .i64 1,.s nm,.s [],.sl none 0 0 0,.b false]
def foE (nm : List Nat) : List AC := [.i .i64 2,.s nm,.s [],.sl none 0 0 0,.b false]
def foX (x : AC) : List AC := [.i .i64 3,.s [],x,.sl none 0 0 0,.b false]
def foO : Nat → List (List Nat)
 |0 => [[116,97,98,108,101]]
 |1 => [[116,97,98,108,101],[116,98,111,100,121]]
 |2 => [[116,97,98,108,101],[116,114]]
 |_ => [[116,97,98,108,101],[116,98,111,100,121],[116,114]]
def foP (k : Nat) : List (List AC) := (foO k).map foT ++ [foX (.tx 0 []),foT [116,100],foX (.s [113]),foE [116,97,98,108,101]]
def foB : T := elT [116,97,98,108,101] [elT [116,98,111,100,121] [elT [116,114] [elT [116,100] [txT [113]]]]]
theorem fo0 : finP (foP 0) = some (pageT [] [txT (Tx.t 0),foB]) := by kernel_rfl
theorem fo1 : finP (foP 1) = some (pageT [] [txT (Tx.t 0),foB]) := by kernel_rfl
theorem fo2 : finP (foP 2) = some (pageT [] [txT (Tx.t 0),foB]) := by kernel_rfl
theorem fo3 : finP (foP 3) = some (pageT [] [txT (Tx.t 0),foB]) := by kernel_rfl
end
end
end Ev
end
section
open Go.RowKit
namespace Ev
theorem elT_size (nm : Str) (ks : List T) : (elT nm ks).size = 1 + (ks.map T.size).sum := T.size_eq _
theorem elT_depth (nm : Str) (ks : List T) : (elT nm ks).depth = 1 + (ks.map T.depth).foldr max 0 := T.depth_eq _
theorem elT_bulk (nm : Str) (ks : List T) : (elT nm ks).bulk = 1 + nm.length + 0 + 0 + (ks.map T.bulk).sum := T.bulk_eq _
theorem txT_size (x : Str) : (txT x).size = 1 := T.size_eq _
theorem txT_depth (x : Str) : (txT x).depth = 1 := T.depth_eq _
theorem txT_bulk (x : Str) : (txT x).bulk = 1 + 0 + x.length + 0 + 0 := T.bulk_eq _
theorem elT_ok {nm : Str} {ks : List T} (hn : nameOk nm = true) (hk : ∀ u ∈ ks,nodeOk u = true ∧ u.kind ≠ 5) : nodeOk (elT nm ks) = true := by
 rw [nodeOk_el rfl]
 have : kidsOk (elT nm ks) = true := by
  unfold kidsOk
  rw [List.all_eq_true]
  intro u hu
  obtain ⟨h1,h2⟩ := hk u hu
  rw [h1,decide_eq_false h2]; rfl
 rw [this]
 show (nameOk nm && true && (true && true) && true) = true
 rw [hn]; rfl
theorem txT_ok {x : Str} (hx : x ≠ []) (hl : x.length ≤ 4096) : nodeOk (txT x) = true := by
 rw [nodeOk_ne (t := txT x) (show (3 : Int) ≠ 2 by decide)]
 have h1 : x.isEmpty = false := by cases x with
  |nil => exact absurd rfl hx
  |cons a b => rfl
 show (true && true && (if (3 : Int) = 3 then true && !x.isEmpty && decide (x.length ≤ 4096) else _)) = true
 rw [if_pos rfl,h1,decide_eq_true hl]; rfl
theorem page_check {ks : List T} (hk : ∀ u ∈ ks,nodeOk u = true ∧ u.kind ≠ 5) (hs : (ks.map T.size).sum ≤ 290) (hd : (ks.map T.depth).foldr max 0 ≤ 50) : (pageT [] ks).check = true := by
 have h1 : nodeOk (elT [104,101,97,100] []) = true := elT_ok (by decide) (by simp)
 have h2 : nodeOk (elT [98,111,100,121] ks) = true := elT_ok (by decide) hk
 have h3 : nodeOk (elT [104,116,109,108] [elT [104,101,97,100] [],elT [98,111,100,121] ks]) = true := elT_ok (by decide) fun u hu => by
  simp only [List.mem_cons,List.not_mem_nil,or_false] at hu
  rcases hu with rfl | rfl
  ·exact ⟨h1,by decide⟩
  ·exact ⟨h2,by show (2 : Int) ≠ 5; decide⟩
 have hsz : (pageT [] ks).size = 4 + (ks.map T.size).sum := by
  rw [T.size_eq]
  show 1 + ([elT _ [elT _ [],elT _ ks]].map T.size).sum = _
  simp only [List.map_cons,List.map_nil,List.sum_cons,List.sum_nil,elT_size]; omega
 have hdp : (pageT [] ks).depth ≤ 3 + (ks.map T.depth).foldr max 0 := by
  rw [T.depth_eq]
  show 1 + ([elT _ [elT _ [],elT _ ks]].map T.depth).foldr max 0 ≤ _
  simp only [List.map_cons,List.map_nil,List.foldr_cons,List.foldr_nil,elT_depth]; omega
 have hkk : kidsOk (pageT [] ks) = true := by
  unfold kidsOk
  show ([elT _ [elT _ [],elT _ ks]].all _) = true
  rw [List.all_cons,h3]
  rfl
 unfold T.check
 rw [hkk,decide_eq_true (show (pageT [] ks).size ≤ 300 by omega),decide_eq_true (show (pageT [] ks).depth ≤ 60 by omega)]
 rfl
theorem page_bulk {ks : List T} (h : (ks.map T.bulk).sum ≤ 1000000) : (pageT [] ks).bulk ≤ 1099511627776 := by
 rw [T.bulk_eq]
 show 1 + 0 + 0 + 0 + ([elT _ [elT _ [],elT _ ks]].map T.bulk).sum ≤ _
 simp only [List.map_cons,List.map_nil,List.sum_cons,List.sum_nil,elT_bulk,List.length_cons,List.length_nil]; omega
end Ev
end
section
namespace Ev
set_option autoImplicit false
open Go.RowKit
noncomputable section
theorem awake_run : good (runT ftb 10 [] H00) = true := by kernel_rfl
section
variable [Tx]
theorem awakeLaw {w : World} (hw : WP w) : Calls Tryz.prog 10 #[] w (Ret fun v w' => Ext w w' ∧ v = .bool true) := closed_true ftb_ok hw .nil awake_run
end
end
end Ev
end
end Go.Proofs.YtenokfdkckhhiaaGreatDoor
