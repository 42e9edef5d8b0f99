/-
  What the proof of the statement leans on: texts one behind the other.
-/
import Derived.Test.YtmmikhhklifjhaaGreatDoorQBuildAdopts4
import Derived.Test.YtmmikhhklifjhaaGreatDoorQBuildAdopts0
import Derived.Test.YtmmikhhklifjhaaGreatDoorRows
import Derived.Test.YtmmikhhklifjhaaGreatDoorQBuildAdopts1
import Derived.MakeChecks
import Derived.Lib.LaidTab
import Derived.LaidSub
import Derived.WalkKit
import Derived.ProofKit
import Derived.OpenShut
import Derived.JoinedCond
import Derived.Below
import Derived.Carry
import Derived.ChangeSlices
import Derived.ChangeMaps5
namespace Go.Proofs.YtmmikhhklifjhaaGreatDoor
section
namespace Ev

set_option autoImplicit false

noncomputable section

def cf122 : CF := ⟨34, .seq (.reg [⟨some 2, none, .mv (.c (.c (.b false))), []⟩]) (.seq (.seq (.reg [⟨some 6, none, .mv (.t 0), []⟩, ⟨some 7, none, .len true (.t 6), []⟩, ⟨some 8, none, .bin .gtr (.t 7) (.c (.c (.i
  .i64 (.ofNat 12)))), []⟩]) (.cond (.t 8) (.seq (.reg [⟨some 2, none, .mv (.c (.c (.b false))), []⟩]) .ret) .skip)) (.seq (.reg [⟨some 3, none, .mv (.c (.c (.s []))), []⟩]) (.seq (.seq (.reg [⟨some 9,
  none, .mv (.t 0), []⟩, ⟨some 10, none, .len true (.t 9), []⟩, ⟨some 11, none, .mv (.c (.c (.i .i64 (.ofNat 0)))), []⟩]) (.blk 0 (.loop [30, 3, 5, 9, 12, 11, 10, 8, 0, 2] (.seq (.reg [⟨some 12, none,
  .bin .lss (.t 11) (.t 10), []⟩]) (.seq (.cond (.t 12) .skip (.exit 0)) (.seq (.blk 1 (.seq (.reg [⟨some 13, none, .ia 2 (.t 9) (.t 11), []⟩, ⟨some 14, none, .ld 2 true (.t 13), []⟩, ⟨some 5, none,
  .new 84 (.c (.a [.s [], .s []])), []⟩, ⟨none, none, .st 2 (.t 5) (.t 14), []⟩]) (.seq (.seq (.reg [⟨some 15, none, .fa 0 (.t 5), []⟩, ⟨some 16, none, .ld 1 false (.t 15), []⟩, ⟨some 17, none, .mv (.t
  3), []⟩, ⟨some 18, none, .bin .leq (.t 16) (.t 17), []⟩, ⟨some 19, none, .mv (.t 18), []⟩, ⟨some 20, some (19, false), .fa 0 (.t 5), []⟩, ⟨some 21, some (19, false), .ld 1 false (.t 20), []⟩, ⟨some
  22, some (19, false), .call 36 [.t 21], []⟩, ⟨some 23, some (19, false), .un .not (.t 22), []⟩, ⟨some 24, none, .pk (.t 19) (.c (.c (.b true))) (.t 23), []⟩, ⟨some 25, none, .mv (.t 24), []⟩, ⟨some
  26, some (25, false), .fa 1 (.t 5), []⟩, ⟨some 27, some (25, false), .ld 1 false (.t 26), []⟩, ⟨some 28, some (25, false), .len false (.t 27), []⟩, ⟨some 29, some (25, false), .bin .gtr (.t 28) (.c
  (.c (.i .i64 (.ofNat 4096)))), []⟩, ⟨some 30, none, .pk (.t 25) (.c (.c (.b true))) (.t 29), []⟩]) (.cond (.t 30) (.seq (.reg [⟨some 2, none, .mv (.c (.c (.b false))), []⟩]) .ret) .skip)) (.reg
  [⟨some 31, none, .fa 0 (.t 5), []⟩, ⟨some 32, none, .ld 1 false (.t 31), []⟩, ⟨some 3, none, .mv (.t 32), []⟩])))) (.reg [⟨some 33, none, .bin .add (.t 11) (.c (.c (.i .i64 (.ofNat 1)))), []⟩, ⟨some
  11, none, .mv (.t 33), []⟩]))))))) (.seq (.reg [⟨some 2, none, .mv (.c (.c (.b true))), []⟩]) .ret)))), [(2, none)]⟩

theorem ok122 : FnR Tryz.prog 0 122 cf122 := fnC_ok Tryz.func122 (by kernel_rfl)

def cf128 : CF := ⟨95, .seq (.reg [⟨some 6, none, .mv (.c (.c (.sl none 0 0 0))), []⟩]) (.seq (.reg [⟨some 10, none, .mv (.t 0), []⟩, ⟨some 11, none, .mv (.t 1), []⟩, ⟨some 12, none, .slc 1 (.t 10) (some (.t 11)) none
  none, []⟩]) (.seq (.reg [⟨some 13, none, .mv (.t 2), []⟩, ⟨some 14, none, .len true (.t 13), []⟩, ⟨some 7, none, .mv (.t 14), []⟩]) (.seq (.seq (.reg [⟨some 15, none, .mv (.t 7), []⟩, ⟨some 16, none,
  .bin .eql (.t 15) (.c (.c (.i .i64 (.ofNat 0)))), []⟩]) (.cond (.t 16) (.seq (.reg [⟨some 17, none, .mv (.t 0), []⟩, ⟨some 6, none, .mv (.t 17), []⟩]) .ret) .skip)) (.seq (.reg [⟨some 18, none, .mv
  (.t 0), []⟩, ⟨some 19, none, .len true (.t 18), []⟩, ⟨some 8, none, .mv (.t 19), []⟩]) (.seq (.seq (.reg [⟨some 20, none, .mv (.t 1), []⟩, ⟨some 21, none, .mv (.t 8), []⟩, ⟨some 22, none, .bin .eql
  (.t 20) (.t 21), []⟩]) (.cond (.t 22) (.seq (.reg [⟨some 23, none, .mv (.t 0), []⟩, ⟨some 24, none, .mv (.t 2), []⟩, ⟨some 25, none, .app 58 1 false (.t 23) (.t 24), []⟩, ⟨some 6, none, .mv (.t 25),
  []⟩]) .ret) .skip)) (.seq (.seq (.reg [⟨some 26, none, .mv (.t 8), []⟩, ⟨some 27, none, .mv (.t 7), []⟩, ⟨some 28, none, .bin .add (.t 26) (.t 27), []⟩, ⟨some 29, none, .mv (.t 0), []⟩, ⟨some 30,
  none, .bad, []⟩, ⟨some 31, none, .bin .gtr (.t 28) (.t 30), []⟩]) (.cond (.t 31) (.seq (.reg [⟨some 32, none, .mv (.t 0), []⟩, ⟨some 33, none, .mv (.t 1), []⟩, ⟨some 34, none, .slc 1 (.t 32) none
  (some (.t 33)) none, []⟩, ⟨some 35, none, .mv (.t 8), []⟩, ⟨some 36, none, .mv (.t 7), []⟩, ⟨some 37, none, .bin .add (.t 35) (.t 36), []⟩, ⟨some 38, none, .mv (.t 1), []⟩, ⟨some 39, none, .bin .sub
  (.t 37) (.t 38), []⟩, ⟨some 40, none, .bad, []⟩, ⟨some 9, none, .mv (.t 40), []⟩]) (.seq (.reg [⟨some 41, none, .mv (.t 9), []⟩, ⟨some 42, none, .mv (.t 1), []⟩, ⟨some 43, none, .slc 1 (.t 41) (some
  (.t 42)) none none, []⟩, ⟨some 44, none, .mv (.t 2), []⟩, ⟨some 45, none, .cp 1 false (.t 43) (.t 44), []⟩]) (.seq (.dreg [⟨some 46, none, .mv (.t 9), []⟩, ⟨some 47, none, .mv (.t 1), []⟩, ⟨some 48,
  none, .mv (.t 7), []⟩, ⟨some 49, none, .bin .add (.t 47) (.t 48), []⟩, ⟨some 50, none, .slc 1 (.t 46) (some (.t 49)) none none, []⟩, ⟨some 51, none, .mv (.t 0), []⟩, ⟨some 52, none, .mv (.t 1), []⟩,
  ⟨some 53, none, .slc 1 (.t 51) (some (.t 52)) none none, []⟩, ⟨some 54, none, .cp 1 false (.t 50) (.t 53), []⟩]) (.seq (.reg [⟨some 55, none, .mv (.t 9), []⟩, ⟨some 6, none, .mv (.t 55), []⟩])
  .ret)))) .skip)) (.seq (.reg [⟨some 56, none, .mv (.t 0), []⟩, ⟨some 57, none, .mv (.t 8), []⟩, ⟨some 58, none, .mv (.t 7), []⟩, ⟨some 59, none, .bin .add (.t 57) (.t 58), []⟩, ⟨some 60, none, .slc 1
  (.t 56) none (some (.t 59)) none, []⟩, ⟨some 0, none, .mv (.t 60), []⟩]) (.seq (.seq (.reg [⟨some 61, none, .mv (.t 2), []⟩, ⟨some 62, none, .mv (.t 0), []⟩, ⟨some 63, none, .mv (.t 1), []⟩, ⟨some
  64, none, .mv (.t 7), []⟩, ⟨some 65, none, .bin .add (.t 63) (.t 64), []⟩, ⟨some 66, none, .slc 1 (.t 62) (some (.t 65)) none none, []⟩, ⟨some 67, none, .call 158 [.t 61, .t 66], []⟩, ⟨some 68, none,
  .un .not (.t 67), []⟩]) (.cond (.t 68) (.seq (.dreg [⟨some 69, none, .mv (.t 0), []⟩, ⟨some 70, none, .mv (.t 1), []⟩, ⟨some 71, none, .mv (.t 7), []⟩, ⟨some 72, none, .bin .add (.t 70) (.t 71), []⟩,
  ⟨some 73, none, .slc 1 (.t 69) (some (.t 72)) none none, []⟩, ⟨some 74, none, .mv (.t 0), []⟩, ⟨some 75, none, .mv (.t 1), []⟩, ⟨some 76, none, .slc 1 (.t 74) (some (.t 75)) none none, []⟩, ⟨some 77,
  none, .cp 1 false (.t 73) (.t 76), []⟩]) (.seq (.reg [⟨some 78, none, .mv (.t 0), []⟩, ⟨some 79, none, .mv (.t 1), []⟩, ⟨some 80, none, .slc 1 (.t 78) (some (.t 79)) none none, []⟩, ⟨some 81, none,
  .mv (.t 2), []⟩, ⟨some 82, none, .cp 1 false (.t 80) (.t 81), []⟩]) (.seq (.reg [⟨some 83, none, .mv (.t 0), []⟩, ⟨some 6, none, .mv (.t 83), []⟩]) .ret))) .skip)) (.seq (.reg [⟨some 84, none, .mv
  (.t 0), []⟩, ⟨some 85, none, .mv (.t 8), []⟩, ⟨some 86, none, .slc 1 (.t 84) (some (.t 85)) none none, []⟩, ⟨some 87, none, .mv (.t 2), []⟩, ⟨some 88, none, .cp 1 false (.t 86) (.t 87), []⟩]) (.seq
  (.reg [⟨some 89, none, .mv (.t 0), []⟩, ⟨some 90, none, .mv (.t 1), []⟩, ⟨some 91, none, .slc 1 (.t 89) (some (.t 90)) none none, []⟩, ⟨some 92, none, .mv (.t 7), []⟩, ⟨some 93, none, .call 159 [.t
  91, .t 92], []⟩]) (.seq (.reg [⟨some 94, none, .mv (.t 0), []⟩, ⟨some 6, none, .mv (.t 94), []⟩]) .ret))))))))))), [(6, none)]⟩

theorem ok128 : FnR Tryz.prog 0 128 cf128 := fnC_ok Tryz.func128 (by kernel_rfl)

def cf130 : CF := ⟨15, .seq (.reg [⟨some 7, none, .mv (.t 0), []⟩, ⟨some 8, none, .call 95 [.t 7], []⟩, ⟨some 6, none, .mv (.t 8), []⟩, ⟨some 9, none, .ext 0 (.t 6), []⟩, ⟨some 10, none, .ext 1 (.t 6), []⟩, ⟨some 4,
  none, .mv (.t 9), []⟩, ⟨some 5, none, .mv (.t 10), []⟩]) (.reg [⟨some 11, none, .mv (.t 4), []⟩, ⟨some 12, none, .mv (.t 1), []⟩, ⟨some 13, none, .mv (.t 5), []⟩, ⟨some 14, none, .call 96 [.t 11, .t
  12, .t 13], []⟩]), []⟩

theorem ok130 : FnR Tryz.prog 0 130 cf130 := fnC_ok Tryz.func130 (by kernel_rfl)

def cf131 : CF := ⟨31, .seq (.reg [⟨some 4, none, .mv (.c (.c (.i .i64 (.ofNat 0)))), []⟩]) (.seq (.seq (.reg [⟨some 5, none, .mv (.c (.c (.i .i64 (.ofNat 1)))), []⟩]) (.blk 0 (.loop [28, 7, 14, 17, 16, 15, 11, 5, 0,
  1, 4] (.seq (.seq (.reg [⟨some 8, none, .mv (.t 5), []⟩, ⟨some 9, none, .mv (.t 0), []⟩, ⟨some 10, none, .len true (.t 9), []⟩, ⟨some 11, none, .bin .leq (.t 8) (.t 10), []⟩]) (.cond (.t 11) .skip
  (.exit 0))) (.seq (.blk 1 (.seq (.reg [⟨some 14, none, .mv (.t 1), []⟩, ⟨some 15, none, .len true (.t 14), []⟩, ⟨some 16, none, .mv (.c (.c (.i .i64 (.ofNat 0)))), []⟩]) (.blk 2 (.loop [28, 7, 14,
  17, 16, 15, 11, 5, 0, 1, 4] (.seq (.reg [⟨some 17, none, .bin .lss (.t 16) (.t 15), []⟩]) (.seq (.cond (.t 17) .skip (.exit 2)) (.seq (.blk 3 (.seq (.reg [⟨some 18, none, .ia 1 (.t 14) (.t 16), []⟩,
  ⟨some 19, none, .ld 1 false (.t 18), []⟩, ⟨some 7, none, .mv (.t 19), []⟩]) (.seq (.reg [⟨some 20, none, .mv (.t 0), []⟩, ⟨some 21, none, .mv (.t 0), []⟩, ⟨some 22, none, .len true (.t 21), []⟩,
  ⟨some 23, none, .mv (.t 5), []⟩, ⟨some 24, none, .bin .sub (.t 22) (.t 23), []⟩, ⟨some 25, none, .ia 1 (.t 20) (.t 24), []⟩, ⟨some 26, none, .ld 1 false (.t 25), []⟩, ⟨some 27, none, .mv (.t 7), []⟩,
  ⟨some 28, none, .bin .eql (.t 26) (.t 27), []⟩]) (.cond (.t 28) (.seq (.reg [⟨some 29, none, .mv (.t 5), []⟩, ⟨some 4, none, .mv (.t 29), []⟩]) .ret) .skip)))) (.reg [⟨some 30, none, .bin .add (.t
  16) (.c (.c (.i .i64 (.ofNat 1)))), []⟩, ⟨some 16, none, .mv (.t 30), []⟩])))))))) (.reg [⟨some 12, none, .mv (.t 5), []⟩, ⟨some 13, none, .bin .add (.t 12) (.c (.c (.i .i64 (.ofNat 1)))), []⟩, ⟨some
  5, none, .mv (.t 13), []⟩])))))) (.seq (.reg [⟨some 4, none, .mv (.c (.c (.i .i64 (.ofNat 0)))), []⟩]) .ret)), [(4, none)]⟩

theorem ok131 : FnR Tryz.prog 0 131 cf131 := fnC_ok Tryz.func131 (by kernel_rfl)

def cf132 : CF := ⟨24, .seq (.reg [⟨some 2, none, .mv (.c (.c (.sl none 0 0 0))), []⟩]) (.seq (.reg [⟨some 3, none, .mv (.c (.c (.sl none 0 0 0))), []⟩]) (.seq (.seq (.reg [⟨some 6, none, .mv (.t 0), []⟩, ⟨some 7,
  none, .nc (.t 6), []⟩, ⟨some 8, none, .fa 3 (.t 7), []⟩, ⟨some 9, none, .ld 1 false (.t 8), []⟩, ⟨some 10, none, .len true (.t 9), []⟩, ⟨some 11, none, .mv (.c (.c (.i .i64 (.ofNat 0)))), []⟩]) (.blk
  0 (.loop [5, 3, 9, 12, 11, 10, 0, 2] (.seq (.reg [⟨some 12, none, .bin .lss (.t 11) (.t 10), []⟩]) (.seq (.cond (.t 12) .skip (.exit 0)) (.seq (.blk 1 (.seq (.reg [⟨some 13, none, .ia 1 (.t 9) (.t
  11), []⟩, ⟨some 14, none, .ld 1 false (.t 13), []⟩, ⟨some 5, none, .mv (.t 14), []⟩]) (.reg [⟨some 15, none, .mv (.t 3), []⟩, ⟨some 16, none, .mv (.t 5), []⟩, ⟨some 17, none, .nc (.t 16), []⟩, ⟨some
  18, none, .fa 2 (.t 17), []⟩, ⟨some 19, none, .ld 1 false (.t 18), []⟩, ⟨some 20, none, .bsl 9 1 1 [.s []] [(0, (1, .t 19))], []⟩, ⟨some 21, none, .app 9 1 false (.t 15) (.t 20), []⟩, ⟨some 3, none,
  .mv (.t 21), []⟩]))) (.reg [⟨some 22, none, .bin .add (.t 11) (.c (.c (.i .i64 (.ofNat 1)))), []⟩, ⟨some 11, none, .mv (.t 22), []⟩]))))))) (.seq (.reg [⟨some 23, none, .mv (.t 3), []⟩, ⟨some 2,
  none, .mv (.t 23), []⟩]) .ret))), [(2, none)]⟩

theorem ok132 : FnR Tryz.prog 0 132 cf132 := fnC_ok Tryz.func132 (by kernel_rfl)

def cf133 : CF := ⟨18, .seq (.reg [⟨some 4, none, .mv (.c (.c (.b false))), []⟩]) (.seq (.seq (.reg [⟨some 7, none, .mv (.t 0), []⟩, ⟨some 8, none, .call 160 [.t 7], []⟩, ⟨some 9, none, .len true (.t 8), []⟩, ⟨some
  10, none, .mv (.c (.c (.i .i64 (.ofNat 0)))), []⟩]) (.blk 0 (.loop [16, 6, 8, 11, 10, 9, 0, 1, 4] (.seq (.reg [⟨some 11, none, .bin .lss (.t 10) (.t 9), []⟩]) (.seq (.cond (.t 11) .skip (.exit 0))
  (.seq (.blk 1 (.seq (.reg [⟨some 12, none, .ia 1 (.t 8) (.t 10), []⟩, ⟨some 13, none, .ld 1 false (.t 12), []⟩, ⟨some 6, none, .mv (.t 13), []⟩]) (.seq (.reg [⟨some 14, none, .mv (.t 6), []⟩, ⟨some
  15, none, .mv (.t 1), []⟩, ⟨some 16, none, .bin .eql (.t 14) (.t 15), []⟩]) (.cond (.t 16) (.seq (.reg [⟨some 4, none, .mv (.c (.c (.b true))), []⟩]) .ret) .skip)))) (.reg [⟨some 17, none, .bin .add
  (.t 10) (.c (.c (.i .i64 (.ofNat 1)))), []⟩, ⟨some 10, none, .mv (.t 17), []⟩]))))))) (.seq (.reg [⟨some 4, none, .mv (.c (.c (.b false))), []⟩]) .ret)), [(4, none)]⟩

theorem ok133 : FnR Tryz.prog 0 133 cf133 := fnC_ok Tryz.func133 (by kernel_rfl)

def cf134 : CF := ⟨14, .seq (.reg [⟨some 2, none, .mv (.c (.c (.s []))), []⟩]) (.seq (.reg [⟨some 4, none, .bld [.s [], .s [], .s [], .s [], .s [], .s [], .s [], .s [], .s []] [(1, (1, .c (.c (.s [97, 114, 101, 97,
  32, 98, 97, 115, 101, 32, 98, 114, 32, 99, 111, 108, 32, 101, 109, 98, 101, 100, 32, 104, 114, 32, 105, 109, 103, 32, 105, 110, 112, 117, 116, 32, 108, 105, 110, 107, 32, 109, 101, 116, 97, 32, 112,
  97, 114, 97, 109, 32, 115, 111, 117, 114, 99, 101, 32, 116, 114, 97, 99, 107, 32, 119, 98, 114])))), (2, (1, .c (.c (.s [97, 100, 100, 114, 101, 115, 115, 32, 97, 112, 112, 108, 101, 116, 32, 97,
  114, 101, 97, 32, 97, 114, 116, 105, 99, 108, 101, 32, 97, 115, 105, 100, 101, 32, 98, 97, 115, 101, 32, 98, 108, 111, 99, 107, 113, 117, 111, 116, 101, 32, 98, 111, 100, 121, 32, 98, 114, 32, 98,
  117, 116, 116, 111, 110, 32, 99, 97, 112, 116, 105, 111, 110, 32, 99, 101, 110, 116, 101, 114, 32, 99, 111, 108, 32, 99, 111, 108, 103, 114, 111, 117, 112, 32, 100, 100, 32, 100, 101, 116, 97, 105,
  108, 115, 32, 100, 105, 114, 32, 100, 105, 118, 32, 100, 108, 32, 100, 116, 32, 101, 109, 98, 101, 100, 32, 102, 105, 101, 108, 100, 115, 101, 116, 32, 102, 105, 103, 99, 97, 112, 116, 105, 111, 110,
  32, 102, 105, 103, 117, 114, 101, 32, 102, 111, 111, 116, 101, 114, 32, 102, 111, 114, 109, 32, 104, 49, 32, 104, 50, 32, 104, 51, 32, 104, 52, 32, 104, 53, 32, 104, 54, 32, 104, 101, 97, 100, 32,
  104, 101, 97, 100, 101, 114, 32, 104, 103, 114, 111, 117, 112, 32, 104, 114, 32, 104, 116, 109, 108, 32, 105, 102, 114, 97, 109, 101, 32, 105, 109, 103, 32, 105, 110, 112, 117, 116, 32, 108, 105, 32,
  108, 105, 110, 107, 32, 109, 97, 105, 110, 32, 109, 97, 114, 113, 117, 101, 101, 32, 109, 101, 110, 117, 32, 109, 101, 116, 97, 32, 110, 97, 118, 32, 110, 111, 101, 109, 98, 101, 100, 32, 110, 111,
  102, 114, 97, 109, 101, 115, 32, 111, 98, 106, 101, 99, 116, 32, 111, 108, 32, 112, 32, 112, 97, 114, 97, 109, 32, 112, 114, 101, 32, 115, 99, 114, 105, 112, 116, 32, 115, 101, 97, 114, 99, 104, 32,
  115, 101, 99, 116, 105, 111, 110, 32, 115, 101, 108, 101, 99, 116, 32, 115, 111, 117, 114, 99, 101, 32, 115, 116, 121, 108, 101, 32, 115, 117, 109, 109, 97, 114, 121, 32, 116, 97, 98, 108, 101, 32,
  116, 98, 111, 100, 121, 32, 116, 100, 32, 116, 101, 120, 116, 97, 114, 101, 97, 32, 116, 102, 111, 111, 116, 32, 116, 104, 32, 116, 104, 101, 97, 100, 32, 116, 105, 116, 108, 101, 32, 116, 114, 32,
  116, 114, 97, 99, 107, 32, 117, 108, 32, 119, 98, 114, 32, 120, 109, 112])))), (3, (1, .c (.c (.s [97, 32, 98, 32, 98, 105, 103, 32, 99, 111, 100, 101, 32, 101, 109, 32, 102, 111, 110, 116, 32, 105,
  32, 110, 111, 98, 114, 32, 115, 32, 115, 109, 97, 108, 108, 32, 115, 116, 114, 105, 107, 101, 32, 115, 116, 114, 111, 110, 103, 32, 116, 116, 32, 117])))), (4, (1, .c (.c (.s [100, 100, 32, 100, 116,
  32, 108, 105, 32, 111, 112, 116, 105, 111, 110, 32, 112, 32, 114, 112, 32, 114, 116])))), (5, (1, .c (.c (.s [104, 49, 32, 104, 50, 32, 104, 51, 32, 104, 52, 32, 104, 53, 32, 104, 54])))), (6, (1, .c
  (.c (.s [97, 100, 100, 114, 101, 115, 115, 32, 97, 114, 116, 105, 99, 108, 101, 32, 97, 115, 105, 100, 101, 32, 98, 108, 111, 99, 107, 113, 117, 111, 116, 101, 32, 99, 101, 110, 116, 101, 114, 32,
  100, 101, 116, 97, 105, 108, 115, 32, 100, 105, 114, 32, 100, 105, 118, 32, 100, 108, 32, 102, 105, 101, 108, 100, 115, 101, 116, 32, 102, 105, 103, 99, 97, 112, 116, 105, 111, 110, 32, 102, 105,
  103, 117, 114, 101, 32, 102, 111, 111, 116, 101, 114, 32, 102, 111, 114, 109, 32, 104, 101, 97, 100, 101, 114, 32, 104, 103, 114, 111, 117, 112, 32, 109, 97, 105, 110, 32, 109, 101, 110, 117, 32,
  110, 97, 118, 32, 111, 108, 32, 112, 114, 101, 32, 115, 101, 97, 114, 99, 104, 32, 115, 101, 99, 116, 105, 111, 110, 32, 115, 117, 109, 109, 97, 114, 121, 32, 117, 108])))), (7, (1, .c (.c (.s [97,
  112, 112, 108, 101, 116, 32, 109, 97, 114, 113, 117, 101, 101, 32, 111, 98, 106, 101, 99, 116])))), (8, (1, .c (.c (.s [98, 97, 115, 101, 32, 108, 105, 110, 107, 32, 109, 101, 116, 97, 32, 116, 105,
  116, 108, 101, 32, 115, 116, 121, 108, 101, 32, 115, 99, 114, 105, 112, 116, 32, 110, 111, 102, 114, 97, 109, 101, 115]))))], []⟩, ⟨some 3, none, .new 51 (.c (.a [.s [], .s [], .s [], .s [], .s [],
  .s [], .s [], .s [], .s []])), []⟩, ⟨none, none, .st 9 (.t 3) (.t 4), []⟩]) (.seq (.seq (.reg [⟨some 5, none, .mv (.t 0), []⟩, ⟨some 6, none, .bin .lss (.t 5) (.c (.c (.i .i64 (.ofNat 1)))), []⟩,
  ⟨some 7, none, .mv (.t 6), []⟩, ⟨some 8, some (7, false), .mv (.t 0), []⟩, ⟨some 9, some (7, false), .bin .geq (.t 8) (.c (.c (.i .i64 (.ofNat 9)))), []⟩, ⟨some 10, none, .pk (.t 7) (.c (.c (.b
  true))) (.t 9), []⟩]) (.cond (.t 10) (.seq (.reg [⟨some 2, none, .mv (.c (.c (.s []))), []⟩]) .ret) .skip)) (.seq (.reg [⟨some 11, none, .mv (.t 0), []⟩, ⟨some 12, none, .ip 1 9 (.t 3) (.t 11), []⟩,
  ⟨some 13, none, .ld 1 false (.t 12), []⟩, ⟨some 2, none, .mv (.t 13), []⟩]) .ret))), [(2, none)]⟩

theorem ok134 : FnR Tryz.prog 0 134 cf134 := fnC_ok Tryz.func134 (by kernel_rfl)

def cf135 : CF := ⟨19, .seq (.reg [⟨some 4, none, .mv (.c (.c (.i .i64 (.ofNat 0)))), []⟩]) (.seq (.seq (.reg [⟨some 6, none, .mv (.t 0), []⟩, ⟨some 7, none, .len true (.t 6), []⟩, ⟨some 8, none, .mv (.c (.c (.i .i64
  (.ofNat 0)))), []⟩]) (.blk 0 (.loop [16, 5, 9, 8, 7, 0, 1, 4] (.seq (.reg [⟨some 9, none, .bin .lss (.t 8) (.t 7), []⟩]) (.seq (.cond (.t 9) .skip (.exit 0)) (.seq (.blk 1 (.seq (.reg [⟨some 10,
  none, .mv (.t 8), []⟩, ⟨some 5, none, .mv (.t 10), []⟩]) (.seq (.reg [⟨some 11, none, .mv (.t 1), []⟩, ⟨some 12, none, .mv (.t 0), []⟩, ⟨some 13, none, .mv (.t 5), []⟩, ⟨some 14, none, .ia 1 (.t 12)
  (.t 13), []⟩, ⟨some 15, none, .ld 1 false (.t 14), []⟩, ⟨some 16, none, .callv (.t 11) [.t 15], []⟩]) (.cond (.t 16) (.seq (.reg [⟨some 17, none, .mv (.t 5), []⟩, ⟨some 4, none, .mv (.t 17), []⟩])
  .ret) .skip)))) (.reg [⟨some 18, none, .bin .add (.t 8) (.c (.c (.i .i64 (.ofNat 1)))), []⟩, ⟨some 8, none, .mv (.t 18), []⟩]))))))) (.seq (.reg [⟨some 4, none, .mv (.c (.c (.i .i64 (.negSucc 0)))),
  []⟩]) .ret)), [(4, none)]⟩

theorem ok135 : FnR Tryz.prog 0 135 cf135 := fnC_ok Tryz.func135 (by kernel_rfl)

def cf136 : CF := ⟨10, .seq (.reg [⟨some 3, none, .mv (.c (.c (.b false))), []⟩]) (.seq (.dreg [⟨some 4, none, .mv (.t 0), []⟩, ⟨some 5, none, .nc (.t 4), []⟩, ⟨some 6, none, .fa 0 (.t 5), []⟩, ⟨some 7, none, .ld 1
  false (.t 6), []⟩, ⟨some 8, none, .ld 1 false (.t 1), []⟩, ⟨some 9, none, .bin .eql (.t 7) (.t 8), []⟩, ⟨some 3, none, .mv (.t 9), []⟩]) .ret), [(3, none)]⟩

theorem ok136 : FnR Tryz.prog 0 136 cf136 := fnC_ok Tryz.func136 (by kernel_rfl)

def cf137 : CF := ⟨27, .seq (.reg [⟨some 6, none, .mv (.c (.c (.b false))), []⟩]) (.seq (.seq (.reg [⟨some 8, none, .mv (.t 0), []⟩, ⟨some 9, none, .len true (.t 8), []⟩, ⟨some 10, none, .bin .sub (.t 9) (.c (.c (.i
  .i64 (.ofNat 1)))), []⟩, ⟨some 7, none, .mv (.t 10), []⟩]) (.blk 0 (.loop [26, 20, 12, 7, 0, 1, 2, 6] (.seq (.seq (.reg [⟨some 11, none, .mv (.t 7), []⟩, ⟨some 12, none, .bin .geq (.t 11) (.c (.c (.i
  .i64 (.ofNat 0)))), []⟩]) (.cond (.t 12) .skip (.exit 0))) (.seq (.blk 1 (.seq (.seq (.reg [⟨some 15, none, .mv (.t 0), []⟩, ⟨some 16, none, .mv (.t 7), []⟩, ⟨some 17, none, .ia 1 (.t 15) (.t 16),
  []⟩, ⟨some 18, none, .ld 1 false (.t 17), []⟩, ⟨some 19, none, .mv (.t 1), []⟩, ⟨some 20, none, .bin .eql (.t 18) (.t 19), []⟩]) (.cond (.t 20) (.seq (.reg [⟨some 6, none, .mv (.c (.c (.b true))),
  []⟩]) .ret) .skip)) (.seq (.reg [⟨some 21, none, .mv (.t 0), []⟩, ⟨some 22, none, .mv (.t 7), []⟩, ⟨some 23, none, .ia 1 (.t 21) (.t 22), []⟩, ⟨some 24, none, .ld 1 false (.t 23), []⟩, ⟨some 25,
  none, .mv (.t 2), []⟩, ⟨some 26, none, .call 161 [.t 24, .t 25], []⟩]) (.cond (.t 26) (.exit 0) .skip)))) (.reg [⟨some 13, none, .mv (.t 7), []⟩, ⟨some 14, none, .bin .sub (.t 13) (.c (.c (.i .i64
  (.ofNat 1)))), []⟩, ⟨some 7, none, .mv (.t 14), []⟩])))))) (.seq (.reg [⟨some 6, none, .mv (.c (.c (.b false))), []⟩]) .ret)), [(6, none)]⟩

theorem ok137 : FnR Tryz.prog 0 137 cf137 := fnC_ok Tryz.func137 (by kernel_rfl)

def cf139 : CF := ⟨30, .seq (.reg [⟨some 4, none, .mv (.c (.c (.i .i64 (.ofNat 0)))), []⟩]) (.seq (.reg [⟨some 5, none, .mv (.c (.c (.i .i64 (.ofNat 0)))), []⟩]) (.seq (.blk 0 (.loop [26, 6, 10, 5, 0, 1, 4] (.seq
  (.seq (.reg [⟨some 7, none, .mv (.t 5), []⟩, ⟨some 8, none, .mv (.t 0), []⟩, ⟨some 9, none, .len true (.t 8), []⟩, ⟨some 10, none, .bin .lss (.t 7) (.t 9), []⟩]) (.cond (.t 10) .skip (.exit 0)))
  (.blk 1 (.seq (.reg [⟨some 11, none, .mv (.t 0), []⟩, ⟨some 12, none, .mv (.t 0), []⟩, ⟨some 13, none, .len true (.t 12), []⟩, ⟨some 14, none, .bin .sub (.t 13) (.c (.c (.i .i64 (.ofNat 1)))), []⟩,
  ⟨some 15, none, .mv (.t 5), []⟩, ⟨some 16, none, .bin .sub (.t 14) (.t 15), []⟩, ⟨some 17, none, .ia 1 (.t 11) (.t 16), []⟩, ⟨some 18, none, .ld 1 false (.t 17), []⟩, ⟨some 6, none, .mv (.t 18),
  []⟩]) (.seq (.seq (.reg [⟨some 19, none, .mv (.t 6), []⟩, ⟨some 20, none, .mv (.t 1), []⟩, ⟨some 21, none, .bin .eql (.t 19) (.t 20), []⟩, ⟨some 22, none, .mv (.t 21), []⟩, ⟨some 23, some (22,
  false), .mv (.t 6), []⟩, ⟨some 24, some (22, false), .call 105 [.t 23, .c (.c (.i .i64 (.ofNat 4)))], []⟩, ⟨some 25, some (22, false), .un .not (.t 24), []⟩, ⟨some 26, none, .pk (.t 22) (.c (.c (.b
  true))) (.t 25), []⟩]) (.cond (.t 26) (.exit 0) .skip)) (.reg [⟨some 27, none, .mv (.t 5), []⟩, ⟨some 28, none, .bin .add (.t 27) (.c (.c (.i .i64 (.ofNat 1)))), []⟩, ⟨some 5, none, .mv (.t 28),
  []⟩]))))))) (.seq (.reg [⟨some 29, none, .mv (.t 5), []⟩, ⟨some 4, none, .mv (.t 29), []⟩]) .ret))), [(4, none)]⟩

theorem ok139 : FnR Tryz.prog 0 139 cf139 := fnC_ok Tryz.func139 (by kernel_rfl)

def cf140 : CF := ⟨26, .seq (.reg [⟨some 2, none, .mv (.c (.c (.i .i64 (.ofNat 0)))), []⟩]) (.seq (.reg [⟨some 4, none, .mv (.t 0), []⟩, ⟨some 5, none, .nc (.t 4), []⟩, ⟨some 6, none, .fa 0 (.t 5), []⟩, ⟨some 7, none,
  .ld 1 false (.t 6), []⟩, ⟨some 8, none, .len true (.t 7), []⟩, ⟨some 3, none, .mv (.t 8), []⟩]) (.seq (.blk 0 (.loop [22, 3, 0, 2] (.seq (.seq (.reg [⟨some 9, none, .mv (.t 3), []⟩, ⟨some 10, none,
  .bin .gtr (.t 9) (.c (.c (.i .i64 (.ofNat 0)))), []⟩, ⟨some 11, none, .mv (.t 10), []⟩, ⟨some 12, some (11, true), .mv (.t 0), []⟩, ⟨some 13, some (11, true), .nc (.t 12), []⟩, ⟨some 14, some (11,
  true), .fa 0 (.t 13), []⟩, ⟨some 15, some (11, true), .ld 1 false (.t 14), []⟩, ⟨some 16, some (11, true), .mv (.t 3), []⟩, ⟨some 17, some (11, true), .bin .sub (.t 16) (.c (.c (.i .i64 (.ofNat
  1)))), []⟩, ⟨some 18, some (11, true), .ia 4 (.t 15) (.t 17), []⟩, ⟨some 19, some (11, true), .fa 3 (.t 18), []⟩, ⟨some 20, some (11, true), .ld 1 false (.t 19), []⟩, ⟨some 21, some (11, true), .un
  .not (.t 20), []⟩, ⟨some 22, none, .pk (.t 11) (.t 21) (.c (.c (.b false))), []⟩]) (.cond (.t 22) .skip (.exit 0))) (.blk 1 (.reg [⟨some 23, none, .mv (.t 3), []⟩, ⟨some 24, none, .bin .sub (.t 23)
  (.c (.c (.i .i64 (.ofNat 1)))), []⟩, ⟨some 3, none, .mv (.t 24), []⟩]))))) (.seq (.reg [⟨some 25, none, .mv (.t 3), []⟩, ⟨some 2, none, .mv (.t 25), []⟩]) .ret))), [(2, none)]⟩

theorem ok140 : FnR Tryz.prog 0 140 cf140 := fnC_ok Tryz.func140 (by kernel_rfl)

def cf141 : CF := ⟨8, .seq (.reg [⟨some 2, none, .mv (.c (.c (.i .i64 (.ofNat 0)))), []⟩]) (.seq (.reg [⟨some 3, none, .mv (.t 0), []⟩, ⟨some 4, none, .nc (.t 3), []⟩, ⟨some 5, none, .fa 0 (.t 4), []⟩, ⟨some 6, none,
  .ld 1 false (.t 5), []⟩, ⟨some 7, none, .len true (.t 6), []⟩, ⟨some 2, none, .mv (.t 7), []⟩]) .ret), [(2, none)]⟩

theorem ok141 : FnR Tryz.prog 0 141 cf141 := fnC_ok Tryz.func141 (by kernel_rfl)

def cf142 : CF := ⟨26, .seq (.reg [⟨some 4, none, .mv (.c (.c (.b false))), []⟩]) (.seq (.reg [⟨some 8, none, .mv (.t 0), []⟩, ⟨some 9, none, .nc (.t 8), []⟩, ⟨some 10, none, .fa 4 (.t 9), []⟩, ⟨some 11, none, .ld 1
  false (.t 10), []⟩, ⟨some 12, none, .mv (.t 1), []⟩, ⟨some 13, none, .call 143 [.t 11, .t 12], []⟩, ⟨some 7, none, .mv (.t 13), []⟩, ⟨some 14, none, .ext 0 (.t 7), []⟩, ⟨some 15, none, .ext 1 (.t 7),
  []⟩, ⟨some 5, none, .new 128 (.c (.a [.i .i64 (.ofNat 0), .s [], .sl none 0 0 0])), []⟩, ⟨none, none, .st 3 (.t 5) (.t 14), []⟩, ⟨some 6, none, .mv (.t 15), []⟩]) (.seq (.reg [⟨some 16, none, .fa 0
  (.t 5), []⟩, ⟨some 17, none, .ld 1 false (.t 16), []⟩, ⟨some 18, none, .bin .eql (.t 17) (.c (.c (.i .i64 (.ofNat 0)))), []⟩, ⟨some 19, none, .mv (.t 18), []⟩, ⟨some 20, some (19, false), .mv (.t 0),
  []⟩, ⟨some 21, some (19, false), .fa 0 (.t 5), []⟩, ⟨some 22, some (19, false), .ld 1 false (.t 21), []⟩, ⟨some 23, some (19, false), .call 106 [.t 20, .t 22], []⟩, ⟨some 24, some (19, false), .bin
  .geq (.t 23) (.c (.c (.i .i64 (.ofNat 0)))), []⟩, ⟨some 25, none, .pk (.t 19) (.c (.c (.b true))) (.t 24), []⟩, ⟨some 4, none, .mv (.t 25), []⟩]) .ret)), [(4, none)]⟩

theorem ok142 : FnR Tryz.prog 0 142 cf142 := fnC_ok Tryz.func142 (by kernel_rfl)

def cf143 : CF := ⟨27, .seq (.reg [⟨some 4, none, .new 128 (.c (.a [.i .i64 (.ofNat 0), .s [], .sl none 0 0 0])), []⟩, ⟨some 5, none, .mv (.c (.c (.b false))), []⟩]) (.seq (.seq (.reg [⟨some 6, none, .mv (.t 1), []⟩,
  ⟨some 7, none, .bin .lss (.t 6) (.c (.c (.i .i64 (.ofNat 0)))), []⟩, ⟨some 8, none, .mv (.t 7), []⟩, ⟨some 9, some (8, false), .mv (.t 1), []⟩, ⟨some 10, some (8, false), .mv (.t 0), []⟩, ⟨some 11,
  some (8, false), .nc (.t 10), []⟩, ⟨some 12, some (8, false), .fa 0 (.t 11), []⟩, ⟨some 13, some (8, false), .ld 1 false (.t 12), []⟩, ⟨some 14, some (8, false), .len true (.t 13), []⟩, ⟨some 15,
  some (8, false), .bin .geq (.t 9) (.t 14), []⟩, ⟨some 16, none, .pk (.t 8) (.c (.c (.b true))) (.t 15), []⟩]) (.cond (.t 16) (.seq (.reg [⟨some 17, none, .bld [.i .i64 (.ofNat 0), .s [], .sl none 0 0
  0] [], []⟩, ⟨none, none, .st 3 (.t 4) (.t 17), []⟩, ⟨some 5, none, .mv (.c (.c (.b false))), []⟩]) .ret) .skip)) (.seq (.reg [⟨some 18, none, .mv (.t 0), []⟩, ⟨some 19, none, .nc (.t 18), []⟩, ⟨some
  20, none, .fa 0 (.t 19), []⟩, ⟨some 21, none, .ld 1 false (.t 20), []⟩, ⟨some 22, none, .mv (.t 1), []⟩, ⟨some 23, none, .ia 4 (.t 21) (.t 22), []⟩, ⟨some 24, none, .fa 0 (.t 23), []⟩, ⟨some 25,
  none, .ld 3 true (.t 24), []⟩, ⟨some 26, none, .call 163 [.t 25], []⟩, ⟨none, none, .st 3 (.t 4) (.t 26), []⟩, ⟨some 5, none, .mv (.c (.c (.b true))), []⟩]) .ret)), [(4, some (3, true)), (5, none)]⟩

theorem ok143 : FnR Tryz.prog 0 143 cf143 := fnC_ok Tryz.func143 (by kernel_rfl)

def cf144 : CF := ⟨24, .seq (.reg [⟨some 5, none, .new 128 (.t 2), []⟩, ⟨some 6, none, .mv (.c (.c (.b false))), []⟩]) (.seq (.reg [⟨some 8, none, .mv (.t 0), []⟩, ⟨some 9, none, .mv (.t 1), []⟩, ⟨some 10, none, .call
  164 [.t 8, .t 9], []⟩, ⟨some 7, none, .mv (.t 10), []⟩]) (.seq (.seq (.reg [⟨some 11, none, .mv (.t 7), []⟩, ⟨some 12, none, .bin .geq (.t 11) (.c (.c (.i .i64 (.ofNat 0)))), []⟩]) (.cond (.t 12)
  (.dreg [⟨some 13, none, .mv (.t 0), []⟩, ⟨some 14, none, .nc (.t 13), []⟩, ⟨some 15, none, .fa 0 (.t 14), []⟩, ⟨some 16, none, .ld 1 false (.t 15), []⟩, ⟨some 17, none, .mv (.t 7), []⟩, ⟨some 18,
  none, .ld 3 true (.t 5), []⟩, ⟨some 19, none, .call 163 [.t 18], [⟨some 16, none, .ld 1 false (.t 15)⟩]⟩, ⟨some 20, none, .ia 4 (.t 16) (.t 17), []⟩, ⟨some 21, none, .fa 0 (.t 20), []⟩, ⟨none, none,
  .st 3 (.t 21) (.t 19), []⟩]) .skip)) (.seq (.reg [⟨some 22, none, .mv (.t 7), []⟩, ⟨some 23, none, .bin .geq (.t 22) (.c (.c (.i .i64 (.ofNat 0)))), []⟩, ⟨some 6, none, .mv (.t 23), []⟩]) .ret))),
  [(6, none)]⟩

theorem ok144 : FnR Tryz.prog 0 144 cf144 := fnC_ok Tryz.func144 (by kernel_rfl)

def cf145 : CF := ⟨16, .seq (.reg [⟨some 2, none, .new 128 (.c (.a [.i .i64 (.ofNat 0), .s [], .sl none 0 0 0])), []⟩]) (.seq (.dreg [⟨some 3, none, .mv (.t 0), []⟩, ⟨some 4, none, .nc (.t 3), []⟩, ⟨some 5, none, .fa
  0 (.t 4), []⟩, ⟨some 6, none, .ld 1 false (.t 5), []⟩, ⟨some 7, none, .mv (.t 0), []⟩, ⟨some 8, none, .nc (.t 7), []⟩, ⟨some 9, none, .fa 2 (.t 8), []⟩, ⟨some 10, none, .ld 1 false (.t 9), []⟩, ⟨some
  11, none, .mv (.t 0), []⟩, ⟨some 12, none, .nc (.t 11), []⟩, ⟨some 13, none, .fa 4 (.t 12), []⟩, ⟨some 14, none, .ld 1 false (.t 13), []⟩, ⟨some 15, none, .bld [.i .i64 (.ofNat 0), .s [], .sl none 0
  0 0] [(0, (1, .t 6)), (1, (1, .t 10)), (2, (1, .t 14))], []⟩, ⟨none, none, .st 3 (.t 2) (.t 15), []⟩]) .ret), [(2, some (3, true))]⟩

theorem ok145 : FnR Tryz.prog 0 145 cf145 := fnC_ok Tryz.func145 (by kernel_rfl)

def cf147 : CF := ⟨9, .seq (.reg [⟨some 2, none, .mv (.t 0), []⟩, ⟨some 3, none, .call 111 [.t 2, .c (.c (.s [112])), .c (.c (.i .i64 (.ofNat 3)))], []⟩]) (.cond (.t 3) (.seq (.reg [⟨some 4, none, .mv (.t 0), []⟩,
  ⟨some 5, none, .call 114 [.t 4, .c (.c (.s [112]))], []⟩]) (.reg [⟨some 6, none, .mv (.t 0), []⟩, ⟨some 7, none, .bsl 9 1 1 [.s []] [(0, (1, .c (.c (.s [112]))))], []⟩, ⟨some 8, none, .call 104 [.t
  6, .t 7], []⟩])) .skip), []⟩

theorem ok147 : FnR Tryz.prog 0 147 cf147 := fnC_ok Tryz.func147 (by kernel_rfl)

def cf148 : CF := ⟨48, .seq .skip (.seq (.seq (.reg [⟨some 6, none, .mv (.t 0), []⟩, ⟨some 7, none, .nc (.t 6), []⟩, ⟨some 8, none, .fa 3 (.t 7), []⟩, ⟨some 9, none, .ld 1 false (.t 8), []⟩, ⟨some 10, none, .len true
  (.t 9), []⟩, ⟨some 11, none, .bin .sub (.t 10) (.c (.c (.i .i64 (.ofNat 1)))), []⟩, ⟨some 4, none, .mv (.t 11), []⟩]) (.blk 0 (.loop [37, 26, 5, 13, 4, 0, 1] (.seq (.seq (.reg [⟨some 12, none, .mv
  (.t 4), []⟩, ⟨some 13, none, .bin .geq (.t 12) (.c (.c (.i .i64 (.ofNat 0)))), []⟩]) (.cond (.t 13) .skip (.exit 0))) (.seq (.blk 1 (.seq (.reg [⟨some 16, none, .mv (.t 0), []⟩, ⟨some 17, none, .nc
  (.t 16), []⟩, ⟨some 18, none, .fa 3 (.t 17), []⟩, ⟨some 19, none, .ld 1 false (.t 18), []⟩, ⟨some 20, none, .mv (.t 4), []⟩, ⟨some 21, none, .ia 1 (.t 19) (.t 20), []⟩, ⟨some 22, none, .ld 1 false
  (.t 21), []⟩, ⟨some 23, none, .nc (.t 22), []⟩, ⟨some 24, none, .fa 2 (.t 23), []⟩, ⟨some 25, none, .ld 1 false (.t 24), []⟩, ⟨some 5, none, .mv (.t 25), []⟩]) (.blk 2 (.seq (.reg [⟨some 27, none,
  .mv (.t 5), []⟩, ⟨some 28, none, .mv (.t 1), []⟩, ⟨some 29, none, .call 38 [.t 27, .t 28], []⟩, ⟨some 26, none, .mv (.t 29), []⟩]) (.cond (.t 26) (.seq (.reg [⟨some 30, none, .mv (.t 0), []⟩, ⟨some
  31, none, .mv (.t 5), []⟩, ⟨some 32, none, .call 114 [.t 30, .t 31], []⟩]) (.seq (.reg [⟨some 33, none, .mv (.t 0), []⟩, ⟨some 34, none, .mv (.t 5), []⟩, ⟨some 35, none, .bsl 9 1 1 [.s []] [(0, (1,
  .t 34))], []⟩, ⟨some 36, none, .call 104 [.t 33, .t 35], []⟩]) (.exit 0))) (.seq (.reg [⟨some 38, none, .mv (.t 5), []⟩, ⟨some 39, none, .call 105 [.t 38, .c (.c (.i .i64 (.ofNat 2)))], []⟩, ⟨some
  40, none, .mv (.t 39), []⟩, ⟨some 41, some (40, true), .mv (.t 5), []⟩, ⟨some 42, some (40, true), .bsl 9 1 3 [.s [], .s [], .s []] [(0, (1, .c (.c (.s [97, 100, 100, 114, 101, 115, 115])))), (1, (1,
  .c (.c (.s [100, 105, 118])))), (2, (1, .c (.c (.s [112]))))], []⟩, ⟨some 43, some (40, true), .call 38 [.t 41, .t 42], []⟩, ⟨some 44, some (40, true), .un .not (.t 43), []⟩, ⟨some 45, none, .pk (.t
  40) (.t 44) (.c (.c (.b false))), []⟩, ⟨some 37, none, .mv (.t 45), []⟩]) (.cond (.t 37) (.exit 0) .skip))))))) (.reg [⟨some 14, none, .mv (.t 4), []⟩, ⟨some 15, none, .bin .sub (.t 14) (.c (.c (.i
  .i64 (.ofNat 1)))), []⟩, ⟨some 4, none, .mv (.t 15), []⟩])))))) (.reg [⟨some 46, none, .mv (.t 0), []⟩, ⟨some 47, none, .call 147 [.t 46], []⟩])), []⟩

theorem ok148 : FnR Tryz.prog 0 148 cf148 := fnC_ok Tryz.func148 (by kernel_rfl)

def cf149 : CF := ⟨77, .seq (.reg [⟨some 3, none, .new 56 (.t 1), []⟩]) (.seq (.seq (.reg [⟨some 7, none, .fa 1 (.t 3), []⟩, ⟨some 8, none, .ld 1 false (.t 7), []⟩, ⟨some 9, none, .bin .eql (.t 8) (.c (.c (.s [97]))),
  []⟩]) (.cond (.t 9) (.seq (.reg [⟨some 11, none, .mv (.t 0), []⟩, ⟨some 12, none, .nc (.t 11), []⟩, ⟨some 13, none, .fa 4 (.t 12), []⟩, ⟨some 14, none, .ld 1 false (.t 13), []⟩, ⟨some 15, none, .call
  169 [.t 14, .c (.c (.s [97]))], []⟩, ⟨some 10, none, .mv (.t 15), []⟩, ⟨some 16, none, .ext 0 (.t 10), []⟩, ⟨some 17, none, .ext 1 (.t 10), []⟩, ⟨some 4, none, .new 128 (.c (.a [.i .i64 (.ofNat 0),
  .s [], .sl none 0 0 0])), []⟩, ⟨none, none, .st 3 (.t 4) (.t 16), []⟩, ⟨some 5, none, .mv (.t 17), []⟩]) (.seq (.reg [⟨some 18, none, .mv (.t 5), []⟩]) (.cond (.t 18) (.seq (.reg [⟨some 19, none, .mv
  (.t 0), []⟩, ⟨some 20, none, .call 152 [.t 19, .c (.c (.s [97]))], []⟩]) (.seq (.dreg [⟨some 21, none, .mv (.t 0), []⟩, ⟨some 22, none, .nc (.t 21), []⟩, ⟨some 23, none, .fa 4 (.t 22), []⟩, ⟨some 24,
  none, .ld 1 false (.t 23), []⟩, ⟨some 25, none, .fa 0 (.t 4), []⟩, ⟨some 26, none, .ld 1 false (.t 25), []⟩, ⟨some 27, none, .call 170 [.t 24, .t 26], []⟩]) (.seq (.reg [⟨some 28, none, .mv (.t 0),
  []⟩, ⟨some 29, none, .fa 0 (.t 4), []⟩, ⟨some 30, none, .ld 1 false (.t 29), []⟩, ⟨some 31, none, .call 106 [.t 28, .t 30], []⟩, ⟨some 6, none, .mv (.t 31), []⟩]) (.seq (.reg [⟨some 32, none, .mv (.t
  6), []⟩, ⟨some 33, none, .bin .geq (.t 32) (.c (.c (.i .i64 (.ofNat 0)))), []⟩]) (.cond (.t 33) (.dreg [⟨some 34, none, .mv (.t 0), []⟩, ⟨some 35, none, .mv (.t 0), []⟩, ⟨some 36, none, .nc (.t 35),
  []⟩, ⟨some 37, none, .fa 3 (.t 36), []⟩, ⟨some 38, none, .ld 1 false (.t 37), []⟩, ⟨some 39, none, .mv (.t 6), []⟩, ⟨some 40, none, .mv (.t 6), []⟩, ⟨some 41, none, .slc 1 (.t 38) none (some (.t 39))
  (some (.t 40)), []⟩, ⟨some 42, none, .mv (.t 0), []⟩, ⟨some 43, none, .nc (.t 42), []⟩, ⟨some 44, none, .fa 3 (.t 43), []⟩, ⟨some 45, none, .ld 1 false (.t 44), []⟩, ⟨some 46, none, .mv (.t 6), []⟩,
  ⟨some 47, none, .bin .add (.t 46) (.c (.c (.i .i64 (.ofNat 1)))), []⟩, ⟨some 48, none, .slc 1 (.t 45) (some (.t 47)) none none, []⟩, ⟨some 49, none, .app 58 1 false (.t 41) (.t 48), []⟩, ⟨some 50,
  none, .nc (.t 34), []⟩, ⟨some 51, none, .fa 3 (.t 50), []⟩, ⟨none, none, .st 1 (.t 51) (.t 49), []⟩]) .skip))))) .skip))) .skip)) (.seq (.reg [⟨some 52, none, .mv (.t 0), []⟩, ⟨some 53, none, .call
  119 [.t 52], []⟩]) (.seq (.seq (.reg [⟨some 54, none, .fa 1 (.t 3), []⟩, ⟨some 55, none, .ld 1 false (.t 54), []⟩, ⟨some 56, none, .bin .eql (.t 55) (.c (.c (.s [110, 111, 98, 114]))), []⟩, ⟨some 57,
  none, .mv (.t 56), []⟩, ⟨some 58, some (57, true), .mv (.t 0), []⟩, ⟨some 59, some (57, true), .call 111 [.t 58, .c (.c (.s [110, 111, 98, 114])), .c (.c (.i .i64 (.ofNat 1)))], []⟩, ⟨some 60, none,
  .pk (.t 57) (.t 59) (.c (.c (.b false))), []⟩]) (.cond (.t 60) (.seq (.reg [⟨some 61, none, .mv (.t 0), []⟩, ⟨some 62, none, .call 152 [.t 61, .c (.c (.s [110, 111, 98, 114]))], []⟩]) (.reg [⟨some
  63, none, .mv (.t 0), []⟩, ⟨some 64, none, .call 119 [.t 63], []⟩])) .skip)) (.dreg [⟨some 65, none, .mv (.t 0), []⟩, ⟨some 66, none, .nc (.t 65), []⟩, ⟨some 67, none, .fa 4 (.t 66), []⟩, ⟨some 68,
  none, .ld 1 false (.t 67), []⟩, ⟨some 69, none, .mv (.t 0), []⟩, ⟨some 70, none, .fa 1 (.t 3), []⟩, ⟨some 71, none, .ld 1 false (.t 70), []⟩, ⟨some 72, none, .fa 3 (.t 3), []⟩, ⟨some 73, none, .ld 1
  false (.t 72), []⟩, ⟨some 74, none, .call 101 [.t 69, .t 71, .t 73], [⟨some 68, none, .ld 1 false (.t 67)⟩]⟩, ⟨some 75, none, .call 145 [.t 74], [⟨some 68, none, .ld 1 false (.t 67)⟩]⟩, ⟨some 76,
  none, .call 171 [.t 68, .t 75], []⟩])))), []⟩

theorem ok149 : FnR Tryz.prog 0 149 cf149 := fnC_ok Tryz.func149 (by kernel_rfl)

def cf150 : CF := ⟨67, .seq (.reg [⟨some 3, none, .new 56 (.t 1), []⟩, ⟨some 4, none, .mv (.c (.c (.b false))), []⟩]) (.seq (.reg [⟨some 6, none, .fa 1 (.t 3), []⟩, ⟨some 7, none, .ld 1 false (.t 6), []⟩, ⟨some 5,
  none, .mv (.t 7), []⟩]) (.seq (.blk 0 (.seq (.reg [⟨some 9, none, .mv (.t 5), []⟩, ⟨some 10, none, .bin .eql (.t 9) (.c (.c (.s [98, 117, 116, 116, 111, 110]))), []⟩, ⟨some 11, none, .mv (.t 10),
  []⟩, ⟨some 12, some (11, true), .mv (.t 0), []⟩, ⟨some 13, some (11, true), .call 111 [.t 12, .c (.c (.s [98, 117, 116, 116, 111, 110])), .c (.c (.i .i64 (.ofNat 1)))], []⟩, ⟨some 14, none, .pk (.t
  11) (.t 13) (.c (.c (.b false))), []⟩, ⟨some 8, none, .mv (.t 14), []⟩]) (.cond (.t 8) (.seq (.reg [⟨some 15, none, .mv (.t 0), []⟩, ⟨some 16, none, .call 114 [.t 15, .c (.c (.s []))], []⟩]) (.reg
  [⟨some 17, none, .mv (.t 0), []⟩, ⟨some 18, none, .bsl 9 1 1 [.s []] [(0, (1, .c (.c (.s [98, 117, 116, 116, 111, 110]))))], []⟩, ⟨some 19, none, .call 104 [.t 17, .t 18], []⟩])) (.seq (.reg [⟨some
  21, none, .mv (.t 5), []⟩, ⟨some 22, none, .bin .eql (.t 21) (.c (.c (.s [120, 109, 112]))), []⟩, ⟨some 20, none, .mv (.t 22), []⟩]) (.cond (.t 20) (.reg [⟨some 23, none, .mv (.t 0), []⟩, ⟨some 24,
  none, .call 147 [.t 23], []⟩]) (.seq (.reg [⟨some 26, none, .mv (.t 5), []⟩, ⟨some 27, none, .bin .eql (.t 26) (.c (.c (.s [111, 112, 116, 105, 111, 110]))), []⟩, ⟨some 28, none, .mv (.t 27), []⟩,
  ⟨some 29, some (28, true), .mv (.t 0), []⟩, ⟨some 30, some (28, true), .call 63 [.t 29], []⟩, ⟨some 31, some (28, true), .nc (.t 30), []⟩, ⟨some 32, some (28, true), .fa 2 (.t 31), []⟩, ⟨some 33,
  some (28, true), .ld 1 false (.t 32), []⟩, ⟨some 34, some (28, true), .bin .eql (.t 33) (.c (.c (.s [111, 112, 116, 105, 111, 110]))), []⟩, ⟨some 35, none, .pk (.t 28) (.t 34) (.c (.c (.b false))),
  []⟩, ⟨some 25, none, .mv (.t 35), []⟩]) (.cond (.t 25) (.reg [⟨some 36, none, .mv (.t 0), []⟩, ⟨some 37, none, .call 67 [.t 36, .c (.c (.i .i64 (.ofNat 1)))], []⟩]) .skip))))))) (.seq (.reg [⟨some
  38, none, .mv (.t 0), []⟩, ⟨some 39, none, .call 119 [.t 38], []⟩]) (.seq (.seq (.reg [⟨some 40, none, .mv (.t 5), []⟩]) (.blk 1 (.seq (.blk 3 (.seq (.blk 2 (.seq (.seq (.seq (.reg [⟨some 42, none,
  .bin .eql (.t 40) (.c (.c (.s [105, 109, 97, 103, 101]))), []⟩, ⟨some 41, none, .mv (.t 42), []⟩]) (.cond (.t 41) (.exit 2) .skip)) (.seq (.seq (.reg [⟨some 44, none, .bin .eql (.t 40) (.c (.c (.s
  [97, 114, 101, 97]))), []⟩, ⟨some 43, none, .mv (.t 44), []⟩]) (.cond (.t 43) .skip (.seq (.reg [⟨some 45, none, .bin .eql (.t 40) (.c (.c (.s [98, 114]))), []⟩, ⟨some 43, none, .mv (.t 45), []⟩])
  (.cond (.t 43) .skip (.seq (.reg [⟨some 46, none, .bin .eql (.t 40) (.c (.c (.s [101, 109, 98, 101, 100]))), []⟩, ⟨some 43, none, .mv (.t 46), []⟩]) (.cond (.t 43) .skip (.seq (.reg [⟨some 47, none,
  .bin .eql (.t 40) (.c (.c (.s [105, 109, 103]))), []⟩, ⟨some 43, none, .mv (.t 47), []⟩]) (.cond (.t 43) .skip (.seq (.reg [⟨some 48, none, .bin .eql (.t 40) (.c (.c (.s [105, 110, 112, 117, 116]))),
  []⟩, ⟨some 43, none, .mv (.t 48), []⟩]) (.cond (.t 43) .skip (.reg [⟨some 49, none, .bin .eql (.t 40) (.c (.c (.s [119, 98, 114]))), []⟩, ⟨some 43, none, .mv (.t 49), []⟩]))))))))))) (.cond (.t 43)
  (.exit 3) .skip))) (.exit 1))) (.reg [⟨some 5, none, .mv (.c (.c (.s [105, 109, 103]))), []⟩]))) (.seq (.seq (.reg [⟨some 50, none, .mv (.t 0), []⟩, ⟨some 51, none, .mv (.t 5), []⟩, ⟨some 52, none,
  .fa 3 (.t 3), []⟩, ⟨some 53, none, .ld 1 false (.t 52), []⟩, ⟨some 54, none, .call 103 [.t 50, .t 51, .t 53], []⟩]) (.seq (.reg [⟨some 4, none, .mv (.c (.c (.b false))), []⟩]) .ret)) (.exit 1)))))
  (.seq (.reg [⟨some 55, none, .mv (.t 0), []⟩, ⟨some 56, none, .mv (.t 5), []⟩, ⟨some 57, none, .fa 3 (.t 3), []⟩, ⟨some 58, none, .ld 1 false (.t 57), []⟩, ⟨some 59, none, .call 101 [.t 55, .t 56, .t
  58], []⟩]) (.seq (.seq (.reg [⟨some 60, none, .mv (.t 5), []⟩, ⟨some 61, none, .call 105 [.t 60, .c (.c (.i .i64 (.ofNat 7)))], []⟩]) (.cond (.t 61) (.reg [⟨some 62, none, .mv (.t 0), []⟩, ⟨some 63,
  none, .nc (.t 62), []⟩, ⟨some 64, none, .fa 4 (.t 63), []⟩, ⟨some 65, none, .ld 1 false (.t 64), []⟩, ⟨some 66, none, .call 109 [.t 65], []⟩]) .skip)) (.seq (.reg [⟨some 4, none, .mv (.c (.c (.b
  false))), []⟩]) .ret))))))), [(4, none)]⟩

theorem ok150 : FnR Tryz.prog 0 150 cf150 := fnC_ok Tryz.func150 (by kernel_rfl)

def cf152 : CF := ⟨120, .seq (.seq (.reg [⟨some 11, none, .mv (.t 0), []⟩, ⟨some 12, none, .call 63 [.t 11], []⟩, ⟨some 4, none, .mv (.t 12), []⟩]) (.seq (.dreg [⟨some 13, none, .mv (.t 4), []⟩, ⟨some 14, none, .nc
  (.t 13), []⟩, ⟨some 15, none, .fa 2 (.t 14), []⟩, ⟨some 16, none, .ld 1 false (.t 15), []⟩, ⟨some 17, none, .mv (.t 1), []⟩, ⟨some 18, none, .bin .eql (.t 16) (.t 17), []⟩, ⟨some 19, none, .mv (.t
  18), []⟩, ⟨some 20, some (19, true), .mv (.t 0), []⟩, ⟨some 21, some (19, true), .nc (.t 20), []⟩, ⟨some 22, some (19, true), .fa 4 (.t 21), []⟩, ⟨some 23, some (19, true), .ld 1 false (.t 22), []⟩,
  ⟨some 24, some (19, true), .mv (.t 4), []⟩, ⟨some 25, some (19, true), .nc (.t 24), []⟩, ⟨some 26, some (19, true), .fa 0 (.t 25), []⟩, ⟨some 27, some (19, true), .ld 1 false (.t 26), []⟩, ⟨some 28,
  some (19, true), .call 164 [.t 23, .t 27], []⟩, ⟨some 29, some (19, true), .bin .lss (.t 28) (.c (.c (.i .i64 (.ofNat 0)))), []⟩, ⟨some 30, none, .pk (.t 19) (.t 29) (.c (.c (.b false))), []⟩])
  (.cond (.t 30) (.seq (.reg [⟨some 31, none, .mv (.t 0), []⟩, ⟨some 32, none, .call 67 [.t 31, .c (.c (.i .i64 (.ofNat 1)))], []⟩]) .ret) .skip))) (.seq (.reg [⟨some 33, none, .mv (.c (.c (.i .i64
  (.ofNat 0)))), []⟩]) (.blk 0 (.loop [84, 10, 78, 9, 68, 71, 70, 69, 54, 7, 5, 45, 6, 34, 33, 30, 4, 0, 1] (.seq (.reg [⟨some 34, none, .bin .lss (.t 33) (.c (.c (.i .i64 (.ofNat 8)))), []⟩]) (.seq
  (.cond (.t 34) .skip (.exit 0)) (.seq (.blk 1 (.seq (.reg [⟨some 36, none, .mv (.t 0), []⟩, ⟨some 37, none, .nc (.t 36), []⟩, ⟨some 38, none, .fa 4 (.t 37), []⟩, ⟨some 39, none, .ld 1 false (.t 38),
  []⟩, ⟨some 40, none, .mv (.t 1), []⟩, ⟨some 41, none, .call 169 [.t 39, .t 40], []⟩, ⟨some 35, none, .mv (.t 41), []⟩, ⟨some 42, none, .ext 0 (.t 35), []⟩, ⟨some 43, none, .ext 1 (.t 35), []⟩, ⟨some
  5, none, .new 128 (.c (.a [.i .i64 (.ofNat 0), .s [], .sl none 0 0 0])), []⟩, ⟨none, none, .st 3 (.t 5) (.t 42), []⟩, ⟨some 6, none, .mv (.t 43), []⟩]) (.seq (.seq (.reg [⟨some 44, none, .mv (.t 6),
  []⟩, ⟨some 45, none, .un .not (.t 44), []⟩]) (.cond (.t 45) (.seq (.reg [⟨some 46, none, .mv (.t 0), []⟩, ⟨some 47, none, .mv (.t 1), []⟩, ⟨some 48, none, .call 153 [.t 46, .t 47], []⟩]) .ret)
  .skip)) (.seq (.reg [⟨some 49, none, .mv (.t 0), []⟩, ⟨some 50, none, .fa 0 (.t 5), []⟩, ⟨some 51, none, .ld 1 false (.t 50), []⟩, ⟨some 52, none, .call 106 [.t 49, .t 51], []⟩, ⟨some 7, none, .mv
  (.t 52), []⟩]) (.seq (.seq (.reg [⟨some 53, none, .mv (.t 7), []⟩, ⟨some 54, none, .bin .lss (.t 53) (.c (.c (.i .i64 (.ofNat 0)))), []⟩]) (.cond (.t 54) (.seq (.dreg [⟨some 55, none, .mv (.t 0),
  []⟩, ⟨some 56, none, .nc (.t 55), []⟩, ⟨some 57, none, .fa 4 (.t 56), []⟩, ⟨some 58, none, .ld 1 false (.t 57), []⟩, ⟨some 59, none, .fa 0 (.t 5), []⟩, ⟨some 60, none, .ld 1 false (.t 59), []⟩, ⟨some
  61, none, .call 170 [.t 58, .t 60], []⟩]) .ret) .skip)) (.seq (.seq (.reg [⟨some 62, none, .mv (.t 0), []⟩, ⟨some 63, none, .nc (.t 62), []⟩, ⟨some 64, none, .fa 3 (.t 63), []⟩, ⟨some 65, none, .ld 1
  false (.t 64), []⟩, ⟨some 66, none, .mv (.t 7), []⟩, ⟨some 67, none, .bin .add (.t 66) (.c (.c (.i .i64 (.ofNat 1)))), []⟩, ⟨some 68, none, .slc 1 (.t 65) (some (.t 67)) none none, []⟩, ⟨some 69,
  none, .len true (.t 68), []⟩, ⟨some 70, none, .mv (.c (.c (.i .i64 (.ofNat 0)))), []⟩]) (.blk 2 (.loop [84, 10, 78, 9, 68, 71, 70, 69, 54, 7, 5, 45, 6, 34, 33, 30, 4, 0, 1] (.seq (.reg [⟨some 71,
  none, .bin .lss (.t 70) (.t 69), []⟩]) (.seq (.cond (.t 71) .skip (.exit 2)) (.seq (.blk 3 (.seq (.reg [⟨some 72, none, .ia 1 (.t 68) (.t 70), []⟩, ⟨some 73, none, .ld 1 false (.t 72), []⟩, ⟨some 9,
  none, .mv (.t 73), []⟩]) (.seq (.reg [⟨some 74, none, .mv (.t 9), []⟩, ⟨some 75, none, .nc (.t 74), []⟩, ⟨some 76, none, .fa 2 (.t 75), []⟩, ⟨some 77, none, .ld 1 false (.t 76), []⟩, ⟨some 78, none,
  .call 172 [.t 77], []⟩]) (.cond (.t 78) .ret .skip)))) (.reg [⟨some 79, none, .bin .add (.t 70) (.c (.c (.i .i64 (.ofNat 1)))), []⟩, ⟨some 70, none, .mv (.t 79), []⟩]))))))) (.seq (.reg [⟨some 80,
  none, .mv (.t 0), []⟩, ⟨some 81, none, .mv (.t 7), []⟩, ⟨some 82, none, .call 173 [.t 80, .t 81], []⟩, ⟨some 10, none, .mv (.t 82), []⟩]) (.seq (.seq (.reg [⟨some 83, none, .mv (.t 10), []⟩, ⟨some
  84, none, .bin .lss (.t 83) (.c (.c (.i .i64 (.ofNat 0)))), []⟩]) (.cond (.t 84) (.seq (.reg [⟨some 85, none, .mv (.t 0), []⟩, ⟨some 86, none, .mv (.t 0), []⟩, ⟨some 87, none, .nc (.t 86), []⟩, ⟨some
  88, none, .fa 3 (.t 87), []⟩, ⟨some 89, none, .ld 1 false (.t 88), []⟩, ⟨some 90, none, .len true (.t 89), []⟩, ⟨some 91, none, .mv (.t 7), []⟩, ⟨some 92, none, .bin .sub (.t 90) (.t 91), []⟩, ⟨some
  93, none, .call 67 [.t 85, .t 92], []⟩]) (.seq (.dreg [⟨some 94, none, .mv (.t 0), []⟩, ⟨some 95, none, .nc (.t 94), []⟩, ⟨some 96, none, .fa 4 (.t 95), []⟩, ⟨some 97, none, .ld 1 false (.t 96), []⟩,
  ⟨some 98, none, .fa 0 (.t 5), []⟩, ⟨some 99, none, .ld 1 false (.t 98), []⟩, ⟨some 100, none, .call 170 [.t 97, .t 99], []⟩]) .ret)) .skip)) (.dreg [⟨some 101, none, .mv (.t 0), []⟩, ⟨some 102, none,
  .mv (.t 0), []⟩, ⟨some 103, none, .nc (.t 102), []⟩, ⟨some 104, none, .fa 3 (.t 103), []⟩, ⟨some 105, none, .ld 1 false (.t 104), []⟩, ⟨some 106, none, .mv (.t 7), []⟩, ⟨some 107, none, .ia 1 (.t
  105) (.t 106), []⟩, ⟨some 108, none, .ld 1 false (.t 107), []⟩, ⟨some 109, none, .mv (.t 0), []⟩, ⟨some 110, none, .nc (.t 109), []⟩, ⟨some 111, none, .fa 3 (.t 110), []⟩, ⟨some 112, none, .ld 1
  false (.t 111), []⟩, ⟨some 113, none, .mv (.t 10), []⟩, ⟨some 114, none, .ia 1 (.t 112) (.t 113), []⟩, ⟨some 115, none, .ld 1 false (.t 114), []⟩, ⟨some 116, none, .fa 2 (.t 5), []⟩, ⟨some 117, none,
  .ld 1 false (.t 116), []⟩, ⟨some 118, none, .call 174 [.t 101, .t 108, .t 115, .t 117], []⟩]))))))))) (.reg [⟨some 119, none, .bin .add (.t 33) (.c (.c (.i .i64 (.ofNat 1)))), []⟩, ⟨some 33, none,
  .mv (.t 119), []⟩]))))))), []⟩

theorem ok152 : FnR Tryz.prog 0 152 cf152 := fnC_ok Tryz.func152 (by kernel_rfl)

def cf161 : CF := ⟨34, .seq (.reg [⟨some 4, none, .mv (.c (.c (.b false))), []⟩]) (.seq (.blk 0 (.seq (.reg [⟨some 6, none, .mv (.t 0), []⟩, ⟨some 7, none, .bin .eql (.t 6) (.c (.c (.s [104, 116, 109, 108]))), []⟩,
  ⟨some 8, none, .mv (.t 7), []⟩, ⟨some 9, some (8, false), .mv (.t 0), []⟩, ⟨some 10, some (8, false), .bin .eql (.t 9) (.c (.c (.s [116, 97, 98, 108, 101]))), []⟩, ⟨some 11, none, .pk (.t 8) (.c (.c
  (.b true))) (.t 10), []⟩, ⟨some 5, none, .mv (.t 11), []⟩]) (.cond (.t 5) (.seq (.reg [⟨some 4, none, .mv (.c (.c (.b true))), []⟩]) .ret) (.seq (.reg [⟨some 13, none, .mv (.t 1), []⟩, ⟨some 14,
  none, .bin .eql (.t 13) (.c (.c (.i .i64 (.ofNat 4)))), []⟩, ⟨some 12, none, .mv (.t 14), []⟩]) (.cond (.t 12) (.seq (.reg [⟨some 4, none, .mv (.c (.c (.b false))), []⟩]) .ret) (.seq (.seq (.reg
  [⟨some 16, none, .mv (.t 1), []⟩, ⟨some 17, none, .bin .eql (.t 16) (.c (.c (.i .i64 (.ofNat 2)))), []⟩, ⟨some 18, none, .mv (.t 17), []⟩, ⟨some 19, some (18, true), .mv (.t 0), []⟩, ⟨some 20, some
  (18, true), .bin .eql (.t 19) (.c (.c (.s [111, 108]))), []⟩, ⟨some 21, some (18, true), .mv (.t 20), []⟩, ⟨some 22, some (21, false), .mv (.t 0), []⟩, ⟨some 23, some (21, false), .bin .eql (.t 22)
  (.c (.c (.s [117, 108]))), []⟩, ⟨some 24, some (18, true), .pk (.t 21) (.c (.c (.b true))) (.t 23), []⟩, ⟨some 25, none, .pk (.t 18) (.t 24) (.c (.c (.b false))), []⟩, ⟨some 15, none, .mv (.t 25),
  []⟩]) (.cond (.t 15) .skip (.reg [⟨some 26, none, .mv (.t 1), []⟩, ⟨some 27, none, .bin .eql (.t 26) (.c (.c (.i .i64 (.ofNat 3)))), []⟩, ⟨some 28, none, .mv (.t 27), []⟩, ⟨some 29, some (28, true),
  .mv (.t 0), []⟩, ⟨some 30, some (28, true), .bin .eql (.t 29) (.c (.c (.s [98, 117, 116, 116, 111, 110]))), []⟩, ⟨some 31, none, .pk (.t 28) (.t 30) (.c (.c (.b false))), []⟩, ⟨some 15, none, .mv (.t
  31), []⟩]))) (.cond (.t 15) (.seq (.reg [⟨some 4, none, .mv (.c (.c (.b true))), []⟩]) .ret) .skip))))))) (.seq (.reg [⟨some 32, none, .mv (.t 0), []⟩, ⟨some 33, none, .call 133 [.c (.c (.s [97, 112,
  112, 108, 101, 116, 32, 99, 97, 112, 116, 105, 111, 110, 32, 116, 100, 32, 116, 104, 32, 109, 97, 114, 113, 117, 101, 101, 32, 111, 98, 106, 101, 99, 116])), .t 32], []⟩, ⟨some 4, none, .mv (.t 33),
  []⟩]) .ret)), [(4, none)]⟩

theorem ok161 : FnR Tryz.prog 0 161 cf161 := fnC_ok Tryz.func161 (by kernel_rfl)

def cf163 : CF := ⟨8, .seq (.reg [⟨some 1, none, .new 128 (.t 0), []⟩, ⟨some 2, none, .new 128 (.c (.a [.i .i64 (.ofNat 0), .s [], .sl none 0 0 0])), []⟩]) (.seq (.reg [⟨some 3, none, .fa 2 (.t 1), []⟩, ⟨some 4, none,
  .ld 1 false (.t 3), []⟩, ⟨some 5, none, .call 40 [.t 4], []⟩, ⟨some 6, none, .fa 2 (.t 1), []⟩, ⟨none, none, .st 1 (.t 6) (.t 5), []⟩]) (.seq (.reg [⟨some 7, none, .ld 3 true (.t 1), []⟩, ⟨none,
  none, .st 3 (.t 2) (.t 7), []⟩]) .ret)), [(2, some (3, true))]⟩

theorem ok163 : FnR Tryz.prog 0 163 cf163 := fnC_ok Tryz.func163 (by kernel_rfl)

def cf164 : CF := ⟨11, .seq (.reg [⟨some 3, none, .new 3 (.t 1), []⟩, ⟨some 4, none, .mv (.c (.c (.i .i64 (.ofNat 0)))), []⟩]) (.seq (.reg [⟨some 5, none, .mv (.t 0), []⟩, ⟨some 6, none, .nc (.t 5), []⟩, ⟨some 7,
  none, .fa 0 (.t 6), []⟩, ⟨some 8, none, .ld 1 false (.t 7), []⟩, ⟨some 9, none, .mkf 180 [.t 3], []⟩, ⟨some 10, none, .call 179 [.t 8, .t 9], []⟩, ⟨some 4, none, .mv (.t 10), []⟩]) .ret), [(4, none)]⟩

theorem ok164 : FnR Tryz.prog 0 164 cf164 := fnC_ok Tryz.func164 (by kernel_rfl)

def cf169 : CF := ⟨40, .seq (.reg [⟨some 4, none, .new 128 (.c (.a [.i .i64 (.ofNat 0), .s [], .sl none 0 0 0])), []⟩, ⟨some 5, none, .mv (.c (.c (.b false))), []⟩]) (.seq (.seq (.reg [⟨some 7, none, .mv (.t 0), []⟩,
  ⟨some 8, none, .nc (.t 7), []⟩, ⟨some 9, none, .fa 0 (.t 8), []⟩, ⟨some 10, none, .ld 1 false (.t 9), []⟩, ⟨some 11, none, .len true (.t 10), []⟩, ⟨some 12, none, .bin .sub (.t 11) (.c (.c (.i .i64
  (.ofNat 1)))), []⟩, ⟨some 6, none, .mv (.t 12), []⟩]) (.blk 0 (.loop [29, 16, 6, 0, 1, 4, 5] (.seq (.seq (.reg [⟨some 13, none, .mv (.t 6), []⟩, ⟨some 14, none, .mv (.t 0), []⟩, ⟨some 15, none, .call
  140 [.t 14], []⟩, ⟨some 16, none, .bin .geq (.t 13) (.t 15), []⟩]) (.cond (.t 16) .skip (.exit 0))) (.seq (.blk 1 (.seq (.reg [⟨some 19, none, .mv (.t 0), []⟩, ⟨some 20, none, .nc (.t 19), []⟩, ⟨some
  21, none, .fa 0 (.t 20), []⟩, ⟨some 22, none, .ld 1 false (.t 21), []⟩, ⟨some 23, none, .mv (.t 6), []⟩, ⟨some 24, none, .ia 4 (.t 22) (.t 23), []⟩, ⟨some 25, none, .fa 0 (.t 24), []⟩, ⟨some 26,
  none, .fa 1 (.t 25), []⟩, ⟨some 27, none, .ld 1 false (.t 26), []⟩, ⟨some 28, none, .mv (.t 1), []⟩, ⟨some 29, none, .bin .eql (.t 27) (.t 28), []⟩]) (.cond (.t 29) (.seq (.reg [⟨some 30, none, .mv
  (.t 0), []⟩, ⟨some 31, none, .nc (.t 30), []⟩, ⟨some 32, none, .fa 0 (.t 31), []⟩, ⟨some 33, none, .ld 1 false (.t 32), []⟩, ⟨some 34, none, .mv (.t 6), []⟩, ⟨some 35, none, .ia 4 (.t 33) (.t 34),
  []⟩, ⟨some 36, none, .fa 0 (.t 35), []⟩, ⟨some 37, none, .ld 3 true (.t 36), []⟩, ⟨some 38, none, .call 163 [.t 37], []⟩, ⟨none, none, .st 3 (.t 4) (.t 38), []⟩, ⟨some 5, none, .mv (.c (.c (.b
  true))), []⟩]) .ret) .skip))) (.reg [⟨some 17, none, .mv (.t 6), []⟩, ⟨some 18, none, .bin .sub (.t 17) (.c (.c (.i .i64 (.ofNat 1)))), []⟩, ⟨some 6, none, .mv (.t 18), []⟩])))))) (.seq (.reg [⟨some
  39, none, .bld [.i .i64 (.ofNat 0), .s [], .sl none 0 0 0] [], []⟩, ⟨none, none, .st 3 (.t 4) (.t 39), []⟩, ⟨some 5, none, .mv (.c (.c (.b false))), []⟩]) .ret)), [(4, some (3, true)), (5, none)]⟩

theorem ok169 : FnR Tryz.prog 0 169 cf169 := fnC_ok Tryz.func169 (by kernel_rfl)

def cf170 : CF := ⟨24, .seq (.reg [⟨some 4, none, .mv (.c (.c (.b false))), []⟩]) (.seq (.reg [⟨some 6, none, .mv (.t 0), []⟩, ⟨some 7, none, .mv (.t 1), []⟩, ⟨some 8, none, .call 164 [.t 6, .t 7], []⟩, ⟨some 5, none,
  .mv (.t 8), []⟩]) (.seq (.seq (.reg [⟨some 9, none, .mv (.t 5), []⟩, ⟨some 10, none, .bin .geq (.t 9) (.c (.c (.i .i64 (.ofNat 0)))), []⟩]) (.cond (.t 10) (.reg [⟨some 11, none, .mv (.t 0), []⟩,
  ⟨some 12, none, .mv (.t 0), []⟩, ⟨some 13, none, .nc (.t 12), []⟩, ⟨some 14, none, .fa 0 (.t 13), []⟩, ⟨some 15, none, .ld 1 false (.t 14), []⟩, ⟨some 16, none, .mv (.t 5), []⟩, ⟨some 17, none, .mv
  (.t 5), []⟩, ⟨some 18, none, .bin .add (.t 17) (.c (.c (.i .i64 (.ofNat 1)))), []⟩, ⟨some 19, none, .call 184 [.t 15, .t 16, .t 18], []⟩, ⟨some 20, none, .nc (.t 11), []⟩, ⟨some 21, none, .fa 0 (.t
  20), []⟩, ⟨none, none, .st 1 (.t 21) (.t 19), []⟩]) .skip)) (.seq (.reg [⟨some 22, none, .mv (.t 5), []⟩, ⟨some 23, none, .bin .geq (.t 22) (.c (.c (.i .i64 (.ofNat 0)))), []⟩, ⟨some 4, none, .mv (.t
  23), []⟩]) .ret))), [(4, none)]⟩

theorem ok170 : FnR Tryz.prog 0 170 cf170 := fnC_ok Tryz.func170 (by kernel_rfl)

def cf171 : CF := ⟨73, .seq (.reg [⟨some 3, none, .new 128 (.t 1), []⟩]) (.seq (.reg [⟨some 9, none, .ld 3 true (.t 3), []⟩, ⟨some 10, none, .call 185 [.t 9], []⟩, ⟨some 4, none, .new 175 (.c (.a [.s [], .s []])),
  []⟩, ⟨none, none, .st 2 (.t 4) (.t 10), []⟩]) (.seq (.reg [⟨some 11, none, .mkm, []⟩, ⟨some 5, none, .mv (.t 11), []⟩]) (.seq (.reg [⟨some 6, none, .mv (.c (.c (.i .i64 (.negSucc 0)))), []⟩]) (.seq
  (.seq (.reg [⟨some 12, none, .mv (.t 0), []⟩, ⟨some 13, none, .call 140 [.t 12], []⟩, ⟨some 7, none, .mv (.t 13), []⟩]) (.blk 0 (.loop [49, 5, 38, 6, 4, 8, 20, 7, 3, 0, 1] (.seq (.seq (.reg [⟨some
  14, none, .mv (.t 7), []⟩, ⟨some 15, none, .mv (.t 0), []⟩, ⟨some 16, none, .nc (.t 15), []⟩, ⟨some 17, none, .fa 0 (.t 16), []⟩, ⟨some 18, none, .ld 1 false (.t 17), []⟩, ⟨some 19, none, .len true
  (.t 18), []⟩, ⟨some 20, none, .bin .lss (.t 14) (.t 19), []⟩]) (.cond (.t 20) .skip (.exit 0))) (.seq (.blk 1 (.seq (.reg [⟨some 23, none, .mv (.t 0), []⟩, ⟨some 24, none, .nc (.t 23), []⟩, ⟨some 25,
  none, .fa 0 (.t 24), []⟩, ⟨some 26, none, .ld 1 false (.t 25), []⟩, ⟨some 27, none, .mv (.t 7), []⟩, ⟨some 28, none, .ia 4 (.t 26) (.t 27), []⟩, ⟨some 29, none, .fa 0 (.t 28), []⟩, ⟨some 30, none,
  .ld 3 true (.t 29), []⟩, ⟨some 31, none, .call 185 [.t 30], []⟩, ⟨some 8, none, .new 175 (.c (.a [.s [], .s []])), []⟩, ⟨none, none, .st 2 (.t 8) (.t 31), []⟩]) (.seq (.seq (.reg [⟨some 32, none, .ld
  2 true (.t 8), []⟩, ⟨some 33, none, .ld 2 true (.t 4), []⟩, ⟨some 34, none, .aeq false [.s, .s] (.t 32) (.t 33), []⟩, ⟨some 35, none, .mv (.t 34), []⟩, ⟨some 36, some (35, true), .mv (.t 6), []⟩,
  ⟨some 37, some (35, true), .bin .lss (.t 36) (.c (.c (.i .i64 (.ofNat 0)))), []⟩, ⟨some 38, none, .pk (.t 35) (.t 37) (.c (.c (.b false))), []⟩]) (.cond (.t 38) (.reg [⟨some 39, none, .mv (.t 7),
  []⟩, ⟨some 6, none, .mv (.t 39), []⟩]) .skip)) (.dreg [⟨some 40, none, .mv (.t 5), []⟩, ⟨some 41, none, .ld 2 true (.t 8), []⟩, ⟨some 42, none, .lkp [.s, .s] (.i .i64 (.ofNat 0)) (.t 40) (.t 41),
  []⟩, ⟨some 43, none, .bin .add (.t 42) (.c (.c (.i .i64 (.ofNat 1)))), []⟩, ⟨some 44, none, .men [.s, .s] (.i .i64 (.ofNat 0)) (.t 40) (.t 41), [⟨some 42, none, .lkp [.s, .s] (.i .i64 (.ofNat 0)) (.t
  40) (.t 41)⟩]⟩, ⟨some 45, none, .ext 1 (.t 44), []⟩, ⟨none, none, .est (.t 40) (.t 45) (.t 43), []⟩])))) (.reg [⟨some 21, none, .mv (.t 7), []⟩, ⟨some 22, none, .bin .add (.t 21) (.c (.c (.i .i64
  (.ofNat 1)))), []⟩, ⟨some 7, none, .mv (.t 22), []⟩])))))) (.seq (.seq (.reg [⟨some 46, none, .mv (.t 5), []⟩, ⟨some 47, none, .ld 2 true (.t 4), []⟩, ⟨some 48, none, .lkp [.s, .s] (.i .i64 (.ofNat
  0)) (.t 46) (.t 47), []⟩, ⟨some 49, none, .bin .geq (.t 48) (.c (.c (.i .i64 (.ofNat 3)))), []⟩]) (.cond (.t 49) (.reg [⟨some 50, none, .mv (.t 0), []⟩, ⟨some 51, none, .mv (.t 0), []⟩, ⟨some 52,
  none, .nc (.t 51), []⟩, ⟨some 53, none, .fa 0 (.t 52), []⟩, ⟨some 54, none, .ld 1 false (.t 53), []⟩, ⟨some 55, none, .mv (.t 6), []⟩, ⟨some 56, none, .mv (.t 6), []⟩, ⟨some 57, none, .bin .add (.t
  56) (.c (.c (.i .i64 (.ofNat 1)))), []⟩, ⟨some 58, none, .call 184 [.t 54, .t 55, .t 57], []⟩, ⟨some 59, none, .nc (.t 50), []⟩, ⟨some 60, none, .fa 0 (.t 59), []⟩, ⟨none, none, .st 1 (.t 60) (.t
  58), []⟩]) .skip)) (.dreg [⟨some 61, none, .mv (.t 0), []⟩, ⟨some 62, none, .mv (.t 0), []⟩, ⟨some 63, none, .nc (.t 62), []⟩, ⟨some 64, none, .fa 0 (.t 63), []⟩, ⟨some 65, none, .ld 1 false (.t 64),
  []⟩, ⟨some 66, none, .ld 3 true (.t 3), []⟩, ⟨some 67, none, .call 163 [.t 66], [⟨some 65, none, .ld 1 false (.t 64)⟩]⟩, ⟨some 68, none, .bld [.i .i64 (.ofNat 0), .s [], .sl none 0 0 0, .b false]
  [(0, (3, .t 67))], []⟩, ⟨some 69, none, .bsl 130 4 1 [.i .i64 (.ofNat 0), .s [], .sl none 0 0 0, .b false] [(0, (4, .t 68))], []⟩, ⟨some 70, none, .app 130 4 false (.t 65) (.t 69), []⟩, ⟨some 71,
  none, .nc (.t 61), []⟩, ⟨some 72, none, .fa 0 (.t 71), []⟩, ⟨none, none, .st 1 (.t 72) (.t 70), []⟩])))))), []⟩

theorem ok171 : FnR Tryz.prog 0 171 cf171 := fnC_ok Tryz.func171 (by kernel_rfl)

def cf172 : CF := ⟨7, .seq (.reg [⟨some 2, none, .mv (.c (.c (.b false))), []⟩]) (.seq (.reg [⟨some 3, none, .mv (.t 0), []⟩, ⟨some 4, none, .bsl 9 1 2 [.s [], .s []] [(0, (1, .c (.c (.s [])))), (1, (1, .t 3))], []⟩,
  ⟨some 5, none, .call 137 [.t 4, .c (.c (.s [])), .c (.c (.i .i64 (.ofNat 1)))], []⟩, ⟨some 6, none, .un .not (.t 5), []⟩, ⟨some 2, none, .mv (.t 6), []⟩]) .ret), [(2, none)]⟩

theorem ok172 : FnR Tryz.prog 0 172 cf172 := fnC_ok Tryz.func172 (by kernel_rfl)

def cf173 : CF := ⟨29, .seq (.reg [⟨some 4, none, .mv (.c (.c (.i .i64 (.ofNat 0)))), []⟩]) (.seq (.seq (.reg [⟨some 6, none, .mv (.t 1), []⟩, ⟨some 7, none, .bin .add (.t 6) (.c (.c (.i .i64 (.ofNat 1)))), []⟩, ⟨some
  5, none, .mv (.t 7), []⟩]) (.blk 0 (.loop [27, 14, 5, 0, 1, 4] (.seq (.seq (.reg [⟨some 8, none, .mv (.t 5), []⟩, ⟨some 9, none, .mv (.t 0), []⟩, ⟨some 10, none, .nc (.t 9), []⟩, ⟨some 11, none, .fa
  3 (.t 10), []⟩, ⟨some 12, none, .ld 1 false (.t 11), []⟩, ⟨some 13, none, .len true (.t 12), []⟩, ⟨some 14, none, .bin .lss (.t 8) (.t 13), []⟩]) (.cond (.t 14) .skip (.exit 0))) (.seq (.blk 1 (.seq
  (.reg [⟨some 17, none, .mv (.t 0), []⟩, ⟨some 18, none, .nc (.t 17), []⟩, ⟨some 19, none, .fa 3 (.t 18), []⟩, ⟨some 20, none, .ld 1 false (.t 19), []⟩, ⟨some 21, none, .mv (.t 5), []⟩, ⟨some 22,
  none, .ia 1 (.t 20) (.t 21), []⟩, ⟨some 23, none, .ld 1 false (.t 22), []⟩, ⟨some 24, none, .nc (.t 23), []⟩, ⟨some 25, none, .fa 2 (.t 24), []⟩, ⟨some 26, none, .ld 1 false (.t 25), []⟩, ⟨some 27,
  none, .call 105 [.t 26, .c (.c (.i .i64 (.ofNat 2)))], []⟩]) (.cond (.t 27) (.seq (.reg [⟨some 28, none, .mv (.t 5), []⟩, ⟨some 4, none, .mv (.t 28), []⟩]) .ret) .skip))) (.reg [⟨some 15, none, .mv
  (.t 5), []⟩, ⟨some 16, none, .bin .add (.t 15) (.c (.c (.i .i64 (.ofNat 1)))), []⟩, ⟨some 5, none, .mv (.t 16), []⟩])))))) (.seq (.reg [⟨some 4, none, .mv (.c (.c (.i .i64 (.negSucc 0)))), []⟩])
  .ret)), [(4, none)]⟩

theorem ok173 : FnR Tryz.prog 0 173 cf173 := fnC_ok Tryz.func173 (by kernel_rfl)

def cf179 : CF := ⟨19, .seq (.reg [⟨some 4, none, .mv (.c (.c (.i .i64 (.ofNat 0)))), []⟩]) (.seq (.seq (.reg [⟨some 6, none, .mv (.t 0), []⟩, ⟨some 7, none, .len true (.t 6), []⟩, ⟨some 8, none, .mv (.c (.c (.i .i64
  (.ofNat 0)))), []⟩]) (.blk 0 (.loop [16, 5, 9, 8, 7, 0, 1, 4] (.seq (.reg [⟨some 9, none, .bin .lss (.t 8) (.t 7), []⟩]) (.seq (.cond (.t 9) .skip (.exit 0)) (.seq (.blk 1 (.seq (.reg [⟨some 10,
  none, .mv (.t 8), []⟩, ⟨some 5, none, .mv (.t 10), []⟩]) (.seq (.reg [⟨some 11, none, .mv (.t 1), []⟩, ⟨some 12, none, .mv (.t 0), []⟩, ⟨some 13, none, .mv (.t 5), []⟩, ⟨some 14, none, .ia 4 (.t 12)
  (.t 13), []⟩, ⟨some 15, none, .ld 4 true (.t 14), []⟩, ⟨some 16, none, .callv (.t 11) [.t 15], []⟩]) (.cond (.t 16) (.seq (.reg [⟨some 17, none, .mv (.t 5), []⟩, ⟨some 4, none, .mv (.t 17), []⟩])
  .ret) .skip)))) (.reg [⟨some 18, none, .bin .add (.t 8) (.c (.c (.i .i64 (.ofNat 1)))), []⟩, ⟨some 8, none, .mv (.t 18), []⟩]))))))) (.seq (.reg [⟨some 4, none, .mv (.c (.c (.i .i64 (.negSucc 0)))),
  []⟩]) .ret)), [(4, none)]⟩

theorem ok179 : FnR Tryz.prog 0 179 cf179 := fnC_ok Tryz.func179 (by kernel_rfl)

def cf180 : CF := ⟨14, .seq (.reg [⟨some 2, none, .new 130 (.t 0), []⟩, ⟨some 3, none, .mv (.c (.c (.b false))), []⟩]) (.seq (.reg [⟨some 4, none, .fa 3 (.t 2), []⟩, ⟨some 5, none, .ld 1 false (.t 4), []⟩, ⟨some 6,
  none, .un .not (.t 5), []⟩, ⟨some 7, none, .mv (.t 6), []⟩, ⟨some 8, some (7, true), .fa 0 (.t 2), []⟩, ⟨some 9, some (7, true), .fa 0 (.t 8), []⟩, ⟨some 10, some (7, true), .ld 1 false (.t 9), []⟩,
  ⟨some 11, some (7, true), .ld 1 false (.t 1), []⟩, ⟨some 12, some (7, true), .bin .eql (.t 10) (.t 11), []⟩, ⟨some 13, none, .pk (.t 7) (.t 12) (.c (.c (.b false))), []⟩, ⟨some 3, none, .mv (.t 13),
  []⟩]) .ret), [(3, none)]⟩

theorem ok180 : FnR Tryz.prog 0 180 cf180 := fnC_ok Tryz.func180 (by kernel_rfl)

def cf184 : CF := ⟨33, .seq (.reg [⟨some 6, none, .mv (.c (.c (.sl none 0 0 0))), []⟩]) (.seq (.reg [⟨some 8, none, .mv (.t 0), []⟩, ⟨some 9, none, .mv (.t 1), []⟩, ⟨some 10, none, .mv (.t 2), []⟩, ⟨some 11, none, .mv
  (.t 0), []⟩, ⟨some 12, none, .len true (.t 11), []⟩, ⟨some 13, none, .slc 4 (.t 8) (some (.t 9)) (some (.t 10)) (some (.t 12)), []⟩]) (.seq (.seq (.reg [⟨some 14, none, .mv (.t 1), []⟩, ⟨some 15,
  none, .mv (.t 2), []⟩, ⟨some 16, none, .bin .eql (.t 14) (.t 15), []⟩]) (.cond (.t 16) (.seq (.reg [⟨some 17, none, .mv (.t 0), []⟩, ⟨some 6, none, .mv (.t 17), []⟩]) .ret) .skip)) (.seq (.reg [⟨some
  18, none, .mv (.t 0), []⟩, ⟨some 19, none, .len true (.t 18), []⟩, ⟨some 7, none, .mv (.t 19), []⟩]) (.seq (.dreg [⟨some 20, none, .mv (.t 0), []⟩, ⟨some 21, none, .mv (.t 1), []⟩, ⟨some 22, none,
  .slc 4 (.t 20) none (some (.t 21)) none, []⟩, ⟨some 23, none, .mv (.t 0), []⟩, ⟨some 24, none, .mv (.t 2), []⟩, ⟨some 25, none, .slc 4 (.t 23) (some (.t 24)) none none, []⟩, ⟨some 26, none, .app 130
  4 false (.t 22) (.t 25), []⟩, ⟨some 0, none, .mv (.t 26), []⟩]) (.seq (.reg [⟨some 27, none, .mv (.t 0), []⟩, ⟨some 28, none, .mv (.t 0), []⟩, ⟨some 29, none, .len true (.t 28), []⟩, ⟨some 30, none,
  .mv (.t 7), []⟩, ⟨some 31, none, .slc 4 (.t 27) (some (.t 29)) (some (.t 30)) none, []⟩, ⟨none, none, .clr [.i .i64 (.ofNat 0), .s [], .sl none 0 0 0, .b false] (.t 31), []⟩]) (.seq (.reg [⟨some 32,
  none, .mv (.t 0), []⟩, ⟨some 6, none, .mv (.t 32), []⟩]) .ret)))))), [(6, none)]⟩

theorem ok184 : FnR Tryz.prog 0 184 cf184 := fnC_ok Tryz.func184 (by kernel_rfl)

def cf185 : CF := ⟨36, .seq (.reg [⟨some 1, none, .new 128 (.t 0), []⟩, ⟨some 2, none, .new 175 (.c (.a [.s [], .s []])), []⟩]) (.seq (.reg [⟨some 3, none, .new 188 (.c (.a [.p none, .sl none 0 0 0])), []⟩]) (.seq
  (.seq (.reg [⟨some 8, none, .fa 2 (.t 1), []⟩, ⟨some 9, none, .ld 1 false (.t 8), []⟩, ⟨some 10, none, .len true (.t 9), []⟩, ⟨some 11, none, .mv (.c (.c (.i .i64 (.ofNat 0)))), []⟩]) (.blk 0 (.loop
  [3, 7, 19, 21, 20, 5, 9, 12, 11, 10, 1, 0, 2] (.seq (.reg [⟨some 12, none, .bin .lss (.t 11) (.t 10), []⟩]) (.seq (.cond (.t 12) .skip (.exit 0)) (.seq (.blk 1 (.seq (.reg [⟨some 13, none, .ia 2 (.t
  9) (.t 11), []⟩, ⟨some 14, none, .ld 2 true (.t 13), []⟩, ⟨some 5, none, .new 84 (.c (.a [.s [], .s []])), []⟩, ⟨none, none, .st 2 (.t 5) (.t 14), []⟩]) (.seq (.reg [⟨some 15, none, .fa 0 (.t 5),
  []⟩, ⟨some 16, none, .ld 1 false (.t 15), []⟩, ⟨some 17, none, .fa 1 (.t 5), []⟩, ⟨some 18, none, .ld 1 false (.t 17), []⟩, ⟨some 19, none, .bld [.s [], .s []] [(0, (1, .t 16)), (1, (1, .t 18))],
  []⟩, ⟨some 20, none, .mv (.c (.c (.i .i64 (.ofNat 0)))), []⟩]) (.blk 2 (.loop [3, 7, 19, 21, 20, 5, 9, 12, 11, 10, 1, 0, 2] (.seq (.reg [⟨some 21, none, .bin .lss (.t 20) (.c (.c (.i .i64 (.ofNat
  2)))), []⟩]) (.seq (.cond (.t 21) .skip (.exit 2)) (.seq (.blk 3 (.seq (.reg [⟨some 22, none, .ix 2 1 false (.t 19) (.t 20), []⟩, ⟨some 7, none, .mv (.t 22), []⟩]) (.seq (.reg [⟨some 23, none, .mv
  (.t 7), []⟩, ⟨some 24, none, .len false (.t 23), []⟩, ⟨some 25, none, .call 195 [.t 24], []⟩, ⟨some 26, none, .call 194 [.t 3, .t 25], []⟩]) (.seq (.reg [⟨some 27, none, .call 196 [.t 3, .c (.c (.i
  .u8 (.ofNat 58)))], []⟩]) (.reg [⟨some 28, none, .mv (.t 7), []⟩, ⟨some 29, none, .call 194 [.t 3, .t 28], []⟩]))))) (.reg [⟨some 30, none, .bin .add (.t 20) (.c (.c (.i .i64 (.ofNat 1)))), []⟩,
  ⟨some 20, none, .mv (.t 30), []⟩]))))))))) (.reg [⟨some 31, none, .bin .add (.t 11) (.c (.c (.i .i64 (.ofNat 1)))), []⟩, ⟨some 11, none, .mv (.t 31), []⟩]))))))) (.seq (.dreg [⟨some 32, none, .fa 1
  (.t 1), []⟩, ⟨some 33, none, .ld 1 false (.t 32), []⟩, ⟨some 34, none, .call 197 [.t 3], [⟨some 33, none, .ld 1 false (.t 32)⟩]⟩, ⟨some 35, none, .bld [.s [], .s []] [(0, (1, .t 33)), (1, (1, .t
  34))], []⟩, ⟨none, none, .st 2 (.t 2) (.t 35), []⟩]) .ret))), [(2, some (2, true))]⟩

theorem ok185 : FnR Tryz.prog 0 185 cf185 := fnC_ok Tryz.func185 (by kernel_rfl)

def cf197 : CF := ⟨14, .seq (.reg [⟨some 2, none, .mv (.c (.c (.s []))), []⟩]) (.seq (.dreg [⟨some 3, none, .mv (.t 0), []⟩, ⟨some 4, none, .nc (.t 3), []⟩, ⟨some 5, none, .fa 1 (.t 4), []⟩, ⟨some 6, none, .ld 1 false
  (.t 5), []⟩, ⟨some 7, none, .usd (.t 6), []⟩, ⟨some 8, none, .mv (.t 0), []⟩, ⟨some 9, none, .nc (.t 8), []⟩, ⟨some 10, none, .fa 1 (.t 9), []⟩, ⟨some 11, none, .ld 1 false (.t 10), []⟩, ⟨some 12,
  none, .len true (.t 11), []⟩, ⟨some 13, none, .ustr (.t 7) (.t 12), []⟩, ⟨some 2, none, .mv (.t 13), []⟩]) .ret), [(2, none)]⟩

theorem ok197 : FnR Tryz.prog 0 197 cf197 := fnC_ok Tryz.func197 (by kernel_rfl)

end

end Ev
end

section
namespace Ev

set_option autoImplicit false

noncomputable section

def ftb : FT := (.node 96 cf96 (.node 51 cf51 (.node 28 cf28 (.node 21 cf21 (.node 12 cf12 (.node 7 cf7 (.node 5 cf5 .nil .nil) (.node 8 cf8 .nil .nil)) (.node 15 cf15 (.node 13 cf13 .nil .nil) (.node 16 cf16 .nil
  .nil))) (.node 25 cf25 (.node 23 cf23 (.node 22 cf22 .nil .nil) (.node 24 cf24 .nil .nil)) (.node 27 cf27 (.node 26 cf26 .nil .nil) .nil))) (.node 40 cf40 (.node 36 cf36 (.node 34 cf34 (.node 33 cf33
  .nil .nil) (.node 35 cf35 .nil .nil)) (.node 39 cf39 (.node 38 cf38 .nil .nil) .nil)) (.node 45 cf45 (.node 43 cf43 (.node 42 cf42 .nil .nil) (.node 44 cf44 .nil .nil)) (.node 50 cf50 (.node 46 cf46
  .nil .nil) .nil)))) (.node 70 cf70 (.node 63 cf63 (.node 55 cf55 (.node 53 cf53 (.node 52 cf52 .nil .nil) (.node 54 cf54 .nil .nil)) (.node 57 cf57 (.node 56 cf56 .nil .nil) (.node 62 cf62 .nil
  .nil))) (.node 67 cf67 (.node 65 cf65 (.node 64 cf64 .nil .nil) (.node 66 cf66 .nil .nil)) (.node 69 cf69 (.node 68 cf68 .nil .nil) .nil))) (.node 80 cf80 (.node 77 cf77 (.node 72 cf72 (.node 71 cf71
  .nil .nil) (.node 74 cf74 .nil .nil)) (.node 79 cf79 (.node 78 cf78 .nil .nil) .nil)) (.node 87 cf87 (.node 84 cf84 (.node 81 cf81 .nil .nil) (.node 86 cf86 .nil .nil)) (.node 95 cf95 (.node 88 cf88
  .nil .nil) .nil))))) (.node 134 cf134 (.node 114 cf114 (.node 106 cf106 (.node 101 cf101 (.node 99 cf99 (.node 97 cf97 .nil .nil) (.node 100 cf100 .nil .nil)) (.node 104 cf104 (.node 103 cf103 .nil
  .nil) (.node 105 cf105 .nil .nil))) (.node 110 cf110 (.node 108 cf108 (.node 107 cf107 .nil .nil) (.node 109 cf109 .nil .nil)) (.node 113 cf113 (.node 111 cf111 .nil .nil) .nil))) (.node 121 cf121
  (.node 118 cf118 (.node 116 cf116 (.node 115 cf115 .nil .nil) (.node 117 cf117 .nil .nil)) (.node 120 cf120 (.node 119 cf119 .nil .nil) .nil)) (.node 131 cf131 (.node 128 cf128 (.node 122 cf122 .nil
  .nil) (.node 130 cf130 .nil .nil)) (.node 133 cf133 (.node 132 cf132 .nil .nil) .nil)))) (.node 152 cf152 (.node 143 cf143 (.node 139 cf139 (.node 136 cf136 (.node 135 cf135 .nil .nil) (.node 137
  cf137 .nil .nil)) (.node 141 cf141 (.node 140 cf140 .nil .nil) (.node 142 cf142 .nil .nil))) (.node 148 cf148 (.node 145 cf145 (.node 144 cf144 .nil .nil) (.node 147 cf147 .nil .nil)) (.node 150
  cf150 (.node 149 cf149 .nil .nil) .nil))) (.node 172 cf172 (.node 169 cf169 (.node 163 cf163 (.node 161 cf161 .nil .nil) (.node 164 cf164 .nil .nil)) (.node 171 cf171 (.node 170 cf170 .nil .nil)
  .nil)) (.node 184 cf184 (.node 179 cf179 (.node 173 cf173 .nil .nil) (.node 180 cf180 .nil .nil)) (.node 197 cf197 (.node 185 cf185 .nil .nil) .nil))))))

theorem ftb_ok : ftb.Ok (FnR Tryz.prog 0) := (.node ok96 (.node ok51 (.node ok28 (.node ok21 (.node ok12 (.node ok7 (.node ok5 .nil .nil) (.node ok8 .nil .nil)) (.node ok15 (.node ok13 .nil .nil) (.node ok16 .nil .nil))) (.node ok25 (.node ok23
  (.node ok22 .nil .nil) (.node ok24 .nil .nil)) (.node ok27 (.node ok26 .nil .nil) .nil))) (.node ok40 (.node ok36 (.node ok34 (.node ok33 .nil .nil) (.node ok35 .nil .nil)) (.node ok39 (.node ok38
  .nil .nil) .nil)) (.node ok45 (.node ok43 (.node ok42 .nil .nil) (.node ok44 .nil .nil)) (.node ok50 (.node ok46 .nil .nil) .nil)))) (.node ok70 (.node ok63 (.node ok55 (.node ok53 (.node ok52 .nil
  .nil) (.node ok54 .nil .nil)) (.node ok57 (.node ok56 .nil .nil) (.node ok62 .nil .nil))) (.node ok67 (.node ok65 (.node ok64 .nil .nil) (.node ok66 .nil .nil)) (.node ok69 (.node ok68 .nil .nil)
  .nil))) (.node ok80 (.node ok77 (.node ok72 (.node ok71 .nil .nil) (.node ok74 .nil .nil)) (.node ok79 (.node ok78 .nil .nil) .nil)) (.node ok87 (.node ok84 (.node ok81 .nil .nil) (.node ok86 .nil
  .nil)) (.node ok95 (.node ok88 .nil .nil) .nil))))) (.node ok134 (.node ok114 (.node ok106 (.node ok101 (.node ok99 (.node ok97 .nil .nil) (.node ok100 .nil .nil)) (.node ok104 (.node ok103 .nil
  .nil) (.node ok105 .nil .nil))) (.node ok110 (.node ok108 (.node ok107 .nil .nil) (.node ok109 .nil .nil)) (.node ok113 (.node ok111 .nil .nil) .nil))) (.node ok121 (.node ok118 (.node ok116 (.node
  ok115 .nil .nil) (.node ok117 .nil .nil)) (.node ok120 (.node ok119 .nil .nil) .nil)) (.node ok131 (.node ok128 (.node ok122 .nil .nil) (.node ok130 .nil .nil)) (.node ok133 (.node ok132 .nil .nil)
  .nil)))) (.node ok152 (.node ok143 (.node ok139 (.node ok136 (.node ok135 .nil .nil) (.node ok137 .nil .nil)) (.node ok141 (.node ok140 .nil .nil) (.node ok142 .nil .nil))) (.node ok148 (.node ok145
  (.node ok144 .nil .nil) (.node ok147 .nil .nil)) (.node ok150 (.node ok149 .nil .nil) .nil))) (.node ok172 (.node ok169 (.node ok163 (.node ok161 .nil .nil) (.node ok164 .nil .nil)) (.node ok171
  (.node ok170 .nil .nil) .nil)) (.node ok184 (.node ok179 (.node ok173 .nil .nil) (.node ok180 .nil .nil)) (.node ok197 (.node ok185 .nil .nil) .nil))))))

end

end Ev
end

section
namespace Ev

set_option autoImplicit false

open Go.RowKit

noncomputable section

theorem awake_run : good (runT ftb 15 [] H00) = true := by kernel_rfl

theorem awakeLaw {w : World} (hw : WP w) : Calls Tryz.prog 15 #[] w (Ret fun v w' => Ext w w' ∧ v = .bool true) := closed_true ftb_ok hw .nil awake_run

def spA (f : Nat) (vs : List AV) (H : AH) : Option (AV × AH) := cond (Nat.beq f 15) (match vs with
  | [] => some (.c (.b true), H)
  | _ => none) (spP f vs H)

def ftA (f : Nat) : Option CF := cond (Nat.beq f 15) none (ftb.find f)

def runA : Run := runF spA ftA deep

theorem spA_ok : RunOk Tryz.prog 0 spA := by
  intro f vs H H' v h
  replace h : cond (Nat.beq f 15) (match (generalizing := false) vs with
    | [] => some (AV.c (.b true), H)
    | _ => none) (spP f vs H) = some (v, H') := h
  cases hb : Nat.beq f 15 with
  | false => rw [hb] at h; exact spP_ok h
  | true =>
    rw [hb] at h
    have hf := Nat.eq_of_beq_eq_true hb
    subst hf
    replace h : (match (generalizing := false) vs with
      | [] => some (AV.c (.b true), H)
      | _ => none) = some (v, H') := h
    split at h
    · injection h with h; injection h with h1 h2; subst h1; subst h2
      refine ⟨⟨_, Tryz.func15, by decide +kernel, rfl⟩, fun {E w0 w args} hG hH hA => ⟨Keeps.refl _ _, ?_⟩⟩
      cases hA
      refine (awakeLaw (WP.ext hH.wp hH.ch)).mono fun e w' hr => ?_
      cases e with
      | returned v =>
        obtain ⟨hE, rfl⟩ := hr
        exact ⟨E, En.le_refl _, fun _ _ h => .inl h, hH.ext hE, rfl⟩
      | _ => exact hr.elim
    · cases h

theorem ftA_ok {f : Nat} {cf : CF} (h : ftA f = some cf) : FnR Tryz.prog 0 f cf := by
  unfold ftA at h
  cases hb : Nat.beq f 15 with
  | true => rw [hb] at h; cases h
  | false => rw [hb] at h; exact FT.find_ok ftb_ok h

theorem runA_ok : RunOk Tryz.prog 0 runA := run_sound (fun _ _ h => ftA_ok h) spA_ok deep

theorem closed_trueA {f : FuncId} {vs : List AV} {args : List Value} {w : World} (hw : WP w) (hvs : All2 (AV.v fun _ => none) vs args) (h : good (runA f vs H00) = true) : Calls Tryz.prog f args.toArray w (Ret fun v w' => Ext w w' ∧ v = .bool true) := by
  unfold good at h
  split at h
  · rename_i H' hr
    obtain ⟨_, hb⟩ := runA_ok hr
    refine (hb (fun g hg => absurd hg (Nat.not_lt_zero g)) (HR.start hw) hvs).2.mono fun e w' hx => ?_
    cases e with
    | returned v =>
      obtain ⟨E', _, _, h3, h4⟩ := hx
      exact ⟨h3.ch, h4⟩
    | _ => exact hx.elim
  · cases h

end

end Ev
end

section
namespace Ev

set_option autoImplicit false

theorem adopts_0_0 : good (runA 7 [.c (.qu 6 0), .c (.qu 5 0)] H00) = true := by kernel_rfl

theorem adopts_0_1 : good (runA 7 [.c (.qu 6 0), .c (.qu 5 1)] H00) = true := by kernel_rfl

theorem adopts_0_2 : good (runA 7 [.c (.qu 6 0), .c (.qu 5 2)] H00) = true := by kernel_rfl

theorem adopts_0_3 : good (runA 7 [.c (.qu 6 0), .c (.qu 5 3)] H00) = true := by kernel_rfl

theorem adopts_0_4 : good (runA 7 [.c (.qu 6 0), .c (.qu 5 4)] H00) = true := by kernel_rfl

theorem adopts_1_0 : good (runA 7 [.c (.qu 6 1), .c (.qu 5 0)] H00) = true := by kernel_rfl

theorem adopts_1_1 : good (runA 7 [.c (.qu 6 1), .c (.qu 5 1)] H00) = true := by kernel_rfl

theorem adopts_1_2 : good (runA 7 [.c (.qu 6 1), .c (.qu 5 2)] H00) = true := by kernel_rfl

end Ev
end

section
namespace Ev

set_option autoImplicit false

theorem adopts_1_3 : good (runA 7 [.c (.qu 6 1), .c (.qu 5 3)] H00) = true := by kernel_rfl

theorem adopts_1_4 : good (runA 7 [.c (.qu 6 1), .c (.qu 5 4)] H00) = true := by kernel_rfl

theorem adopts_2_0 : good (runA 7 [.c (.qu 6 2), .c (.qu 5 0)] H00) = true := by kernel_rfl

theorem adopts_2_1 : good (runA 7 [.c (.qu 6 2), .c (.qu 5 1)] H00) = true := by kernel_rfl

theorem adopts_2_2 : good (runA 7 [.c (.qu 6 2), .c (.qu 5 2)] H00) = true := by kernel_rfl

theorem adopts_2_3 : good (runA 7 [.c (.qu 6 2), .c (.qu 5 3)] H00) = true := by kernel_rfl

theorem adopts_2_4 : good (runA 7 [.c (.qu 6 2), .c (.qu 5 4)] H00) = true := by kernel_rfl

theorem adopts_3_0 : good (runA 7 [.c (.qu 6 3), .c (.qu 5 0)] H00) = true := by kernel_rfl

end Ev
end

section
namespace Ev

set_option autoImplicit false

theorem adopts_3_1 : good (runA 7 [.c (.qu 6 3), .c (.qu 5 1)] H00) = true := by kernel_rfl

theorem adopts_3_2 : good (runA 7 [.c (.qu 6 3), .c (.qu 5 2)] H00) = true := by kernel_rfl

theorem adopts_3_3 : good (runA 7 [.c (.qu 6 3), .c (.qu 5 3)] H00) = true := by kernel_rfl

theorem adopts_3_4 : good (runA 7 [.c (.qu 6 3), .c (.qu 5 4)] H00) = true := by kernel_rfl

theorem adopts_4_0 : good (runA 7 [.c (.qu 6 4), .c (.qu 5 0)] H00) = true := by kernel_rfl

theorem adopts_4_1 : good (runA 7 [.c (.qu 6 4), .c (.qu 5 1)] H00) = true := by kernel_rfl

theorem adopts_4_2 : good (runA 7 [.c (.qu 6 4), .c (.qu 5 2)] H00) = true := by kernel_rfl

theorem adopts_4_3 : good (runA 7 [.c (.qu 6 4), .c (.qu 5 3)] H00) = true := by kernel_rfl

end Ev
end

section
namespace Ev

set_option autoImplicit false

theorem adopts_4_4 : good (runA 7 [.c (.qu 6 4), .c (.qu 5 4)] H00) = true := by kernel_rfl

theorem adopts_5_0 : good (runA 7 [.c (.qu 6 5), .c (.qu 5 0)] H00) = true := by kernel_rfl

theorem adopts_5_1 : good (runA 7 [.c (.qu 6 5), .c (.qu 5 1)] H00) = true := by kernel_rfl

theorem adopts_5_2 : good (runA 7 [.c (.qu 6 5), .c (.qu 5 2)] H00) = true := by kernel_rfl

theorem adopts_5_3 : good (runA 7 [.c (.qu 6 5), .c (.qu 5 3)] H00) = true := by kernel_rfl

theorem adopts_5_4 : good (runA 7 [.c (.qu 6 5), .c (.qu 5 4)] H00) = true := by kernel_rfl

end Ev
end

section
namespace Ev

set_option autoImplicit false

open Go.RowKit

theorem adopts_run : ∀ p q : Nat, p < 6 → q < 5 → good (runA 7 [.c (.qu 6 p), .c (.qu 5 q)] H00) = true
  | 0, 0, _, _ => adopts_0_0
  | 0, 1, _, _ => adopts_0_1
  | 0, 2, _, _ => adopts_0_2
  | 0, 3, _, _ => adopts_0_3
  | 0, 4, _, _ => adopts_0_4
  | 1, 0, _, _ => adopts_1_0
  | 1, 1, _, _ => adopts_1_1
  | 1, 2, _, _ => adopts_1_2
  | 1, 3, _, _ => adopts_1_3
  | 1, 4, _, _ => adopts_1_4
  | 2, 0, _, _ => adopts_2_0
  | 2, 1, _, _ => adopts_2_1
  | 2, 2, _, _ => adopts_2_2
  | 2, 3, _, _ => adopts_2_3
  | 2, 4, _, _ => adopts_2_4
  | 3, 0, _, _ => adopts_3_0
  | 3, 1, _, _ => adopts_3_1
  | 3, 2, _, _ => adopts_3_2
  | 3, 3, _, _ => adopts_3_3
  | 3, 4, _, _ => adopts_3_4
  | 4, 0, _, _ => adopts_4_0
  | 4, 1, _, _ => adopts_4_1
  | 4, 2, _, _ => adopts_4_2
  | 4, 3, _, _ => adopts_4_3
  | 4, 4, _, _ => adopts_4_4
  | 5, 0, _, _ => adopts_5_0
  | 5, 1, _, _ => adopts_5_1
  | 5, 2, _, _ => adopts_5_2
  | 5, 3, _, _ => adopts_5_3
  | 5, 4, _, _ => adopts_5_4

theorem buildAdoptsLaw {w : World} (hw : WP w) (x y : Int) : Calls Tryz.prog 7 #[.int .i64 x, .int .i64 y] w (Ret fun v w' => Ext w w' ∧ v = .bool true) := by
  have h1 := Int.emod_nonneg x (show (6 : Int) ≠ 0 by decide)
  have h2 := Int.emod_lt_of_pos x (show (0 : Int) < 6 by decide)
  have h3 := Int.emod_nonneg y (show (5 : Int) ≠ 0 by decide)
  have h4 := Int.emod_lt_of_pos y (show (0 : Int) < 5 by decide)
  exact closed_trueA (vs := [.c (.qu 6 (x % 6).toNat), .c (.qu 5 (y % 5).toNat)]) (args := [.int .i64 x, .int .i64 y]) hw (.cons ⟨x, rfl, by show x % 6 = _; omega⟩ (.cons ⟨y, rfl, by show y % 5 = _; omega⟩ .nil)) (adopts_run (x % 6).toNat (y % 5).toNat (by omega) (by omega))

end Ev
end

section
open Go.RowKit

theorem wp_of_laid {W : World} (h : laidMetH Tryz.prog Rows.buildButtonsRow.laid W) : Ev.WP W := by
  rw [MakeChecks.laidMetH_plain _ _ _ (by kernel_rfl)] at h
  have e : (Rows.laid_strings_asciiSpace : DataW Unit) = Lib.tabData .u8 Lib.asciiSpaceTab := by kernel_rfl
  have h2 := h.filter fun x => x.1 == "strings.asciiSpace"
  have h3 : laidMet Tryz.prog [("strings.asciiSpace", Rows.laid_strings_asciiSpace)] W := h2
  rw [e] at h3
  exact Lib.tabIs_of_head (rest := []) (g := 0) (t := 165) (e := 5) (n := 256) (by kernel_rfl) (by kernel_rfl) Tryz.underlying165 Tryz.underlying5 (by kernel_rfl) (by kernel_rfl) h3
end

section
open Go.RowKit Go.ChangeShapes Go.WideShapes Go.ChangeAt

theorem Ret.out {R : Value → World → Prop} {e : Ending} {w : World} (h : Ret R e w) : ∃ v, e = .returned v ∧ R v w := by
  cases e with
  | returned v => exact ⟨v, rfl, h⟩
  | _ => exact h.elim

theorem ownKnob0 : ownKnob Tryz.prog.godebug = none := by kernel_rfl

theorem laidOut0 : laidOutB Tryz.prog = true := by kernel_rfl

theorem trodAll_ext {H : Type} {enc : TypeId × Value → H} {P : Program} (hl : laidOutB P = true) {W W' : World} (hE : Ext W W') : ∀ {ts : List TypeId} {vs : List Value} {ds : List (DataW H)} {ps : List MemPlace},
    (∀ t ∈ ts, P.readableRec t = true ∧ t < P.types.size) → DataW.TrodAll enc P W 0 (fun _ => true) true ts vs ds ps → DataW.TrodAll enc P W' 0 (fun b => decide (b < W.heap.size)) true ts vs ds ps
  | [], vs, ds, ps, _, h => by obtain ⟨rfl, rfl, rfl⟩ := trodAll_nil h; exact rfl
  | t :: ts, vs, ds, ps, ht, h => by
    obtain ⟨v, vs', d, ds', p, q, rfl, rfl, rfl, h1, h2⟩ := trodAll_cons h
    have lt0 : ∀ x ∈ p, x.block < W.heap.size := by obtain ⟨m, hm⟩ := h1; exact DataW.trod_lt m _ _ _ hm
    exact trodAll_cons_mk (Below.trod hl (ht t (by simp)).1 (ht t (by simp)).2 h1 hE.below lt0) (trodAll_ext hl hE (fun u hu => ht u (by simp [hu])) h2)

theorem post_ext {H : Type} {enc : TypeId × Value → H} {P : Program} {f : Func} {s : ChangeSpec} {W W' : World} {args : Array Value} {ds gs : List (DataW H)} {before : List MemPlace} {tb : TypeId}
    (hW : DataW.Whole enc P f.params.toList s.vars false W args.toList ds gs before) (hs : s.vars = []) (hr : f.resultTypes = #[tb]) (hb : P.underlying tb = some .bool)
    (hds : s.fn H (ds ++ gs) = { results := [.lit (.bool true)], args := ds }) (hl : laidOutB P = true) (ht : ∀ t ∈ f.params.toList, P.readableRec t = true ∧ t < P.types.size) (hE : Ext W W') :
    s.post enc P f false true false false W args (.bool true) W' := by
  have hW' := hW
  obtain ⟨p, q, hA, hV, rfl, hfz, hnd⟩ := hW
  refine ⟨ds, gs, _, [], p, [], hW', ?_, ?_, ?_, hE.below.frame _, fun h => by cases h⟩
  · rw [hds, hr]; exact trodAll_mk1 (shut_bool hb _)
  · rw [hds]; exact trodAll_ext hl hE ht hA
  · rw [hds, hs]; exact rfl
end


end Go.Proofs.YtmmikhhklifjhaaGreatDoor
