/-
  What the proof of the statement leans on: texts one behind the other.
-/
import Derived.Test.YtmmikhhklifjhaaGreatDoorQBuildTables4
import Derived.Test.YtmmikhhklifjhaaGreatDoorQBuildTables0
import Derived.Test.YtmmikhhklifjhaaGreatDoorRows
import Derived.Test.YtmmikhhklifjhaaGreatDoorQBuildTables1
import Derived.MakeChecks
import Derived.Lib.LaidTab
import Derived.LaidSub
import Derived.WalkKit
import Derived.ProofKit
import Derived.OpenShut
import Derived.JoinedCond
import Derived.Below
import Derived.Carry
import Derived.ChangeSlices
import Derived.ChangeMaps5
namespace Go.Proofs.YtmmikhhklifjhaaGreatDoor
section
namespace Ev

set_option autoImplicit false

noncomputable section

def cf120 : CF := ⟨186, 2, .seq (.reg [⟨some ⟨.a, .d⟩, none, .new 56 (.t ⟨.a, .b⟩), []⟩, ⟨some ⟨.a, .e⟩, none, .mv (.c (.c (.b false))), []⟩]) (.seq (.reg [⟨some ⟨.a, .g⟩, none, .fa 1 (.t ⟨.a, .d⟩), []⟩, ⟨some ⟨.a,
  .h⟩, none, .ld 1 false (.t ⟨.a, .g⟩), []⟩, ⟨some ⟨.a, .f⟩, none, .mv (.t ⟨.a, .h⟩), []⟩]) (.seq (.blk 0 (.seq (.reg [⟨some ⟨.a, .n⟩, none, .bin .eql (.t ⟨.a, .f⟩) (.c (.c (.s [104, 116, 109, 108]))),
  []⟩, ⟨some ⟨.a, .l⟩, none, .mv (.t ⟨.a, .n⟩), []⟩]) (.cond (.t ⟨.a, .l⟩) (.seq (.seq (.reg [⟨some ⟨.a, .p⟩, none, .nc (.t ⟨.a, .a⟩), []⟩, ⟨some ⟨.b, .a⟩, none, .fa 3 (.t ⟨.a, .p⟩), []⟩, ⟨some ⟨.b,
  .b⟩, none, .ld 1 false (.t ⟨.b, .a⟩), []⟩, ⟨some ⟨.b, .c⟩, none, .len true (.t ⟨.b, .b⟩), []⟩, ⟨some ⟨.b, .d⟩, none, .bin .gtr (.t ⟨.b, .c⟩) (.c (.c (.i .i64 (.ofNat 0)))), []⟩]) (.cond (.t ⟨.b, .d⟩)
  (.dreg [⟨some ⟨.b, .e⟩, none, .mv (.t ⟨.a, .a⟩), []⟩, ⟨some ⟨.b, .f⟩, none, .nc (.t ⟨.b, .e⟩), []⟩, ⟨some ⟨.b, .g⟩, none, .fa 3 (.t ⟨.b, .f⟩), []⟩, ⟨some ⟨.b, .h⟩, none, .ld 1 false (.t ⟨.b, .g⟩),
  []⟩, ⟨some ⟨.b, .i⟩, none, .ia 1 (.t ⟨.b, .h⟩) (.c (.c (.i .i64 (.ofNat 0)))), []⟩, ⟨some ⟨.b, .j⟩, none, .ld 1 false (.t ⟨.b, .i⟩), []⟩, ⟨some ⟨.b, .k⟩, none, .fa 3 (.t ⟨.a, .d⟩), []⟩, ⟨some ⟨.b,
  .l⟩, none, .ld 1 false (.t ⟨.b, .k⟩), []⟩, ⟨some ⟨.b, .m⟩, none, .call 146 [.t ⟨.b, .j⟩, .t ⟨.b, .l⟩], []⟩]) .skip)) (.seq (.reg [⟨some ⟨.a, .e⟩, none, .mv (.c (.c (.b false))), []⟩]) .ret)) (.seq
  (.reg [⟨some ⟨.b, .p⟩, none, .bin .eql (.t ⟨.a, .f⟩) (.c (.c (.s [98, 111, 100, 121]))), []⟩, ⟨some ⟨.b, .n⟩, none, .mv (.t ⟨.b, .p⟩), []⟩]) (.cond (.t ⟨.b, .n⟩) (.seq (.seq (.reg [⟨some ⟨.c, .b⟩,
  none, .nc (.t ⟨.a, .a⟩), []⟩, ⟨some ⟨.c, .c⟩, none, .fa 3 (.t ⟨.c, .b⟩), []⟩, ⟨some ⟨.c, .d⟩, none, .ld 1 false (.t ⟨.c, .c⟩), []⟩, ⟨some ⟨.c, .e⟩, none, .len true (.t ⟨.c, .d⟩), []⟩, ⟨some ⟨.c, .f⟩,
  none, .bin .gtr (.t ⟨.c, .e⟩) (.c (.c (.i .i64 (.ofNat 1)))), []⟩, ⟨some ⟨.c, .g⟩, none, .mv (.t ⟨.c, .f⟩), []⟩, ⟨some ⟨.c, .h⟩, some (⟨.c, .g⟩, true), .mv (.t ⟨.a, .a⟩), []⟩, ⟨some ⟨.c, .i⟩, some
  (⟨.c, .g⟩, true), .nc (.t ⟨.c, .h⟩), []⟩, ⟨some ⟨.c, .j⟩, some (⟨.c, .g⟩, true), .fa 3 (.t ⟨.c, .i⟩), []⟩, ⟨some ⟨.c, .k⟩, some (⟨.c, .g⟩, true), .ld 1 false (.t ⟨.c, .j⟩), []⟩, ⟨some ⟨.c, .l⟩, some
  (⟨.c, .g⟩, true), .ia 1 (.t ⟨.c, .k⟩) (.c (.c (.i .i64 (.ofNat 1)))), []⟩, ⟨some ⟨.c, .m⟩, some (⟨.c, .g⟩, true), .ld 1 false (.t ⟨.c, .l⟩), []⟩, ⟨some ⟨.c, .n⟩, some (⟨.c, .g⟩, true), .nc (.t ⟨.c,
  .m⟩), []⟩, ⟨some ⟨.c, .o⟩, some (⟨.c, .g⟩, true), .fa 2 (.t ⟨.c, .n⟩), []⟩, ⟨some ⟨.c, .p⟩, some (⟨.c, .g⟩, true), .ld 1 false (.t ⟨.c, .o⟩), []⟩, ⟨some ⟨.d, .a⟩, some (⟨.c, .g⟩, true), .bin .eql (.t
  ⟨.c, .p⟩) (.c (.c (.s [98, 111, 100, 121]))), []⟩, ⟨some ⟨.d, .b⟩, none, .pk (.t ⟨.c, .g⟩) (.t ⟨.d, .a⟩) (.c (.c (.b false))), []⟩]) (.cond (.t ⟨.d, .b⟩) (.dreg [⟨some ⟨.d, .c⟩, none, .mv (.t ⟨.a,
  .a⟩), []⟩, ⟨some ⟨.d, .d⟩, none, .nc (.t ⟨.d, .c⟩), []⟩, ⟨some ⟨.d, .e⟩, none, .fa 3 (.t ⟨.d, .d⟩), []⟩, ⟨some ⟨.d, .f⟩, none, .ld 1 false (.t ⟨.d, .e⟩), []⟩, ⟨some ⟨.d, .g⟩, none, .ia 1 (.t ⟨.d,
  .f⟩) (.c (.c (.i .i64 (.ofNat 1)))), []⟩, ⟨some ⟨.d, .h⟩, none, .ld 1 false (.t ⟨.d, .g⟩), []⟩, ⟨some ⟨.d, .i⟩, none, .fa 3 (.t ⟨.a, .d⟩), []⟩, ⟨some ⟨.d, .j⟩, none, .ld 1 false (.t ⟨.d, .i⟩), []⟩,
  ⟨some ⟨.d, .k⟩, none, .call 146 [.t ⟨.d, .h⟩, .t ⟨.d, .j⟩], []⟩]) .skip)) (.seq (.reg [⟨some ⟨.a, .e⟩, none, .mv (.c (.c (.b false))), []⟩]) .ret)) (.seq (.reg [⟨some ⟨.d, .n⟩, none, .call 105 [.t
  ⟨.a, .f⟩, .c (.c (.i .i64 (.ofNat 8)))], []⟩, ⟨some ⟨.d, .l⟩, none, .mv (.t ⟨.d, .n⟩), []⟩]) (.cond (.t ⟨.d, .l⟩) (.seq (.reg [⟨some ⟨.d, .p⟩, none, .ld 5 true (.t ⟨.a, .d⟩), []⟩, ⟨some ⟨.e, .a⟩,
  none, .call 71 [.t ⟨.a, .a⟩, .t ⟨.d, .p⟩], []⟩, ⟨some ⟨.a, .e⟩, none, .mv (.t ⟨.e, .a⟩), []⟩]) .ret) (.seq (.reg [⟨some ⟨.e, .d⟩, none, .bsl 9 1 12 [.s [], .s [], .s [], .s [], .s [], .s [], .s [],
  .s [], .s [], .s [], .s [], .s []] [(0, (1, .c (.c (.s [102, 114, 97, 109, 101, 115, 101, 116])))), (1, (1, .c (.c (.s [99, 97, 112, 116, 105, 111, 110])))), (2, (1, .c (.c (.s [99, 111, 108])))),
  (3, (1, .c (.c (.s [99, 111, 108, 103, 114, 111, 117, 112])))), (4, (1, .c (.c (.s [102, 114, 97, 109, 101])))), (5, (1, .c (.c (.s [104, 101, 97, 100])))), (6, (1, .c (.c (.s [116, 98, 111, 100,
  121])))), (7, (1, .c (.c (.s [116, 100])))), (8, (1, .c (.c (.s [116, 102, 111, 111, 116])))), (9, (1, .c (.c (.s [116, 104])))), (10, (1, .c (.c (.s [116, 104, 101, 97, 100])))), (11, (1, .c (.c (.s
  [116, 114]))))], []⟩, ⟨some ⟨.e, .e⟩, none, .call 38 [.t ⟨.a, .f⟩, .t ⟨.e, .d⟩], []⟩, ⟨some ⟨.e, .b⟩, none, .mv (.t ⟨.e, .e⟩), []⟩]) (.cond (.t ⟨.e, .b⟩) (.seq (.reg [⟨some ⟨.a, .e⟩, none, .mv (.c
  (.c (.b false))), []⟩]) .ret) (.seq (.seq (.reg [⟨some ⟨.e, .h⟩, none, .call 105 [.t ⟨.a, .f⟩, .c (.c (.i .i64 (.ofNat 6)))], []⟩, ⟨some ⟨.e, .f⟩, none, .mv (.t ⟨.e, .h⟩), []⟩]) (.cond (.t ⟨.e, .f⟩)
  .skip (.reg [⟨some ⟨.e, .j⟩, none, .bsl 9 1 3 [.s [], .s [], .s []] [(0, (1, .c (.c (.s [112])))), (1, (1, .c (.c (.s [108, 105, 115, 116, 105, 110, 103])))), (2, (1, .c (.c (.s [112, 108, 97, 105,
  110, 116, 101, 120, 116]))))], []⟩, ⟨some ⟨.e, .k⟩, none, .call 38 [.t ⟨.a, .f⟩, .t ⟨.e, .j⟩], []⟩, ⟨some ⟨.e, .f⟩, none, .mv (.t ⟨.e, .k⟩), []⟩]))) (.cond (.t ⟨.e, .f⟩) (.reg [⟨some ⟨.e, .m⟩, none,
  .call 147 [.t ⟨.a, .a⟩], []⟩]) (.seq (.reg [⟨some ⟨.e, .p⟩, none, .call 105 [.t ⟨.a, .f⟩, .c (.c (.i .i64 (.ofNat 5)))], []⟩, ⟨some ⟨.e, .n⟩, none, .mv (.t ⟨.e, .p⟩), []⟩]) (.cond (.t ⟨.e, .n⟩) (.seq
  (.reg [⟨some ⟨.f, .b⟩, none, .call 147 [.t ⟨.a, .a⟩], []⟩]) (.seq (.reg [⟨some ⟨.f, .d⟩, none, .call 63 [.t ⟨.a, .a⟩], []⟩, ⟨some ⟨.f, .e⟩, none, .nc (.t ⟨.f, .d⟩), []⟩, ⟨some ⟨.f, .f⟩, none, .fa 2
  (.t ⟨.f, .e⟩), []⟩, ⟨some ⟨.f, .g⟩, none, .ld 1 false (.t ⟨.f, .f⟩), []⟩, ⟨some ⟨.f, .h⟩, none, .call 105 [.t ⟨.f, .g⟩, .c (.c (.i .i64 (.ofNat 5)))], []⟩]) (.cond (.t ⟨.f, .h⟩) (.reg [⟨some ⟨.f,
  .j⟩, none, .call 67 [.t ⟨.a, .a⟩, .c (.c (.i .i64 (.ofNat 1)))], []⟩]) .skip))) (.seq (.reg [⟨some ⟨.f, .m⟩, none, .bin .eql (.t ⟨.a, .f⟩) (.c (.c (.s [108, 105]))), []⟩, ⟨some ⟨.f, .k⟩, none, .mv
  (.t ⟨.f, .m⟩), []⟩]) (.cond (.t ⟨.f, .k⟩) (.reg [⟨some ⟨.f, .o⟩, none, .bsl 9 1 1 [.s []] [(0, (1, .c (.c (.s [108, 105]))))], []⟩, ⟨some ⟨.f, .p⟩, none, .call 148 [.t ⟨.a, .a⟩, .t ⟨.f, .o⟩], []⟩])
  (.seq (.reg [⟨some ⟨.g, .c⟩, none, .bin .eql (.t ⟨.a, .f⟩) (.c (.c (.s [100, 100]))), []⟩, ⟨some ⟨.g, .d⟩, none, .mv (.t ⟨.g, .c⟩), []⟩, ⟨some ⟨.g, .e⟩, some (⟨.g, .d⟩, false), .mv (.t ⟨.a, .f⟩),
  []⟩, ⟨some ⟨.g, .f⟩, some (⟨.g, .d⟩, false), .bin .eql (.t ⟨.g, .e⟩) (.c (.c (.s [100, 116]))), []⟩, ⟨some ⟨.g, .g⟩, none, .pk (.t ⟨.g, .d⟩) (.c (.c (.b true))) (.t ⟨.g, .f⟩), []⟩, ⟨some ⟨.g, .a⟩,
  none, .mv (.t ⟨.g, .g⟩), []⟩]) (.cond (.t ⟨.g, .a⟩) (.reg [⟨some ⟨.g, .i⟩, none, .bsl 9 1 2 [.s [], .s []] [(0, (1, .c (.c (.s [100, 100])))), (1, (1, .c (.c (.s [100, 116]))))], []⟩, ⟨some ⟨.g, .j⟩,
  none, .call 148 [.t ⟨.a, .a⟩, .t ⟨.g, .i⟩], []⟩]) (.seq (.reg [⟨some ⟨.g, .m⟩, none, .bin .eql (.t ⟨.a, .f⟩) (.c (.c (.s [97]))), []⟩, ⟨some ⟨.g, .n⟩, none, .mv (.t ⟨.g, .m⟩), []⟩, ⟨some ⟨.g, .o⟩,
  some (⟨.g, .n⟩, false), .mv (.t ⟨.a, .f⟩), []⟩, ⟨some ⟨.g, .p⟩, some (⟨.g, .n⟩, false), .bin .eql (.t ⟨.g, .o⟩) (.c (.c (.s [110, 111, 98, 114]))), []⟩, ⟨some ⟨.h, .a⟩, none, .pk (.t ⟨.g, .n⟩) (.c
  (.c (.b true))) (.t ⟨.g, .p⟩), []⟩, ⟨some ⟨.h, .b⟩, none, .mv (.t ⟨.h, .a⟩), []⟩, ⟨some ⟨.h, .c⟩, some (⟨.h, .b⟩, false), .mv (.t ⟨.a, .f⟩), []⟩, ⟨some ⟨.h, .d⟩, some (⟨.h, .b⟩, false), .call 105 [.t
  ⟨.h, .c⟩, .c (.c (.i .i64 (.ofNat 3)))], []⟩, ⟨some ⟨.h, .e⟩, none, .pk (.t ⟨.h, .b⟩) (.c (.c (.b true))) (.t ⟨.h, .d⟩), []⟩, ⟨some ⟨.g, .k⟩, none, .mv (.t ⟨.h, .e⟩), []⟩]) (.cond (.t ⟨.g, .k⟩) (.seq
  (.reg [⟨some ⟨.h, .g⟩, none, .ld 5 true (.t ⟨.a, .d⟩), []⟩, ⟨some ⟨.h, .h⟩, none, .call 149 [.t ⟨.a, .a⟩, .t ⟨.h, .g⟩], []⟩]) (.seq (.reg [⟨some ⟨.a, .e⟩, none, .mv (.c (.c (.b false))), []⟩]) .ret))
  (.seq (.reg [⟨some ⟨.h, .k⟩, none, .bin .eql (.t ⟨.a, .f⟩) (.c (.c (.s [116, 97, 98, 108, 101]))), []⟩, ⟨some ⟨.h, .i⟩, none, .mv (.t ⟨.h, .k⟩), []⟩]) (.cond (.t ⟨.h, .i⟩) (.seq (.reg [⟨some ⟨.h,
  .m⟩, none, .call 147 [.t ⟨.a, .a⟩], []⟩]) (.seq (.reg [⟨some ⟨.h, .p⟩, none, .fa 3 (.t ⟨.a, .d⟩), []⟩, ⟨some ⟨.i, .a⟩, none, .ld 1 false (.t ⟨.h, .p⟩), []⟩, ⟨some ⟨.i, .b⟩, none, .call 101 [.t ⟨.a,
  .a⟩, .t ⟨.a, .f⟩, .t ⟨.i, .a⟩], []⟩]) (.seq (.reg [⟨some ⟨.i, .d⟩, none, .nc (.t ⟨.a, .a⟩), []⟩, ⟨some ⟨.i, .e⟩, none, .fa 5 (.t ⟨.i, .d⟩), []⟩, ⟨none, none, .st 1 (.t ⟨.i, .e⟩) (.c (.c (.i .i64
  (.ofNat 7)))), []⟩]) (.seq (.reg [⟨some ⟨.a, .e⟩, none, .mv (.c (.c (.b false))), []⟩]) .ret)))) (.seq (.reg [⟨some ⟨.i, .h⟩, none, .bin .eql (.t ⟨.a, .f⟩) (.c (.c (.s [112, 97, 114, 97, 109]))),
  []⟩, ⟨some ⟨.i, .i⟩, none, .mv (.t ⟨.i, .h⟩), []⟩, ⟨some ⟨.i, .j⟩, some (⟨.i, .i⟩, false), .mv (.t ⟨.a, .f⟩), []⟩, ⟨some ⟨.i, .k⟩, some (⟨.i, .i⟩, false), .bin .eql (.t ⟨.i, .j⟩) (.c (.c (.s [115,
  111, 117, 114, 99, 101]))), []⟩, ⟨some ⟨.i, .l⟩, none, .pk (.t ⟨.i, .i⟩) (.c (.c (.b true))) (.t ⟨.i, .k⟩), []⟩, ⟨some ⟨.i, .m⟩, none, .mv (.t ⟨.i, .l⟩), []⟩, ⟨some ⟨.i, .n⟩, some (⟨.i, .m⟩, false),
  .mv (.t ⟨.a, .f⟩), []⟩, ⟨some ⟨.i, .o⟩, some (⟨.i, .m⟩, false), .bin .eql (.t ⟨.i, .n⟩) (.c (.c (.s [116, 114, 97, 99, 107]))), []⟩, ⟨some ⟨.i, .p⟩, none, .pk (.t ⟨.i, .m⟩) (.c (.c (.b true))) (.t
  ⟨.i, .o⟩), []⟩, ⟨some ⟨.i, .f⟩, none, .mv (.t ⟨.i, .p⟩), []⟩]) (.cond (.t ⟨.i, .f⟩) (.seq (.reg [⟨some ⟨.j, .c⟩, none, .fa 3 (.t ⟨.a, .d⟩), []⟩, ⟨some ⟨.j, .d⟩, none, .ld 1 false (.t ⟨.j, .c⟩), []⟩,
  ⟨some ⟨.j, .e⟩, none, .call 103 [.t ⟨.a, .a⟩, .t ⟨.a, .f⟩, .t ⟨.j, .d⟩], []⟩]) (.seq (.reg [⟨some ⟨.a, .e⟩, none, .mv (.c (.c (.b false))), []⟩]) .ret)) (.seq (.reg [⟨some ⟨.j, .h⟩, none, .bin .eql
  (.t ⟨.a, .f⟩) (.c (.c (.s [104, 114]))), []⟩, ⟨some ⟨.j, .f⟩, none, .mv (.t ⟨.j, .h⟩), []⟩]) (.cond (.t ⟨.j, .f⟩) (.seq (.reg [⟨some ⟨.j, .j⟩, none, .call 147 [.t ⟨.a, .a⟩], []⟩]) (.seq (.reg [⟨some
  ⟨.j, .m⟩, none, .fa 3 (.t ⟨.a, .d⟩), []⟩, ⟨some ⟨.j, .n⟩, none, .ld 1 false (.t ⟨.j, .m⟩), []⟩, ⟨some ⟨.j, .o⟩, none, .call 103 [.t ⟨.a, .a⟩, .t ⟨.a, .f⟩, .t ⟨.j, .n⟩], []⟩]) (.seq (.reg [⟨some ⟨.a,
  .e⟩, none, .mv (.c (.c (.b false))), []⟩]) .ret))) (.seq (.reg [⟨some ⟨.k, .b⟩, none, .bin .eql (.t ⟨.a, .f⟩) (.c (.c (.s [116, 101, 120, 116, 97, 114, 101, 97]))), []⟩, ⟨some ⟨.k, .c⟩, none, .mv (.t
  ⟨.k, .b⟩), []⟩, ⟨some ⟨.k, .d⟩, some (⟨.k, .c⟩, false), .mv (.t ⟨.a, .f⟩), []⟩, ⟨some ⟨.k, .e⟩, some (⟨.k, .c⟩, false), .bin .eql (.t ⟨.k, .d⟩) (.c (.c (.s [105, 102, 114, 97, 109, 101]))), []⟩,
  ⟨some ⟨.k, .f⟩, none, .pk (.t ⟨.k, .c⟩) (.c (.c (.b true))) (.t ⟨.k, .e⟩), []⟩, ⟨some ⟨.k, .g⟩, none, .mv (.t ⟨.k, .f⟩), []⟩, ⟨some ⟨.k, .h⟩, some (⟨.k, .g⟩, false), .mv (.t ⟨.a, .f⟩), []⟩, ⟨some
  ⟨.k, .i⟩, some (⟨.k, .g⟩, false), .bin .eql (.t ⟨.k, .h⟩) (.c (.c (.s [110, 111, 101, 109, 98, 101, 100]))), []⟩, ⟨some ⟨.k, .j⟩, none, .pk (.t ⟨.k, .g⟩) (.c (.c (.b true))) (.t ⟨.k, .i⟩), []⟩, ⟨some
  ⟨.j, .p⟩, none, .mv (.t ⟨.k, .j⟩), []⟩]) (.cond (.t ⟨.j, .p⟩) .skip (.seq (.reg [⟨some ⟨.k, .m⟩, none, .bin .eql (.t ⟨.a, .f⟩) (.c (.c (.s [114, 112]))), []⟩, ⟨some ⟨.k, .n⟩, none, .mv (.t ⟨.k, .m⟩),
  []⟩, ⟨some ⟨.k, .o⟩, some (⟨.k, .n⟩, false), .mv (.t ⟨.a, .f⟩), []⟩, ⟨some ⟨.k, .p⟩, some (⟨.k, .n⟩, false), .bin .eql (.t ⟨.k, .o⟩) (.c (.c (.s [114, 116]))), []⟩, ⟨some ⟨.l, .a⟩, none, .pk (.t ⟨.k,
  .n⟩) (.c (.c (.b true))) (.t ⟨.k, .p⟩), []⟩, ⟨some ⟨.k, .k⟩, none, .mv (.t ⟨.l, .a⟩), []⟩]) (.cond (.t ⟨.k, .k⟩) (.seq (.reg [⟨some ⟨.l, .c⟩, none, .call 111 [.t ⟨.a, .a⟩, .c (.c (.s [114, 117, 98,
  121])), .c (.c (.i .i64 (.ofNat 1)))], []⟩]) (.cond (.t ⟨.l, .c⟩) (.reg [⟨some ⟨.l, .e⟩, none, .call 114 [.t ⟨.a, .a⟩, .c (.c (.s []))], []⟩]) .skip)) (.seq (.reg [⟨some ⟨.a, .j⟩, none, .ld 5 true
  (.t ⟨.a, .d⟩), []⟩, ⟨some ⟨.a, .k⟩, none, .call 150 [.t ⟨.a, .a⟩, .t ⟨.a, .j⟩], []⟩, ⟨some ⟨.a, .e⟩, none, .mv (.t ⟨.a, .k⟩), []⟩]) .ret)))))))))))))))))))))))))))))) (.seq (.reg [⟨some ⟨.l, .h⟩,
  none, .fa 3 (.t ⟨.a, .d⟩), []⟩, ⟨some ⟨.l, .i⟩, none, .ld 1 false (.t ⟨.l, .h⟩), []⟩, ⟨some ⟨.l, .j⟩, none, .call 101 [.t ⟨.a, .a⟩, .t ⟨.a, .f⟩, .t ⟨.l, .i⟩], []⟩]) (.seq (.reg [⟨some ⟨.a, .e⟩, none,
  .mv (.c (.c (.b false))), []⟩]) .ret)))), [(⟨.a, .e⟩, none)]⟩

theorem ok120 : FnR Go.Proofs.Tryz.prog 0 120 cf120 := fnC_ok [8, 12, 14, 30, 32, 60, 62, 66, 70, 72, 75, 78, 80, 82, 88, 91, 93, 97, 103, 107, 117, 121, 123, 125, 126, 130, 134, 144, 145, 150, 152, 154, 155, 160, 171, 177, 179, 181, 182] Go.Proofs.Tryz.func120 (by kernel_rfl) (by kernel_rfl)

def cf121 : CF := ⟨130, 2, .seq (.reg [⟨some ⟨.a, .d⟩, none, .new 56 (.t ⟨.a, .b⟩), []⟩, ⟨some ⟨.a, .e⟩, none, .mv (.c (.c (.b false))), []⟩]) (.seq (.reg [⟨some ⟨.a, .i⟩, none, .fa 1 (.t ⟨.a, .d⟩), []⟩, ⟨some ⟨.a,
  .j⟩, none, .ld 1 false (.t ⟨.a, .i⟩), []⟩, ⟨some ⟨.a, .f⟩, none, .mv (.t ⟨.a, .j⟩), []⟩]) (.seq (.blk 0 (.seq (.reg [⟨some ⟨.a, .p⟩, none, .bin .eql (.t ⟨.a, .f⟩) (.c (.c (.s [98, 111, 100, 121]))),
  []⟩, ⟨some ⟨.b, .a⟩, none, .mv (.t ⟨.a, .p⟩), []⟩, ⟨some ⟨.b, .b⟩, some (⟨.b, .a⟩, false), .mv (.t ⟨.a, .f⟩), []⟩, ⟨some ⟨.b, .c⟩, some (⟨.b, .a⟩, false), .bin .eql (.t ⟨.b, .b⟩) (.c (.c (.s [104,
  116, 109, 108]))), []⟩, ⟨some ⟨.b, .d⟩, none, .pk (.t ⟨.b, .a⟩) (.c (.c (.b true))) (.t ⟨.b, .c⟩), []⟩, ⟨some ⟨.a, .n⟩, none, .mv (.t ⟨.b, .d⟩), []⟩]) (.cond (.t ⟨.a, .n⟩) (.seq (.reg [⟨some ⟨.b,
  .f⟩, none, .call 111 [.t ⟨.a, .a⟩, .c (.c (.s [98, 111, 100, 121])), .c (.c (.i .i64 (.ofNat 1)))], []⟩]) (.cond (.t ⟨.b, .f⟩) (.seq (.reg [⟨some ⟨.b, .h⟩, none, .nc (.t ⟨.a, .a⟩), []⟩, ⟨some ⟨.b,
  .i⟩, none, .fa 5 (.t ⟨.b, .h⟩), []⟩, ⟨none, none, .st 1 (.t ⟨.b, .i⟩) (.c (.c (.i .i64 (.ofNat 6)))), []⟩]) (.seq (.reg [⟨some ⟨.b, .k⟩, none, .bin .eql (.t ⟨.a, .f⟩) (.c (.c (.s [104, 116, 109,
  108]))), []⟩, ⟨some ⟨.a, .e⟩, none, .mv (.t ⟨.b, .k⟩), []⟩]) .ret)) .skip)) (.seq (.seq (.reg [⟨some ⟨.b, .n⟩, none, .call 105 [.t ⟨.a, .f⟩, .c (.c (.i .i64 (.ofNat 6)))], []⟩, ⟨some ⟨.b, .l⟩, none,
  .mv (.t ⟨.b, .n⟩), []⟩]) (.cond (.t ⟨.b, .l⟩) .skip (.seq (.reg [⟨some ⟨.b, .p⟩, none, .bin .eql (.t ⟨.a, .f⟩) (.c (.c (.s [98, 117, 116, 116, 111, 110]))), []⟩, ⟨some ⟨.b, .l⟩, none, .mv (.t ⟨.b,
  .p⟩), []⟩]) (.cond (.t ⟨.b, .l⟩) .skip (.reg [⟨some ⟨.c, .b⟩, none, .bin .eql (.t ⟨.a, .f⟩) (.c (.c (.s [108, 105, 115, 116, 105, 110, 103]))), []⟩, ⟨some ⟨.b, .l⟩, none, .mv (.t ⟨.c, .b⟩), []⟩])))))
  (.cond (.t ⟨.b, .l⟩) (.seq (.reg [⟨some ⟨.c, .e⟩, none, .call 111 [.t ⟨.a, .a⟩, .t ⟨.a, .f⟩, .c (.c (.i .i64 (.ofNat 1)))], []⟩]) (.cond (.t ⟨.c, .e⟩) (.seq (.reg [⟨some ⟨.c, .g⟩, none, .call 114 [.t
  ⟨.a, .a⟩, .c (.c (.s []))], []⟩]) (.reg [⟨some ⟨.c, .j⟩, none, .bsl 9 1 1 [.s []] [(0, (1, .t ⟨.a, .f⟩))], []⟩, ⟨some ⟨.c, .k⟩, none, .call 104 [.t ⟨.a, .a⟩, .t ⟨.c, .j⟩], []⟩])) .skip)) (.seq (.reg
  [⟨some ⟨.c, .n⟩, none, .bin .eql (.t ⟨.a, .f⟩) (.c (.c (.s [112]))), []⟩, ⟨some ⟨.c, .l⟩, none, .mv (.t ⟨.c, .n⟩), []⟩]) (.cond (.t ⟨.c, .l⟩) (.seq (.seq (.reg [⟨some ⟨.c, .p⟩, none, .call 111 [.t
  ⟨.a, .a⟩, .c (.c (.s [112])), .c (.c (.i .i64 (.ofNat 3)))], []⟩, ⟨some ⟨.d, .a⟩, none, .un .not (.t ⟨.c, .p⟩), []⟩]) (.cond (.t ⟨.d, .a⟩) (.reg [⟨some ⟨.d, .c⟩, none, .call 101 [.t ⟨.a, .a⟩, .c (.c
  (.s [112])), .c (.c (.sl none 0 0 0))], []⟩]) .skip)) (.reg [⟨some ⟨.d, .e⟩, none, .call 147 [.t ⟨.a, .a⟩], []⟩])) (.seq (.reg [⟨some ⟨.d, .h⟩, none, .bin .eql (.t ⟨.a, .f⟩) (.c (.c (.s [108,
  105]))), []⟩, ⟨some ⟨.d, .f⟩, none, .mv (.t ⟨.d, .h⟩), []⟩]) (.cond (.t ⟨.d, .f⟩) (.seq (.reg [⟨some ⟨.d, .k⟩, none, .call 111 [.t ⟨.a, .a⟩, .t ⟨.a, .f⟩, .c (.c (.i .i64 (.ofNat 2)))], []⟩]) (.cond
  (.t ⟨.d, .k⟩) (.seq (.reg [⟨some ⟨.d, .n⟩, none, .call 114 [.t ⟨.a, .a⟩, .t ⟨.a, .f⟩], []⟩]) (.reg [⟨some ⟨.e, .a⟩, none, .bsl 9 1 1 [.s []] [(0, (1, .t ⟨.a, .f⟩))], []⟩, ⟨some ⟨.e, .b⟩, none, .call
  104 [.t ⟨.a, .a⟩, .t ⟨.e, .a⟩], []⟩])) .skip)) (.seq (.reg [⟨some ⟨.e, .e⟩, none, .bin .eql (.t ⟨.a, .f⟩) (.c (.c (.s [100, 100]))), []⟩, ⟨some ⟨.e, .f⟩, none, .mv (.t ⟨.e, .e⟩), []⟩, ⟨some ⟨.e, .g⟩,
  some (⟨.e, .f⟩, false), .mv (.t ⟨.a, .f⟩), []⟩, ⟨some ⟨.e, .h⟩, some (⟨.e, .f⟩, false), .bin .eql (.t ⟨.e, .g⟩) (.c (.c (.s [100, 116]))), []⟩, ⟨some ⟨.e, .i⟩, none, .pk (.t ⟨.e, .f⟩) (.c (.c (.b
  true))) (.t ⟨.e, .h⟩), []⟩, ⟨some ⟨.e, .c⟩, none, .mv (.t ⟨.e, .i⟩), []⟩]) (.cond (.t ⟨.e, .c⟩) (.seq (.reg [⟨some ⟨.e, .l⟩, none, .call 111 [.t ⟨.a, .a⟩, .t ⟨.a, .f⟩, .c (.c (.i .i64 (.ofNat 1)))],
  []⟩]) (.cond (.t ⟨.e, .l⟩) (.seq (.reg [⟨some ⟨.e, .o⟩, none, .call 114 [.t ⟨.a, .a⟩, .t ⟨.a, .f⟩], []⟩]) (.reg [⟨some ⟨.f, .b⟩, none, .bsl 9 1 1 [.s []] [(0, (1, .t ⟨.a, .f⟩))], []⟩, ⟨some ⟨.f, .c⟩,
  none, .call 104 [.t ⟨.a, .a⟩, .t ⟨.f, .b⟩], []⟩])) .skip)) (.seq (.reg [⟨some ⟨.f, .f⟩, none, .call 105 [.t ⟨.a, .f⟩, .c (.c (.i .i64 (.ofNat 5)))], []⟩, ⟨some ⟨.f, .d⟩, none, .mv (.t ⟨.f, .f⟩),
  []⟩]) (.cond (.t ⟨.f, .d⟩) (.seq (.reg [⟨some ⟨.f, .g⟩, none, .call 151 [], []⟩, ⟨some ⟨.f, .h⟩, none, .len true (.t ⟨.f, .g⟩), []⟩, ⟨some ⟨.f, .i⟩, none, .mv (.c (.c (.i .i64 (.ofNat 0)))), []⟩])
  (.blk 1 (.loop (.seq (.reg [⟨some ⟨.f, .j⟩, none, .bin .lss (.t ⟨.f, .i⟩) (.t ⟨.f, .h⟩), []⟩]) (.seq (.cond (.t ⟨.f, .j⟩) .skip (.exit 1)) (.seq (.blk 2 (.seq (.reg [⟨some ⟨.f, .k⟩, none, .ia 1 (.t
  ⟨.f, .g⟩) (.t ⟨.f, .i⟩), []⟩, ⟨some ⟨.f, .l⟩, none, .ld 1 false (.t ⟨.f, .k⟩), []⟩, ⟨some ⟨.a, .h⟩, none, .mv (.t ⟨.f, .l⟩), []⟩]) (.seq (.reg [⟨some ⟨.f, .o⟩, none, .call 111 [.t ⟨.a, .a⟩, .t ⟨.a,
  .h⟩, .c (.c (.i .i64 (.ofNat 1)))], []⟩]) (.cond (.t ⟨.f, .o⟩) (.seq (.reg [⟨some ⟨.g, .a⟩, none, .call 114 [.t ⟨.a, .a⟩, .c (.c (.s []))], []⟩]) (.seq (.reg [⟨some ⟨.g, .c⟩, none, .call 151 [], []⟩,
  ⟨some ⟨.g, .d⟩, none, .call 104 [.t ⟨.a, .a⟩, .t ⟨.g, .c⟩], []⟩]) (.exit 1))) .skip)))) (.reg [⟨some ⟨.g, .e⟩, none, .bin .add (.t ⟨.f, .i⟩) (.c (.c (.i .i64 (.ofNat 1)))), []⟩, ⟨some ⟨.f, .i⟩, none,
  .mv (.t ⟨.g, .e⟩), []⟩]))))))) (.seq (.reg [⟨some ⟨.g, .h⟩, none, .call 105 [.t ⟨.a, .f⟩, .c (.c (.i .i64 (.ofNat 3)))], []⟩, ⟨some ⟨.g, .f⟩, none, .mv (.t ⟨.g, .h⟩), []⟩]) (.cond (.t ⟨.g, .f⟩) (.reg
  [⟨some ⟨.g, .k⟩, none, .call 152 [.t ⟨.a, .a⟩, .t ⟨.a, .f⟩], []⟩]) (.seq (.reg [⟨some ⟨.g, .n⟩, none, .call 105 [.t ⟨.a, .f⟩, .c (.c (.i .i64 (.ofNat 7)))], []⟩, ⟨some ⟨.g, .l⟩, none, .mv (.t ⟨.g,
  .n⟩), []⟩]) (.cond (.t ⟨.g, .l⟩) (.seq (.reg [⟨some ⟨.h, .a⟩, none, .call 111 [.t ⟨.a, .a⟩, .t ⟨.a, .f⟩, .c (.c (.i .i64 (.ofNat 1)))], []⟩]) (.cond (.t ⟨.h, .a⟩) (.seq (.reg [⟨some ⟨.h, .c⟩, none,
  .call 114 [.t ⟨.a, .a⟩, .c (.c (.s []))], []⟩]) (.seq (.reg [⟨some ⟨.h, .f⟩, none, .bsl 9 1 1 [.s []] [(0, (1, .t ⟨.a, .f⟩))], []⟩, ⟨some ⟨.h, .g⟩, none, .call 104 [.t ⟨.a, .a⟩, .t ⟨.h, .f⟩], []⟩])
  (.reg [⟨some ⟨.h, .i⟩, none, .nc (.t ⟨.a, .a⟩), []⟩, ⟨some ⟨.h, .j⟩, none, .fa 4 (.t ⟨.h, .i⟩), []⟩, ⟨some ⟨.h, .k⟩, none, .ld 1 false (.t ⟨.h, .j⟩), []⟩, ⟨some ⟨.h, .l⟩, none, .call 115 [.t ⟨.h,
  .k⟩], []⟩]))) .skip)) (.seq (.reg [⟨some ⟨.h, .o⟩, none, .bin .eql (.t ⟨.a, .f⟩) (.c (.c (.s [98, 114]))), []⟩, ⟨some ⟨.h, .m⟩, none, .mv (.t ⟨.h, .o⟩), []⟩]) (.cond (.t ⟨.h, .m⟩) (.seq (.reg [⟨some
  ⟨.i, .a⟩, none, .bld [.i .i64 (.ofNat 0), .s [], .s [], .sl none 0 0 0, .b false] [(0, (1, .c (.c (.i .i64 (.ofNat 1))))), (1, (1, .c (.c (.s [98, 114]))))], []⟩, ⟨some ⟨.i, .b⟩, none, .call 120 [.t
  ⟨.a, .a⟩, .t ⟨.i, .a⟩], []⟩, ⟨some ⟨.a, .e⟩, none, .mv (.t ⟨.i, .b⟩), []⟩]) .ret) (.reg [⟨some ⟨.a, .m⟩, none, .call 153 [.t ⟨.a, .a⟩, .t ⟨.a, .f⟩], []⟩])))))))))))))))))))) (.seq (.reg [⟨some ⟨.a,
  .e⟩, none, .mv (.c (.c (.b false))), []⟩]) .ret))), [(⟨.a, .e⟩, none)]⟩

theorem ok121 : FnR Go.Proofs.Tryz.prog 0 121 cf121 := fnC_ok [10, 11, 14, 20, 22, 25, 28, 30, 32, 34, 35, 37, 39, 40, 44, 46, 49, 51, 54, 56, 57, 59, 60, 62, 63, 67, 73, 74, 76, 77, 79, 80, 84, 92, 93, 95, 97, 102, 104, 105, 108, 110, 111, 113, 115, 116, 119, 125, 127] Go.Proofs.Tryz.func121 (by kernel_rfl) (by kernel_rfl)

def cf122 : CF := ⟨34, 1, .seq (.reg [⟨some ⟨.a, .c⟩, none, .mv (.c (.c (.b false))), []⟩]) (.seq (.seq (.reg [⟨some ⟨.a, .h⟩, none, .len true (.t ⟨.a, .a⟩), []⟩, ⟨some ⟨.a, .i⟩, none, .bin .gtr (.t ⟨.a, .h⟩) (.c (.c
  (.i .i64 (.ofNat 12)))), []⟩]) (.cond (.t ⟨.a, .i⟩) (.seq (.reg [⟨some ⟨.a, .c⟩, none, .mv (.c (.c (.b false))), []⟩]) .ret) .skip)) (.seq (.reg [⟨some ⟨.a, .d⟩, none, .mv (.c (.c (.s []))), []⟩])
  (.seq (.seq (.reg [⟨some ⟨.a, .j⟩, none, .mv (.t ⟨.a, .a⟩), []⟩, ⟨some ⟨.a, .k⟩, none, .len true (.t ⟨.a, .j⟩), []⟩, ⟨some ⟨.a, .l⟩, none, .mv (.c (.c (.i .i64 (.ofNat 0)))), []⟩]) (.blk 0 (.loop
  (.seq (.reg [⟨some ⟨.a, .m⟩, none, .bin .lss (.t ⟨.a, .l⟩) (.t ⟨.a, .k⟩), []⟩]) (.seq (.cond (.t ⟨.a, .m⟩) .skip (.exit 0)) (.seq (.blk 1 (.seq (.reg [⟨some ⟨.a, .n⟩, none, .ia 2 (.t ⟨.a, .j⟩) (.t
  ⟨.a, .l⟩), []⟩, ⟨some ⟨.a, .o⟩, none, .ld 2 true (.t ⟨.a, .n⟩), []⟩, ⟨some ⟨.a, .f⟩, none, .new 84 (.c (.a [.s [], .s []])), []⟩, ⟨none, none, .st 2 (.t ⟨.a, .f⟩) (.t ⟨.a, .o⟩), []⟩]) (.seq (.seq
  (.reg [⟨some ⟨.a, .p⟩, none, .fa 0 (.t ⟨.a, .f⟩), []⟩, ⟨some ⟨.b, .a⟩, none, .ld 1 false (.t ⟨.a, .p⟩), []⟩, ⟨some ⟨.b, .c⟩, none, .bin .leq (.t ⟨.b, .a⟩) (.t ⟨.a, .d⟩), []⟩, ⟨some ⟨.b, .d⟩, none,
  .mv (.t ⟨.b, .c⟩), []⟩, ⟨some ⟨.b, .e⟩, some (⟨.b, .d⟩, false), .fa 0 (.t ⟨.a, .f⟩), []⟩, ⟨some ⟨.b, .f⟩, some (⟨.b, .d⟩, false), .ld 1 false (.t ⟨.b, .e⟩), []⟩, ⟨some ⟨.b, .g⟩, some (⟨.b, .d⟩,
  false), .call 36 [.t ⟨.b, .f⟩], []⟩, ⟨some ⟨.b, .h⟩, some (⟨.b, .d⟩, false), .un .not (.t ⟨.b, .g⟩), []⟩, ⟨some ⟨.b, .i⟩, none, .pk (.t ⟨.b, .d⟩) (.c (.c (.b true))) (.t ⟨.b, .h⟩), []⟩, ⟨some ⟨.b,
  .j⟩, none, .mv (.t ⟨.b, .i⟩), []⟩, ⟨some ⟨.b, .k⟩, some (⟨.b, .j⟩, false), .fa 1 (.t ⟨.a, .f⟩), []⟩, ⟨some ⟨.b, .l⟩, some (⟨.b, .j⟩, false), .ld 1 false (.t ⟨.b, .k⟩), []⟩, ⟨some ⟨.b, .m⟩, some (⟨.b,
  .j⟩, false), .len false (.t ⟨.b, .l⟩), []⟩, ⟨some ⟨.b, .n⟩, some (⟨.b, .j⟩, false), .bin .gtr (.t ⟨.b, .m⟩) (.c (.c (.i .i64 (.ofNat 4096)))), []⟩, ⟨some ⟨.b, .o⟩, none, .pk (.t ⟨.b, .j⟩) (.c (.c (.b
  true))) (.t ⟨.b, .n⟩), []⟩]) (.cond (.t ⟨.b, .o⟩) (.seq (.reg [⟨some ⟨.a, .c⟩, none, .mv (.c (.c (.b false))), []⟩]) .ret) .skip)) (.reg [⟨some ⟨.b, .p⟩, none, .fa 0 (.t ⟨.a, .f⟩), []⟩, ⟨some ⟨.c,
  .a⟩, none, .ld 1 false (.t ⟨.b, .p⟩), []⟩, ⟨some ⟨.a, .d⟩, none, .mv (.t ⟨.c, .a⟩), []⟩])))) (.reg [⟨some ⟨.c, .b⟩, none, .bin .add (.t ⟨.a, .l⟩) (.c (.c (.i .i64 (.ofNat 1)))), []⟩, ⟨some ⟨.a, .l⟩,
  none, .mv (.t ⟨.c, .b⟩), []⟩]))))))) (.seq (.reg [⟨some ⟨.a, .c⟩, none, .mv (.c (.c (.b true))), []⟩]) .ret)))), [(⟨.a, .c⟩, none)]⟩

theorem ok122 : FnR Go.Proofs.Tryz.prog 0 122 cf122 := fnC_ok [6, 17] Go.Proofs.Tryz.func122 (by kernel_rfl) (by kernel_rfl)

def cf128 : CF := ⟨95, 3, .seq (.reg [⟨some ⟨.a, .g⟩, none, .mv (.c (.c (.sl none 0 0 0))), []⟩]) (.seq (.reg [⟨some ⟨.a, .m⟩, none, .slc 1 (.t ⟨.a, .a⟩) (some (.t ⟨.a, .b⟩)) none none, []⟩]) (.seq (.reg [⟨some ⟨.a,
  .o⟩, none, .len true (.t ⟨.a, .c⟩), []⟩, ⟨some ⟨.a, .h⟩, none, .mv (.t ⟨.a, .o⟩), []⟩]) (.seq (.seq (.reg [⟨some ⟨.b, .a⟩, none, .bin .eql (.t ⟨.a, .h⟩) (.c (.c (.i .i64 (.ofNat 0)))), []⟩]) (.cond
  (.t ⟨.b, .a⟩) (.seq (.reg [⟨some ⟨.a, .g⟩, none, .mv (.t ⟨.a, .a⟩), []⟩]) .ret) .skip)) (.seq (.reg [⟨some ⟨.b, .d⟩, none, .len true (.t ⟨.a, .a⟩), []⟩, ⟨some ⟨.a, .i⟩, none, .mv (.t ⟨.b, .d⟩), []⟩])
  (.seq (.seq (.reg [⟨some ⟨.b, .g⟩, none, .bin .eql (.t ⟨.a, .b⟩) (.t ⟨.a, .i⟩), []⟩]) (.cond (.t ⟨.b, .g⟩) (.seq (.reg [⟨some ⟨.b, .j⟩, none, .app 58 1 false (.t ⟨.a, .a⟩) (.t ⟨.a, .c⟩), []⟩, ⟨some
  ⟨.a, .g⟩, none, .mv (.t ⟨.b, .j⟩), []⟩]) .ret) .skip)) (.seq (.seq (.reg [⟨some ⟨.b, .m⟩, none, .bin .add (.t ⟨.a, .i⟩) (.t ⟨.a, .h⟩), []⟩, ⟨some ⟨.b, .o⟩, none, .bad, []⟩, ⟨some ⟨.b, .p⟩, none, .bin
  .gtr (.t ⟨.b, .m⟩) (.t ⟨.b, .o⟩), []⟩]) (.cond (.t ⟨.b, .p⟩) (.seq (.reg [⟨some ⟨.c, .c⟩, none, .slc 1 (.t ⟨.a, .a⟩) none (some (.t ⟨.a, .b⟩)) none, []⟩, ⟨some ⟨.c, .f⟩, none, .bin .add (.t ⟨.a, .i⟩)
  (.t ⟨.a, .h⟩), []⟩, ⟨some ⟨.c, .h⟩, none, .bin .sub (.t ⟨.c, .f⟩) (.t ⟨.a, .b⟩), []⟩, ⟨some ⟨.c, .i⟩, none, .bad, []⟩, ⟨some ⟨.a, .j⟩, none, .mv (.t ⟨.c, .i⟩), []⟩]) (.seq (.reg [⟨some ⟨.c, .l⟩,
  none, .slc 1 (.t ⟨.a, .j⟩) (some (.t ⟨.a, .b⟩)) none none, []⟩, ⟨some ⟨.c, .n⟩, none, .cp 1 false (.t ⟨.c, .l⟩) (.t ⟨.a, .c⟩), []⟩]) (.seq (.dreg [⟨some ⟨.c, .o⟩, none, .mv (.t ⟨.a, .j⟩), []⟩, ⟨some
  ⟨.c, .p⟩, none, .mv (.t ⟨.a, .b⟩), []⟩, ⟨some ⟨.d, .a⟩, none, .mv (.t ⟨.a, .h⟩), []⟩, ⟨some ⟨.d, .b⟩, none, .bin .add (.t ⟨.c, .p⟩) (.t ⟨.d, .a⟩), []⟩, ⟨some ⟨.d, .c⟩, none, .slc 1 (.t ⟨.c, .o⟩)
  (some (.t ⟨.d, .b⟩)) none none, []⟩, ⟨some ⟨.d, .d⟩, none, .mv (.t ⟨.a, .a⟩), []⟩, ⟨some ⟨.d, .e⟩, none, .mv (.t ⟨.a, .b⟩), []⟩, ⟨some ⟨.d, .f⟩, none, .slc 1 (.t ⟨.d, .d⟩) (some (.t ⟨.d, .e⟩)) none
  none, []⟩, ⟨some ⟨.d, .g⟩, none, .cp 1 false (.t ⟨.d, .c⟩) (.t ⟨.d, .f⟩), []⟩]) (.seq (.reg [⟨some ⟨.a, .g⟩, none, .mv (.t ⟨.a, .j⟩), []⟩]) .ret)))) .skip)) (.seq (.reg [⟨some ⟨.d, .l⟩, none, .bin
  .add (.t ⟨.a, .i⟩) (.t ⟨.a, .h⟩), []⟩, ⟨some ⟨.d, .m⟩, none, .slc 1 (.t ⟨.a, .a⟩) none (some (.t ⟨.d, .l⟩)) none, []⟩, ⟨some ⟨.a, .a⟩, none, .mv (.t ⟨.d, .m⟩), []⟩]) (.seq (.seq (.reg [⟨some ⟨.e,
  .b⟩, none, .bin .add (.t ⟨.a, .b⟩) (.t ⟨.a, .h⟩), []⟩, ⟨some ⟨.e, .c⟩, none, .slc 1 (.t ⟨.a, .a⟩) (some (.t ⟨.e, .b⟩)) none none, []⟩, ⟨some ⟨.e, .d⟩, none, .call 158 [.t ⟨.a, .c⟩, .t ⟨.e, .c⟩], []⟩,
  ⟨some ⟨.e, .e⟩, none, .un .not (.t ⟨.e, .d⟩), []⟩]) (.cond (.t ⟨.e, .e⟩) (.seq (.dreg [⟨some ⟨.e, .f⟩, none, .mv (.t ⟨.a, .a⟩), []⟩, ⟨some ⟨.e, .g⟩, none, .mv (.t ⟨.a, .b⟩), []⟩, ⟨some ⟨.e, .h⟩,
  none, .mv (.t ⟨.a, .h⟩), []⟩, ⟨some ⟨.e, .i⟩, none, .bin .add (.t ⟨.e, .g⟩) (.t ⟨.e, .h⟩), []⟩, ⟨some ⟨.e, .j⟩, none, .slc 1 (.t ⟨.e, .f⟩) (some (.t ⟨.e, .i⟩)) none none, []⟩, ⟨some ⟨.e, .k⟩, none,
  .mv (.t ⟨.a, .a⟩), []⟩, ⟨some ⟨.e, .l⟩, none, .mv (.t ⟨.a, .b⟩), []⟩, ⟨some ⟨.e, .m⟩, none, .slc 1 (.t ⟨.e, .k⟩) (some (.t ⟨.e, .l⟩)) none none, []⟩, ⟨some ⟨.e, .n⟩, none, .cp 1 false (.t ⟨.e, .j⟩)
  (.t ⟨.e, .m⟩), []⟩]) (.seq (.reg [⟨some ⟨.f, .a⟩, none, .slc 1 (.t ⟨.a, .a⟩) (some (.t ⟨.a, .b⟩)) none none, []⟩, ⟨some ⟨.f, .c⟩, none, .cp 1 false (.t ⟨.f, .a⟩) (.t ⟨.a, .c⟩), []⟩]) (.seq (.reg
  [⟨some ⟨.a, .g⟩, none, .mv (.t ⟨.a, .a⟩), []⟩]) .ret))) .skip)) (.seq (.reg [⟨some ⟨.f, .g⟩, none, .slc 1 (.t ⟨.a, .a⟩) (some (.t ⟨.a, .i⟩)) none none, []⟩, ⟨some ⟨.f, .i⟩, none, .cp 1 false (.t ⟨.f,
  .g⟩) (.t ⟨.a, .c⟩), []⟩]) (.seq (.reg [⟨some ⟨.f, .l⟩, none, .slc 1 (.t ⟨.a, .a⟩) (some (.t ⟨.a, .b⟩)) none none, []⟩, ⟨some ⟨.f, .n⟩, none, .call 159 [.t ⟨.f, .l⟩, .t ⟨.a, .h⟩], []⟩]) (.seq (.reg
  [⟨some ⟨.a, .g⟩, none, .mv (.t ⟨.a, .a⟩), []⟩]) .ret))))))))))), [(⟨.a, .g⟩, none)]⟩

theorem ok128 : FnR Go.Proofs.Tryz.prog 0 128 cf128 := fnC_ok [10, 11, 13, 15, 17, 18, 20, 21, 23, 24, 26, 27, 29, 32, 33, 35, 36, 38, 41, 42, 44, 55, 56, 57, 58, 61, 62, 63, 64, 78, 79, 81, 83, 84, 85, 87, 89, 90, 92, 94] Go.Proofs.Tryz.func128 (by kernel_rfl) (by kernel_rfl)

def cf130 : CF := ⟨15, 2, .seq (.reg [⟨some ⟨.a, .i⟩, none, .call 95 [.t ⟨.a, .a⟩], []⟩, ⟨some ⟨.a, .j⟩, none, .ext 0 (.t ⟨.a, .i⟩), []⟩, ⟨some ⟨.a, .k⟩, none, .ext 1 (.t ⟨.a, .i⟩), []⟩, ⟨some ⟨.a, .e⟩, none, .mv (.t
  ⟨.a, .j⟩), []⟩, ⟨some ⟨.a, .f⟩, none, .mv (.t ⟨.a, .k⟩), []⟩]) (.reg [⟨some ⟨.a, .o⟩, none, .call 96 [.t ⟨.a, .e⟩, .t ⟨.a, .b⟩, .t ⟨.a, .f⟩], []⟩]), []⟩

theorem ok130 : FnR Go.Proofs.Tryz.prog 0 130 cf130 := fnC_ok [6, 7, 11, 12, 13] Go.Proofs.Tryz.func130 (by kernel_rfl) (by kernel_rfl)

def cf131 : CF := ⟨31, 2, .seq (.reg [⟨some ⟨.a, .e⟩, none, .mv (.c (.c (.i .i64 (.ofNat 0)))), []⟩]) (.seq (.seq (.reg [⟨some ⟨.a, .f⟩, none, .mv (.c (.c (.i .i64 (.ofNat 1)))), []⟩]) (.blk 0 (.loop (.seq (.seq (.reg
  [⟨some ⟨.a, .k⟩, none, .len true (.t ⟨.a, .a⟩), []⟩, ⟨some ⟨.a, .l⟩, none, .bin .leq (.t ⟨.a, .f⟩) (.t ⟨.a, .k⟩), []⟩]) (.cond (.t ⟨.a, .l⟩) .skip (.exit 0))) (.seq (.blk 1 (.seq (.reg [⟨some ⟨.a,
  .o⟩, none, .mv (.t ⟨.a, .b⟩), []⟩, ⟨some ⟨.a, .p⟩, none, .len true (.t ⟨.a, .o⟩), []⟩, ⟨some ⟨.b, .a⟩, none, .mv (.c (.c (.i .i64 (.ofNat 0)))), []⟩]) (.blk 2 (.loop (.seq (.reg [⟨some ⟨.b, .b⟩,
  none, .bin .lss (.t ⟨.b, .a⟩) (.t ⟨.a, .p⟩), []⟩]) (.seq (.cond (.t ⟨.b, .b⟩) .skip (.exit 2)) (.seq (.blk 3 (.seq (.reg [⟨some ⟨.b, .c⟩, none, .ia 1 (.t ⟨.a, .o⟩) (.t ⟨.b, .a⟩), []⟩, ⟨some ⟨.b, .d⟩,
  none, .ld 1 false (.t ⟨.b, .c⟩), []⟩, ⟨some ⟨.a, .h⟩, none, .mv (.t ⟨.b, .d⟩), []⟩]) (.seq (.reg [⟨some ⟨.b, .g⟩, none, .len true (.t ⟨.a, .a⟩), []⟩, ⟨some ⟨.b, .i⟩, none, .bin .sub (.t ⟨.b, .g⟩) (.t
  ⟨.a, .f⟩), []⟩, ⟨some ⟨.b, .j⟩, none, .ia 1 (.t ⟨.a, .a⟩) (.t ⟨.b, .i⟩), []⟩, ⟨some ⟨.b, .k⟩, none, .ld 1 false (.t ⟨.b, .j⟩), []⟩, ⟨some ⟨.b, .m⟩, none, .bin .eql (.t ⟨.b, .k⟩) (.t ⟨.a, .h⟩), []⟩])
  (.cond (.t ⟨.b, .m⟩) (.seq (.reg [⟨some ⟨.a, .e⟩, none, .mv (.t ⟨.a, .f⟩), []⟩]) .ret) .skip)))) (.reg [⟨some ⟨.b, .o⟩, none, .bin .add (.t ⟨.b, .a⟩) (.c (.c (.i .i64 (.ofNat 1)))), []⟩, ⟨some ⟨.b,
  .a⟩, none, .mv (.t ⟨.b, .o⟩), []⟩])))))))) (.reg [⟨some ⟨.a, .n⟩, none, .bin .add (.t ⟨.a, .f⟩) (.c (.c (.i .i64 (.ofNat 1)))), []⟩, ⟨some ⟨.a, .f⟩, none, .mv (.t ⟨.a, .n⟩), []⟩])))))) (.seq (.reg
  [⟨some ⟨.a, .e⟩, none, .mv (.c (.c (.i .i64 (.ofNat 0)))), []⟩]) .ret)), [(⟨.a, .e⟩, none)]⟩

theorem ok131 : FnR Go.Proofs.Tryz.prog 0 131 cf131 := fnC_ok [8, 9, 12, 20, 21, 23, 27, 29] Go.Proofs.Tryz.func131 (by kernel_rfl) (by kernel_rfl)

def cf132 : CF := ⟨24, 1, .seq (.reg [⟨some ⟨.a, .c⟩, none, .mv (.c (.c (.sl none 0 0 0))), []⟩]) (.seq (.reg [⟨some ⟨.a, .d⟩, none, .mv (.c (.c (.sl none 0 0 0))), []⟩]) (.seq (.seq (.reg [⟨some ⟨.a, .h⟩, none, .nc
  (.t ⟨.a, .a⟩), []⟩, ⟨some ⟨.a, .i⟩, none, .fa 3 (.t ⟨.a, .h⟩), []⟩, ⟨some ⟨.a, .j⟩, none, .ld 1 false (.t ⟨.a, .i⟩), []⟩, ⟨some ⟨.a, .k⟩, none, .len true (.t ⟨.a, .j⟩), []⟩, ⟨some ⟨.a, .l⟩, none, .mv
  (.c (.c (.i .i64 (.ofNat 0)))), []⟩]) (.blk 0 (.loop (.seq (.reg [⟨some ⟨.a, .m⟩, none, .bin .lss (.t ⟨.a, .l⟩) (.t ⟨.a, .k⟩), []⟩]) (.seq (.cond (.t ⟨.a, .m⟩) .skip (.exit 0)) (.seq (.blk 1 (.seq
  (.reg [⟨some ⟨.a, .n⟩, none, .ia 1 (.t ⟨.a, .j⟩) (.t ⟨.a, .l⟩), []⟩, ⟨some ⟨.a, .o⟩, none, .ld 1 false (.t ⟨.a, .n⟩), []⟩, ⟨some ⟨.a, .f⟩, none, .mv (.t ⟨.a, .o⟩), []⟩]) (.reg [⟨some ⟨.b, .b⟩, none,
  .nc (.t ⟨.a, .f⟩), []⟩, ⟨some ⟨.b, .c⟩, none, .fa 2 (.t ⟨.b, .b⟩), []⟩, ⟨some ⟨.b, .d⟩, none, .ld 1 false (.t ⟨.b, .c⟩), []⟩, ⟨some ⟨.b, .e⟩, none, .bsl 9 1 1 [.s []] [(0, (1, .t ⟨.b, .d⟩))], []⟩,
  ⟨some ⟨.b, .f⟩, none, .app 9 1 false (.t ⟨.a, .d⟩) (.t ⟨.b, .e⟩), []⟩, ⟨some ⟨.a, .d⟩, none, .mv (.t ⟨.b, .f⟩), []⟩]))) (.reg [⟨some ⟨.b, .g⟩, none, .bin .add (.t ⟨.a, .l⟩) (.c (.c (.i .i64 (.ofNat
  1)))), []⟩, ⟨some ⟨.a, .l⟩, none, .mv (.t ⟨.b, .g⟩), []⟩]))))))) (.seq (.reg [⟨some ⟨.a, .c⟩, none, .mv (.t ⟨.a, .d⟩), []⟩]) .ret))), [(⟨.a, .c⟩, none)]⟩

theorem ok132 : FnR Go.Proofs.Tryz.prog 0 132 cf132 := fnC_ok [6, 15, 16, 23] Go.Proofs.Tryz.func132 (by kernel_rfl) (by kernel_rfl)

def cf134 : CF := ⟨14, 1, .seq (.reg [⟨some ⟨.a, .c⟩, none, .mv (.c (.c (.s []))), []⟩]) (.seq (.reg [⟨some ⟨.a, .e⟩, none, .bld [.s [], .s [], .s [], .s [], .s [], .s [], .s [], .s [], .s []] [(1, (1, .c (.c (.s [97,
  114, 101, 97, 32, 98, 97, 115, 101, 32, 98, 114, 32, 99, 111, 108, 32, 101, 109, 98, 101, 100, 32, 104, 114, 32, 105, 109, 103, 32, 105, 110, 112, 117, 116, 32, 108, 105, 110, 107, 32, 109, 101, 116,
  97, 32, 112, 97, 114, 97, 109, 32, 115, 111, 117, 114, 99, 101, 32, 116, 114, 97, 99, 107, 32, 119, 98, 114])))), (2, (1, .c (.c (.s [97, 100, 100, 114, 101, 115, 115, 32, 97, 112, 112, 108, 101,
  116, 32, 97, 114, 101, 97, 32, 97, 114, 116, 105, 99, 108, 101, 32, 97, 115, 105, 100, 101, 32, 98, 97, 115, 101, 32, 98, 108, 111, 99, 107, 113, 117, 111, 116, 101, 32, 98, 111, 100, 121, 32, 98,
  114, 32, 98, 117, 116, 116, 111, 110, 32, 99, 97, 112, 116, 105, 111, 110, 32, 99, 101, 110, 116, 101, 114, 32, 99, 111, 108, 32, 99, 111, 108, 103, 114, 111, 117, 112, 32, 100, 100, 32, 100, 101,
  116, 97, 105, 108, 115, 32, 100, 105, 114, 32, 100, 105, 118, 32, 100, 108, 32, 100, 116, 32, 101, 109, 98, 101, 100, 32, 102, 105, 101, 108, 100, 115, 101, 116, 32, 102, 105, 103, 99, 97, 112, 116,
  105, 111, 110, 32, 102, 105, 103, 117, 114, 101, 32, 102, 111, 111, 116, 101, 114, 32, 102, 111, 114, 109, 32, 104, 49, 32, 104, 50, 32, 104, 51, 32, 104, 52, 32, 104, 53, 32, 104, 54, 32, 104, 101,
  97, 100, 32, 104, 101, 97, 100, 101, 114, 32, 104, 103, 114, 111, 117, 112, 32, 104, 114, 32, 104, 116, 109, 108, 32, 105, 102, 114, 97, 109, 101, 32, 105, 109, 103, 32, 105, 110, 112, 117, 116, 32,
  108, 105, 32, 108, 105, 110, 107, 32, 109, 97, 105, 110, 32, 109, 97, 114, 113, 117, 101, 101, 32, 109, 101, 110, 117, 32, 109, 101, 116, 97, 32, 110, 97, 118, 32, 110, 111, 101, 109, 98, 101, 100,
  32, 110, 111, 102, 114, 97, 109, 101, 115, 32, 111, 98, 106, 101, 99, 116, 32, 111, 108, 32, 112, 32, 112, 97, 114, 97, 109, 32, 112, 114, 101, 32, 115, 99, 114, 105, 112, 116, 32, 115, 101, 97, 114,
  99, 104, 32, 115, 101, 99, 116, 105, 111, 110, 32, 115, 101, 108, 101, 99, 116, 32, 115, 111, 117, 114, 99, 101, 32, 115, 116, 121, 108, 101, 32, 115, 117, 109, 109, 97, 114, 121, 32, 116, 97, 98,
  108, 101, 32, 116, 98, 111, 100, 121, 32, 116, 100, 32, 116, 101, 120, 116, 97, 114, 101, 97, 32, 116, 102, 111, 111, 116, 32, 116, 104, 32, 116, 104, 101, 97, 100, 32, 116, 105, 116, 108, 101, 32,
  116, 114, 32, 116, 114, 97, 99, 107, 32, 117, 108, 32, 119, 98, 114, 32, 120, 109, 112])))), (3, (1, .c (.c (.s [97, 32, 98, 32, 98, 105, 103, 32, 99, 111, 100, 101, 32, 101, 109, 32, 102, 111, 110,
  116, 32, 105, 32, 110, 111, 98, 114, 32, 115, 32, 115, 109, 97, 108, 108, 32, 115, 116, 114, 105, 107, 101, 32, 115, 116, 114, 111, 110, 103, 32, 116, 116, 32, 117])))), (4, (1, .c (.c (.s [100, 100,
  32, 100, 116, 32, 108, 105, 32, 111, 112, 116, 105, 111, 110, 32, 112, 32, 114, 112, 32, 114, 116])))), (5, (1, .c (.c (.s [104, 49, 32, 104, 50, 32, 104, 51, 32, 104, 52, 32, 104, 53, 32, 104,
  54])))), (6, (1, .c (.c (.s [97, 100, 100, 114, 101, 115, 115, 32, 97, 114, 116, 105, 99, 108, 101, 32, 97, 115, 105, 100, 101, 32, 98, 108, 111, 99, 107, 113, 117, 111, 116, 101, 32, 99, 101, 110,
  116, 101, 114, 32, 100, 101, 116, 97, 105, 108, 115, 32, 100, 105, 114, 32, 100, 105, 118, 32, 100, 108, 32, 102, 105, 101, 108, 100, 115, 101, 116, 32, 102, 105, 103, 99, 97, 112, 116, 105, 111,
  110, 32, 102, 105, 103, 117, 114, 101, 32, 102, 111, 111, 116, 101, 114, 32, 102, 111, 114, 109, 32, 104, 101, 97, 100, 101, 114, 32, 104, 103, 114, 111, 117, 112, 32, 109, 97, 105, 110, 32, 109,
  101, 110, 117, 32, 110, 97, 118, 32, 111, 108, 32, 112, 114, 101, 32, 115, 101, 97, 114, 99, 104, 32, 115, 101, 99, 116, 105, 111, 110, 32, 115, 117, 109, 109, 97, 114, 121, 32, 117, 108])))), (7,
  (1, .c (.c (.s [97, 112, 112, 108, 101, 116, 32, 109, 97, 114, 113, 117, 101, 101, 32, 111, 98, 106, 101, 99, 116])))), (8, (1, .c (.c (.s [98, 97, 115, 101, 32, 108, 105, 110, 107, 32, 109, 101,
  116, 97, 32, 116, 105, 116, 108, 101, 32, 115, 116, 121, 108, 101, 32, 115, 99, 114, 105, 112, 116, 32, 110, 111, 102, 114, 97, 109, 101, 115]))))], []⟩, ⟨some ⟨.a, .d⟩, none, .new 51 (.c (.a [.s [],
  .s [], .s [], .s [], .s [], .s [], .s [], .s [], .s []])), []⟩, ⟨none, none, .st 9 (.t ⟨.a, .d⟩) (.t ⟨.a, .e⟩), []⟩]) (.seq (.seq (.reg [⟨some ⟨.a, .g⟩, none, .bin .lss (.t ⟨.a, .a⟩) (.c (.c (.i .i64
  (.ofNat 1)))), []⟩, ⟨some ⟨.a, .h⟩, none, .mv (.t ⟨.a, .g⟩), []⟩, ⟨some ⟨.a, .i⟩, some (⟨.a, .h⟩, false), .mv (.t ⟨.a, .a⟩), []⟩, ⟨some ⟨.a, .j⟩, some (⟨.a, .h⟩, false), .bin .geq (.t ⟨.a, .i⟩) (.c
  (.c (.i .i64 (.ofNat 9)))), []⟩, ⟨some ⟨.a, .k⟩, none, .pk (.t ⟨.a, .h⟩) (.c (.c (.b true))) (.t ⟨.a, .j⟩), []⟩]) (.cond (.t ⟨.a, .k⟩) (.seq (.reg [⟨some ⟨.a, .c⟩, none, .mv (.c (.c (.s []))), []⟩])
  .ret) .skip)) (.seq (.reg [⟨some ⟨.a, .m⟩, none, .ip 1 9 (.t ⟨.a, .d⟩) (.t ⟨.a, .a⟩), []⟩, ⟨some ⟨.a, .n⟩, none, .ld 1 false (.t ⟨.a, .m⟩), []⟩, ⟨some ⟨.a, .c⟩, none, .mv (.t ⟨.a, .n⟩), []⟩])
  .ret))), [(⟨.a, .c⟩, none)]⟩

theorem ok134 : FnR Go.Proofs.Tryz.prog 0 134 cf134 := fnC_ok [5, 11] Go.Proofs.Tryz.func134 (by kernel_rfl) (by kernel_rfl)

def cf135 : CF := ⟨19, 2, .seq (.reg [⟨some ⟨.a, .e⟩, none, .mv (.c (.c (.i .i64 (.ofNat 0)))), []⟩]) (.seq (.seq (.reg [⟨some ⟨.a, .h⟩, none, .len true (.t ⟨.a, .a⟩), []⟩, ⟨some ⟨.a, .i⟩, none, .mv (.c (.c (.i .i64
  (.ofNat 0)))), []⟩]) (.blk 0 (.loop (.seq (.reg [⟨some ⟨.a, .j⟩, none, .bin .lss (.t ⟨.a, .i⟩) (.t ⟨.a, .h⟩), []⟩]) (.seq (.cond (.t ⟨.a, .j⟩) .skip (.exit 0)) (.seq (.blk 1 (.seq (.reg [⟨some ⟨.a,
  .f⟩, none, .mv (.t ⟨.a, .i⟩), []⟩]) (.seq (.reg [⟨some ⟨.a, .o⟩, none, .ia 1 (.t ⟨.a, .a⟩) (.t ⟨.a, .f⟩), []⟩, ⟨some ⟨.a, .p⟩, none, .ld 1 false (.t ⟨.a, .o⟩), []⟩, ⟨some ⟨.b, .a⟩, none, .callv (.t
  ⟨.a, .b⟩) [.t ⟨.a, .p⟩], []⟩]) (.cond (.t ⟨.b, .a⟩) (.seq (.reg [⟨some ⟨.a, .e⟩, none, .mv (.t ⟨.a, .f⟩), []⟩]) .ret) .skip)))) (.reg [⟨some ⟨.b, .c⟩, none, .bin .add (.t ⟨.a, .i⟩) (.c (.c (.i .i64
  (.ofNat 1)))), []⟩, ⟨some ⟨.a, .i⟩, none, .mv (.t ⟨.b, .c⟩), []⟩]))))))) (.seq (.reg [⟨some ⟨.a, .e⟩, none, .mv (.c (.c (.i .i64 (.negSucc 0)))), []⟩]) .ret)), [(⟨.a, .e⟩, none)]⟩

theorem ok135 : FnR Go.Proofs.Tryz.prog 0 135 cf135 := fnC_ok [6, 10, 11, 12, 13, 17] Go.Proofs.Tryz.func135 (by kernel_rfl) (by kernel_rfl)

def cf136 : CF := ⟨10, 2, .seq (.reg [⟨some ⟨.a, .d⟩, none, .mv (.c (.c (.b false))), []⟩]) (.seq (.dreg [⟨some ⟨.a, .e⟩, none, .mv (.t ⟨.a, .a⟩), []⟩, ⟨some ⟨.a, .f⟩, none, .nc (.t ⟨.a, .e⟩), []⟩, ⟨some ⟨.a, .g⟩,
  none, .fa 0 (.t ⟨.a, .f⟩), []⟩, ⟨some ⟨.a, .h⟩, none, .ld 1 false (.t ⟨.a, .g⟩), []⟩, ⟨some ⟨.a, .i⟩, none, .ld 1 false (.t ⟨.a, .b⟩), []⟩, ⟨some ⟨.a, .j⟩, none, .bin .eql (.t ⟨.a, .h⟩) (.t ⟨.a,
  .i⟩), []⟩, ⟨some ⟨.a, .d⟩, none, .mv (.t ⟨.a, .j⟩), []⟩]) .ret), [(⟨.a, .d⟩, none)]⟩

theorem ok136 : FnR Go.Proofs.Tryz.prog 0 136 cf136 := fnC_ok [] Go.Proofs.Tryz.func136 (by kernel_rfl) (by kernel_rfl)

def cf137 : CF := ⟨27, 3, .seq (.reg [⟨some ⟨.a, .g⟩, none, .mv (.c (.c (.b false))), []⟩]) (.seq (.seq (.reg [⟨some ⟨.a, .j⟩, none, .len true (.t ⟨.a, .a⟩), []⟩, ⟨some ⟨.a, .k⟩, none, .bin .sub (.t ⟨.a, .j⟩) (.c (.c
  (.i .i64 (.ofNat 1)))), []⟩, ⟨some ⟨.a, .h⟩, none, .mv (.t ⟨.a, .k⟩), []⟩]) (.blk 0 (.loop (.seq (.seq (.reg [⟨some ⟨.a, .m⟩, none, .bin .geq (.t ⟨.a, .h⟩) (.c (.c (.i .i64 (.ofNat 0)))), []⟩])
  (.cond (.t ⟨.a, .m⟩) .skip (.exit 0))) (.seq (.blk 1 (.seq (.seq (.reg [⟨some ⟨.b, .b⟩, none, .ia 1 (.t ⟨.a, .a⟩) (.t ⟨.a, .h⟩), []⟩, ⟨some ⟨.b, .c⟩, none, .ld 1 false (.t ⟨.b, .b⟩), []⟩, ⟨some ⟨.b,
  .e⟩, none, .bin .eql (.t ⟨.b, .c⟩) (.t ⟨.a, .b⟩), []⟩]) (.cond (.t ⟨.b, .e⟩) (.seq (.reg [⟨some ⟨.a, .g⟩, none, .mv (.c (.c (.b true))), []⟩]) .ret) .skip)) (.seq (.reg [⟨some ⟨.b, .h⟩, none, .ia 1
  (.t ⟨.a, .a⟩) (.t ⟨.a, .h⟩), []⟩, ⟨some ⟨.b, .i⟩, none, .ld 1 false (.t ⟨.b, .h⟩), []⟩, ⟨some ⟨.b, .k⟩, none, .call 161 [.t ⟨.b, .i⟩, .t ⟨.a, .c⟩], []⟩]) (.cond (.t ⟨.b, .k⟩) (.exit 0) .skip))))
  (.reg [⟨some ⟨.a, .o⟩, none, .bin .sub (.t ⟨.a, .h⟩) (.c (.c (.i .i64 (.ofNat 1)))), []⟩, ⟨some ⟨.a, .h⟩, none, .mv (.t ⟨.a, .o⟩), []⟩])))))) (.seq (.reg [⟨some ⟨.a, .g⟩, none, .mv (.c (.c (.b
  false))), []⟩]) .ret)), [(⟨.a, .g⟩, none)]⟩

theorem ok137 : FnR Go.Proofs.Tryz.prog 0 137 cf137 := fnC_ok [8, 11, 13, 15, 16, 19, 21, 22, 25] Go.Proofs.Tryz.func137 (by kernel_rfl) (by kernel_rfl)

def cf139 : CF := ⟨30, 2, .seq (.reg [⟨some ⟨.a, .e⟩, none, .mv (.c (.c (.i .i64 (.ofNat 0)))), []⟩]) (.seq (.reg [⟨some ⟨.a, .f⟩, none, .mv (.c (.c (.i .i64 (.ofNat 0)))), []⟩]) (.seq (.blk 0 (.loop (.seq (.seq (.reg
  [⟨some ⟨.a, .j⟩, none, .len true (.t ⟨.a, .a⟩), []⟩, ⟨some ⟨.a, .k⟩, none, .bin .lss (.t ⟨.a, .f⟩) (.t ⟨.a, .j⟩), []⟩]) (.cond (.t ⟨.a, .k⟩) .skip (.exit 0))) (.blk 1 (.seq (.reg [⟨some ⟨.a, .n⟩,
  none, .len true (.t ⟨.a, .a⟩), []⟩, ⟨some ⟨.a, .o⟩, none, .bin .sub (.t ⟨.a, .n⟩) (.c (.c (.i .i64 (.ofNat 1)))), []⟩, ⟨some ⟨.b, .a⟩, none, .bin .sub (.t ⟨.a, .o⟩) (.t ⟨.a, .f⟩), []⟩, ⟨some ⟨.b,
  .b⟩, none, .ia 1 (.t ⟨.a, .a⟩) (.t ⟨.b, .a⟩), []⟩, ⟨some ⟨.b, .c⟩, none, .ld 1 false (.t ⟨.b, .b⟩), []⟩, ⟨some ⟨.a, .g⟩, none, .mv (.t ⟨.b, .c⟩), []⟩]) (.seq (.seq (.reg [⟨some ⟨.b, .f⟩, none, .bin
  .eql (.t ⟨.a, .g⟩) (.t ⟨.a, .b⟩), []⟩, ⟨some ⟨.b, .g⟩, none, .mv (.t ⟨.b, .f⟩), []⟩, ⟨some ⟨.b, .h⟩, some (⟨.b, .g⟩, false), .mv (.t ⟨.a, .g⟩), []⟩, ⟨some ⟨.b, .i⟩, some (⟨.b, .g⟩, false), .call 105
  [.t ⟨.b, .h⟩, .c (.c (.i .i64 (.ofNat 4)))], []⟩, ⟨some ⟨.b, .j⟩, some (⟨.b, .g⟩, false), .un .not (.t ⟨.b, .i⟩), []⟩, ⟨some ⟨.b, .k⟩, none, .pk (.t ⟨.b, .g⟩) (.c (.c (.b true))) (.t ⟨.b, .j⟩), []⟩])
  (.cond (.t ⟨.b, .k⟩) (.exit 0) .skip)) (.reg [⟨some ⟨.b, .m⟩, none, .bin .add (.t ⟨.a, .f⟩) (.c (.c (.i .i64 (.ofNat 1)))), []⟩, ⟨some ⟨.a, .f⟩, none, .mv (.t ⟨.b, .m⟩), []⟩]))))))) (.seq (.reg
  [⟨some ⟨.a, .e⟩, none, .mv (.t ⟨.a, .f⟩), []⟩]) .ret))), [(⟨.a, .e⟩, none)]⟩

theorem ok139 : FnR Go.Proofs.Tryz.prog 0 139 cf139 := fnC_ok [7, 8, 11, 12, 15, 19, 20, 27, 29] Go.Proofs.Tryz.func139 (by kernel_rfl) (by kernel_rfl)

def cf140 : CF := ⟨26, 1, .seq (.reg [⟨some ⟨.a, .c⟩, none, .mv (.c (.c (.i .i64 (.ofNat 0)))), []⟩]) (.seq (.reg [⟨some ⟨.a, .f⟩, none, .nc (.t ⟨.a, .a⟩), []⟩, ⟨some ⟨.a, .g⟩, none, .fa 0 (.t ⟨.a, .f⟩), []⟩, ⟨some
  ⟨.a, .h⟩, none, .ld 1 false (.t ⟨.a, .g⟩), []⟩, ⟨some ⟨.a, .i⟩, none, .len true (.t ⟨.a, .h⟩), []⟩, ⟨some ⟨.a, .d⟩, none, .mv (.t ⟨.a, .i⟩), []⟩]) (.seq (.blk 0 (.loop (.seq (.seq (.reg [⟨some ⟨.a,
  .k⟩, none, .bin .gtr (.t ⟨.a, .d⟩) (.c (.c (.i .i64 (.ofNat 0)))), []⟩, ⟨some ⟨.a, .l⟩, none, .mv (.t ⟨.a, .k⟩), []⟩, ⟨some ⟨.a, .m⟩, some (⟨.a, .l⟩, true), .mv (.t ⟨.a, .a⟩), []⟩, ⟨some ⟨.a, .n⟩,
  some (⟨.a, .l⟩, true), .nc (.t ⟨.a, .m⟩), []⟩, ⟨some ⟨.a, .o⟩, some (⟨.a, .l⟩, true), .fa 0 (.t ⟨.a, .n⟩), []⟩, ⟨some ⟨.a, .p⟩, some (⟨.a, .l⟩, true), .ld 1 false (.t ⟨.a, .o⟩), []⟩, ⟨some ⟨.b, .a⟩,
  some (⟨.a, .l⟩, true), .mv (.t ⟨.a, .d⟩), []⟩, ⟨some ⟨.b, .b⟩, some (⟨.a, .l⟩, true), .bin .sub (.t ⟨.b, .a⟩) (.c (.c (.i .i64 (.ofNat 1)))), []⟩, ⟨some ⟨.b, .c⟩, some (⟨.a, .l⟩, true), .ia 4 (.t
  ⟨.a, .p⟩) (.t ⟨.b, .b⟩), []⟩, ⟨some ⟨.b, .d⟩, some (⟨.a, .l⟩, true), .fa 3 (.t ⟨.b, .c⟩), []⟩, ⟨some ⟨.b, .e⟩, some (⟨.a, .l⟩, true), .ld 1 false (.t ⟨.b, .d⟩), []⟩, ⟨some ⟨.b, .f⟩, some (⟨.a, .l⟩,
  true), .un .not (.t ⟨.b, .e⟩), []⟩, ⟨some ⟨.b, .g⟩, none, .pk (.t ⟨.a, .l⟩) (.t ⟨.b, .f⟩) (.c (.c (.b false))), []⟩]) (.cond (.t ⟨.b, .g⟩) .skip (.exit 0))) (.blk 1 (.reg [⟨some ⟨.b, .i⟩, none, .bin
  .sub (.t ⟨.a, .d⟩) (.c (.c (.i .i64 (.ofNat 1)))), []⟩, ⟨some ⟨.a, .d⟩, none, .mv (.t ⟨.b, .i⟩), []⟩]))))) (.seq (.reg [⟨some ⟨.a, .c⟩, none, .mv (.t ⟨.a, .d⟩), []⟩]) .ret))), [(⟨.a, .c⟩, none)]⟩

theorem ok140 : FnR Go.Proofs.Tryz.prog 0 140 cf140 := fnC_ok [4, 9, 23, 25] Go.Proofs.Tryz.func140 (by kernel_rfl) (by kernel_rfl)

def cf141 : CF := ⟨8, 1, .seq (.reg [⟨some ⟨.a, .c⟩, none, .mv (.c (.c (.i .i64 (.ofNat 0)))), []⟩]) (.seq (.reg [⟨some ⟨.a, .e⟩, none, .nc (.t ⟨.a, .a⟩), []⟩, ⟨some ⟨.a, .f⟩, none, .fa 0 (.t ⟨.a, .e⟩), []⟩, ⟨some
  ⟨.a, .g⟩, none, .ld 1 false (.t ⟨.a, .f⟩), []⟩, ⟨some ⟨.a, .h⟩, none, .len true (.t ⟨.a, .g⟩), []⟩, ⟨some ⟨.a, .c⟩, none, .mv (.t ⟨.a, .h⟩), []⟩]) .ret), [(⟨.a, .c⟩, none)]⟩

theorem ok141 : FnR Go.Proofs.Tryz.prog 0 141 cf141 := fnC_ok [3] Go.Proofs.Tryz.func141 (by kernel_rfl) (by kernel_rfl)

def cf142 : CF := ⟨26, 2, .seq (.reg [⟨some ⟨.a, .e⟩, none, .mv (.c (.c (.b false))), []⟩]) (.seq (.reg [⟨some ⟨.a, .j⟩, none, .nc (.t ⟨.a, .a⟩), []⟩, ⟨some ⟨.a, .k⟩, none, .fa 4 (.t ⟨.a, .j⟩), []⟩, ⟨some ⟨.a, .l⟩,
  none, .ld 1 false (.t ⟨.a, .k⟩), []⟩, ⟨some ⟨.a, .n⟩, none, .call 143 [.t ⟨.a, .l⟩, .t ⟨.a, .b⟩], []⟩, ⟨some ⟨.a, .o⟩, none, .ext 0 (.t ⟨.a, .n⟩), []⟩, ⟨some ⟨.a, .p⟩, none, .ext 1 (.t ⟨.a, .n⟩),
  []⟩, ⟨some ⟨.a, .f⟩, none, .new 128 (.c (.a [.i .i64 (.ofNat 0), .s [], .sl none 0 0 0])), []⟩, ⟨none, none, .st 3 (.t ⟨.a, .f⟩) (.t ⟨.a, .o⟩), []⟩]) (.seq (.reg [⟨some ⟨.b, .a⟩, none, .fa 0 (.t ⟨.a,
  .f⟩), []⟩, ⟨some ⟨.b, .b⟩, none, .ld 1 false (.t ⟨.b, .a⟩), []⟩, ⟨some ⟨.b, .c⟩, none, .bin .eql (.t ⟨.b, .b⟩) (.c (.c (.i .i64 (.ofNat 0)))), []⟩, ⟨some ⟨.b, .d⟩, none, .mv (.t ⟨.b, .c⟩), []⟩, ⟨some
  ⟨.b, .e⟩, some (⟨.b, .d⟩, false), .mv (.t ⟨.a, .a⟩), []⟩, ⟨some ⟨.b, .f⟩, some (⟨.b, .d⟩, false), .fa 0 (.t ⟨.a, .f⟩), []⟩, ⟨some ⟨.b, .g⟩, some (⟨.b, .d⟩, false), .ld 1 false (.t ⟨.b, .f⟩), []⟩,
  ⟨some ⟨.b, .h⟩, some (⟨.b, .d⟩, false), .call 106 [.t ⟨.b, .e⟩, .t ⟨.b, .g⟩], []⟩, ⟨some ⟨.b, .i⟩, some (⟨.b, .d⟩, false), .bin .geq (.t ⟨.b, .h⟩) (.c (.c (.i .i64 (.ofNat 0)))), []⟩, ⟨some ⟨.b, .j⟩,
  none, .pk (.t ⟨.b, .d⟩) (.c (.c (.b true))) (.t ⟨.b, .i⟩), []⟩, ⟨some ⟨.a, .e⟩, none, .mv (.t ⟨.b, .j⟩), []⟩]) .ret)), [(⟨.a, .e⟩, none)]⟩

theorem ok142 : FnR Go.Proofs.Tryz.prog 0 142 cf142 := fnC_ok [6, 7, 8, 12] Go.Proofs.Tryz.func142 (by kernel_rfl) (by kernel_rfl)

def cf143 : CF := ⟨27, 2, .seq (.reg [⟨some ⟨.a, .e⟩, none, .new 128 (.c (.a [.i .i64 (.ofNat 0), .s [], .sl none 0 0 0])), []⟩, ⟨some ⟨.a, .f⟩, none, .mv (.c (.c (.b false))), []⟩]) (.seq (.seq (.reg [⟨some ⟨.a, .h⟩,
  none, .bin .lss (.t ⟨.a, .b⟩) (.c (.c (.i .i64 (.ofNat 0)))), []⟩, ⟨some ⟨.a, .i⟩, none, .mv (.t ⟨.a, .h⟩), []⟩, ⟨some ⟨.a, .j⟩, some (⟨.a, .i⟩, false), .mv (.t ⟨.a, .b⟩), []⟩, ⟨some ⟨.a, .k⟩, some
  (⟨.a, .i⟩, false), .mv (.t ⟨.a, .a⟩), []⟩, ⟨some ⟨.a, .l⟩, some (⟨.a, .i⟩, false), .nc (.t ⟨.a, .k⟩), []⟩, ⟨some ⟨.a, .m⟩, some (⟨.a, .i⟩, false), .fa 0 (.t ⟨.a, .l⟩), []⟩, ⟨some ⟨.a, .n⟩, some (⟨.a,
  .i⟩, false), .ld 1 false (.t ⟨.a, .m⟩), []⟩, ⟨some ⟨.a, .o⟩, some (⟨.a, .i⟩, false), .len true (.t ⟨.a, .n⟩), []⟩, ⟨some ⟨.a, .p⟩, some (⟨.a, .i⟩, false), .bin .geq (.t ⟨.a, .j⟩) (.t ⟨.a, .o⟩), []⟩,
  ⟨some ⟨.b, .a⟩, none, .pk (.t ⟨.a, .i⟩) (.c (.c (.b true))) (.t ⟨.a, .p⟩), []⟩]) (.cond (.t ⟨.b, .a⟩) (.seq (.reg [⟨some ⟨.b, .b⟩, none, .bld [.i .i64 (.ofNat 0), .s [], .sl none 0 0 0] [], []⟩,
  ⟨none, none, .st 3 (.t ⟨.a, .e⟩) (.t ⟨.b, .b⟩), []⟩, ⟨some ⟨.a, .f⟩, none, .mv (.c (.c (.b false))), []⟩]) .ret) .skip)) (.seq (.reg [⟨some ⟨.b, .d⟩, none, .nc (.t ⟨.a, .a⟩), []⟩, ⟨some ⟨.b, .e⟩,
  none, .fa 0 (.t ⟨.b, .d⟩), []⟩, ⟨some ⟨.b, .f⟩, none, .ld 1 false (.t ⟨.b, .e⟩), []⟩, ⟨some ⟨.b, .h⟩, none, .ia 4 (.t ⟨.b, .f⟩) (.t ⟨.a, .b⟩), []⟩, ⟨some ⟨.b, .i⟩, none, .fa 0 (.t ⟨.b, .h⟩), []⟩,
  ⟨some ⟨.b, .j⟩, none, .ld 3 true (.t ⟨.b, .i⟩), []⟩, ⟨some ⟨.b, .k⟩, none, .call 163 [.t ⟨.b, .j⟩], []⟩, ⟨none, none, .st 3 (.t ⟨.a, .e⟩) (.t ⟨.b, .k⟩), []⟩, ⟨some ⟨.a, .f⟩, none, .mv (.c (.c (.b
  true))), []⟩]) .ret)), [(⟨.a, .e⟩, some (3, true)), (⟨.a, .f⟩, none)]⟩

theorem ok143 : FnR Go.Proofs.Tryz.prog 0 143 cf143 := fnC_ok [6, 18, 22] Go.Proofs.Tryz.func143 (by kernel_rfl) (by kernel_rfl)

def cf144 : CF := ⟨24, 3, .seq (.reg [⟨some ⟨.a, .f⟩, none, .new 128 (.t ⟨.a, .c⟩), []⟩, ⟨some ⟨.a, .g⟩, none, .mv (.c (.c (.b false))), []⟩]) (.seq (.reg [⟨some ⟨.a, .k⟩, none, .call 164 [.t ⟨.a, .a⟩, .t ⟨.a, .b⟩],
  []⟩, ⟨some ⟨.a, .h⟩, none, .mv (.t ⟨.a, .k⟩), []⟩]) (.seq (.seq (.reg [⟨some ⟨.a, .m⟩, none, .bin .geq (.t ⟨.a, .h⟩) (.c (.c (.i .i64 (.ofNat 0)))), []⟩]) (.cond (.t ⟨.a, .m⟩) (.dreg [⟨some ⟨.a, .n⟩,
  none, .mv (.t ⟨.a, .a⟩), []⟩, ⟨some ⟨.a, .o⟩, none, .nc (.t ⟨.a, .n⟩), []⟩, ⟨some ⟨.a, .p⟩, none, .fa 0 (.t ⟨.a, .o⟩), []⟩, ⟨some ⟨.b, .a⟩, none, .ld 1 false (.t ⟨.a, .p⟩), []⟩, ⟨some ⟨.b, .b⟩, none,
  .mv (.t ⟨.a, .h⟩), []⟩, ⟨some ⟨.b, .c⟩, none, .ld 3 true (.t ⟨.a, .f⟩), []⟩, ⟨some ⟨.b, .d⟩, none, .call 163 [.t ⟨.b, .c⟩], [⟨some ⟨.b, .a⟩, none, .ld 1 false (.t ⟨.a, .p⟩)⟩]⟩, ⟨some ⟨.b, .e⟩, none,
  .ia 4 (.t ⟨.b, .a⟩) (.t ⟨.b, .b⟩), []⟩, ⟨some ⟨.b, .f⟩, none, .fa 0 (.t ⟨.b, .e⟩), []⟩, ⟨none, none, .st 3 (.t ⟨.b, .f⟩) (.t ⟨.b, .d⟩), []⟩]) .skip)) (.seq (.reg [⟨some ⟨.b, .h⟩, none, .bin .geq (.t
  ⟨.a, .h⟩) (.c (.c (.i .i64 (.ofNat 0)))), []⟩, ⟨some ⟨.a, .g⟩, none, .mv (.t ⟨.b, .h⟩), []⟩]) .ret))), [(⟨.a, .g⟩, none)]⟩

theorem ok144 : FnR Go.Proofs.Tryz.prog 0 144 cf144 := fnC_ok [8, 9, 11, 22] Go.Proofs.Tryz.func144 (by kernel_rfl) (by kernel_rfl)

def cf145 : CF := ⟨16, 1, .seq (.reg [⟨some ⟨.a, .c⟩, none, .new 128 (.c (.a [.i .i64 (.ofNat 0), .s [], .sl none 0 0 0])), []⟩]) (.seq (.dreg [⟨some ⟨.a, .d⟩, none, .mv (.t ⟨.a, .a⟩), []⟩, ⟨some ⟨.a, .e⟩, none, .nc
  (.t ⟨.a, .d⟩), []⟩, ⟨some ⟨.a, .f⟩, none, .fa 0 (.t ⟨.a, .e⟩), []⟩, ⟨some ⟨.a, .g⟩, none, .ld 1 false (.t ⟨.a, .f⟩), []⟩, ⟨some ⟨.a, .h⟩, none, .mv (.t ⟨.a, .a⟩), []⟩, ⟨some ⟨.a, .i⟩, none, .nc (.t
  ⟨.a, .h⟩), []⟩, ⟨some ⟨.a, .j⟩, none, .fa 2 (.t ⟨.a, .i⟩), []⟩, ⟨some ⟨.a, .k⟩, none, .ld 1 false (.t ⟨.a, .j⟩), []⟩, ⟨some ⟨.a, .l⟩, none, .mv (.t ⟨.a, .a⟩), []⟩, ⟨some ⟨.a, .m⟩, none, .nc (.t ⟨.a,
  .l⟩), []⟩, ⟨some ⟨.a, .n⟩, none, .fa 4 (.t ⟨.a, .m⟩), []⟩, ⟨some ⟨.a, .o⟩, none, .ld 1 false (.t ⟨.a, .n⟩), []⟩, ⟨some ⟨.a, .p⟩, none, .bld [.i .i64 (.ofNat 0), .s [], .sl none 0 0 0] [(0, (1, .t
  ⟨.a, .g⟩)), (1, (1, .t ⟨.a, .k⟩)), (2, (1, .t ⟨.a, .o⟩))], []⟩, ⟨none, none, .st 3 (.t ⟨.a, .c⟩) (.t ⟨.a, .p⟩), []⟩]) .ret), [(⟨.a, .c⟩, some (3, true))]⟩

theorem ok145 : FnR Go.Proofs.Tryz.prog 0 145 cf145 := fnC_ok [] Go.Proofs.Tryz.func145 (by kernel_rfl) (by kernel_rfl)

def cf147 : CF := ⟨9, 1, .seq (.reg [⟨some ⟨.a, .d⟩, none, .call 111 [.t ⟨.a, .a⟩, .c (.c (.s [112])), .c (.c (.i .i64 (.ofNat 3)))], []⟩]) (.cond (.t ⟨.a, .d⟩) (.seq (.reg [⟨some ⟨.a, .f⟩, none, .call 114 [.t ⟨.a,
  .a⟩, .c (.c (.s [112]))], []⟩]) (.reg [⟨some ⟨.a, .h⟩, none, .bsl 9 1 1 [.s []] [(0, (1, .c (.c (.s [112]))))], []⟩, ⟨some ⟨.a, .i⟩, none, .call 104 [.t ⟨.a, .a⟩, .t ⟨.a, .h⟩], []⟩])) .skip), []⟩

theorem ok147 : FnR Go.Proofs.Tryz.prog 0 147 cf147 := fnC_ok [2, 4, 6] Go.Proofs.Tryz.func147 (by kernel_rfl) (by kernel_rfl)

def cf148 : CF := ⟨48, 2, .seq .skip (.seq (.seq (.reg [⟨some ⟨.a, .h⟩, none, .nc (.t ⟨.a, .a⟩), []⟩, ⟨some ⟨.a, .i⟩, none, .fa 3 (.t ⟨.a, .h⟩), []⟩, ⟨some ⟨.a, .j⟩, none, .ld 1 false (.t ⟨.a, .i⟩), []⟩, ⟨some ⟨.a,
  .k⟩, none, .len true (.t ⟨.a, .j⟩), []⟩, ⟨some ⟨.a, .l⟩, none, .bin .sub (.t ⟨.a, .k⟩) (.c (.c (.i .i64 (.ofNat 1)))), []⟩, ⟨some ⟨.a, .e⟩, none, .mv (.t ⟨.a, .l⟩), []⟩]) (.blk 0 (.loop (.seq (.seq
  (.reg [⟨some ⟨.a, .n⟩, none, .bin .geq (.t ⟨.a, .e⟩) (.c (.c (.i .i64 (.ofNat 0)))), []⟩]) (.cond (.t ⟨.a, .n⟩) .skip (.exit 0))) (.seq (.blk 1 (.seq (.reg [⟨some ⟨.b, .b⟩, none, .nc (.t ⟨.a, .a⟩),
  []⟩, ⟨some ⟨.b, .c⟩, none, .fa 3 (.t ⟨.b, .b⟩), []⟩, ⟨some ⟨.b, .d⟩, none, .ld 1 false (.t ⟨.b, .c⟩), []⟩, ⟨some ⟨.b, .f⟩, none, .ia 1 (.t ⟨.b, .d⟩) (.t ⟨.a, .e⟩), []⟩, ⟨some ⟨.b, .g⟩, none, .ld 1
  false (.t ⟨.b, .f⟩), []⟩, ⟨some ⟨.b, .h⟩, none, .nc (.t ⟨.b, .g⟩), []⟩, ⟨some ⟨.b, .i⟩, none, .fa 2 (.t ⟨.b, .h⟩), []⟩, ⟨some ⟨.b, .j⟩, none, .ld 1 false (.t ⟨.b, .i⟩), []⟩, ⟨some ⟨.a, .f⟩, none, .mv
  (.t ⟨.b, .j⟩), []⟩]) (.blk 2 (.seq (.reg [⟨some ⟨.b, .n⟩, none, .call 38 [.t ⟨.a, .f⟩, .t ⟨.a, .b⟩], []⟩, ⟨some ⟨.b, .k⟩, none, .mv (.t ⟨.b, .n⟩), []⟩]) (.cond (.t ⟨.b, .k⟩) (.seq (.reg [⟨some ⟨.c,
  .a⟩, none, .call 114 [.t ⟨.a, .a⟩, .t ⟨.a, .f⟩], []⟩]) (.seq (.reg [⟨some ⟨.c, .d⟩, none, .bsl 9 1 1 [.s []] [(0, (1, .t ⟨.a, .f⟩))], []⟩, ⟨some ⟨.c, .e⟩, none, .call 104 [.t ⟨.a, .a⟩, .t ⟨.c, .d⟩],
  []⟩]) (.exit 0))) (.seq (.reg [⟨some ⟨.c, .h⟩, none, .call 105 [.t ⟨.a, .f⟩, .c (.c (.i .i64 (.ofNat 2)))], []⟩, ⟨some ⟨.c, .i⟩, none, .mv (.t ⟨.c, .h⟩), []⟩, ⟨some ⟨.c, .j⟩, some (⟨.c, .i⟩, true),
  .mv (.t ⟨.a, .f⟩), []⟩, ⟨some ⟨.c, .k⟩, some (⟨.c, .i⟩, true), .bsl 9 1 3 [.s [], .s [], .s []] [(0, (1, .c (.c (.s [97, 100, 100, 114, 101, 115, 115])))), (1, (1, .c (.c (.s [100, 105, 118])))), (2,
  (1, .c (.c (.s [112]))))], []⟩, ⟨some ⟨.c, .l⟩, some (⟨.c, .i⟩, true), .call 38 [.t ⟨.c, .j⟩, .t ⟨.c, .k⟩], []⟩, ⟨some ⟨.c, .m⟩, some (⟨.c, .i⟩, true), .un .not (.t ⟨.c, .l⟩), []⟩, ⟨some ⟨.c, .n⟩,
  none, .pk (.t ⟨.c, .i⟩) (.t ⟨.c, .m⟩) (.c (.c (.b false))), []⟩, ⟨some ⟨.c, .f⟩, none, .mv (.t ⟨.c, .n⟩), []⟩]) (.cond (.t ⟨.c, .f⟩) (.exit 0) .skip))))))) (.reg [⟨some ⟨.a, .p⟩, none, .bin .sub (.t
  ⟨.a, .e⟩) (.c (.c (.i .i64 (.ofNat 1)))), []⟩, ⟨some ⟨.a, .e⟩, none, .mv (.t ⟨.a, .p⟩), []⟩])))))) (.reg [⟨some ⟨.c, .p⟩, none, .call 147 [.t ⟨.a, .a⟩], []⟩])), []⟩

theorem ok148 : FnR Go.Proofs.Tryz.prog 0 148 cf148 := fnC_ok [6, 12, 14, 16, 20, 27, 28, 30, 31, 33, 34, 38, 46] Go.Proofs.Tryz.func148 (by kernel_rfl) (by kernel_rfl)

def cf149 : CF := ⟨77, 2, .seq (.reg [⟨some ⟨.a, .d⟩, none, .new 56 (.t ⟨.a, .b⟩), []⟩]) (.seq (.seq (.reg [⟨some ⟨.a, .h⟩, none, .fa 1 (.t ⟨.a, .d⟩), []⟩, ⟨some ⟨.a, .i⟩, none, .ld 1 false (.t ⟨.a, .h⟩), []⟩, ⟨some
  ⟨.a, .j⟩, none, .bin .eql (.t ⟨.a, .i⟩) (.c (.c (.s [97]))), []⟩]) (.cond (.t ⟨.a, .j⟩) (.seq (.reg [⟨some ⟨.a, .m⟩, none, .nc (.t ⟨.a, .a⟩), []⟩, ⟨some ⟨.a, .n⟩, none, .fa 4 (.t ⟨.a, .m⟩), []⟩,
  ⟨some ⟨.a, .o⟩, none, .ld 1 false (.t ⟨.a, .n⟩), []⟩, ⟨some ⟨.a, .p⟩, none, .call 169 [.t ⟨.a, .o⟩, .c (.c (.s [97]))], []⟩, ⟨some ⟨.b, .a⟩, none, .ext 0 (.t ⟨.a, .p⟩), []⟩, ⟨some ⟨.b, .b⟩, none,
  .ext 1 (.t ⟨.a, .p⟩), []⟩, ⟨some ⟨.a, .e⟩, none, .new 128 (.c (.a [.i .i64 (.ofNat 0), .s [], .sl none 0 0 0])), []⟩, ⟨none, none, .st 3 (.t ⟨.a, .e⟩) (.t ⟨.b, .a⟩), []⟩, ⟨some ⟨.a, .f⟩, none, .mv
  (.t ⟨.b, .b⟩), []⟩]) (.seq (.reg [⟨some ⟨.b, .c⟩, none, .mv (.t ⟨.a, .f⟩), []⟩]) (.cond (.t ⟨.b, .c⟩) (.seq (.reg [⟨some ⟨.b, .e⟩, none, .call 152 [.t ⟨.a, .a⟩, .c (.c (.s [97]))], []⟩]) (.seq (.dreg
  [⟨some ⟨.b, .f⟩, none, .mv (.t ⟨.a, .a⟩), []⟩, ⟨some ⟨.b, .g⟩, none, .nc (.t ⟨.b, .f⟩), []⟩, ⟨some ⟨.b, .h⟩, none, .fa 4 (.t ⟨.b, .g⟩), []⟩, ⟨some ⟨.b, .i⟩, none, .ld 1 false (.t ⟨.b, .h⟩), []⟩,
  ⟨some ⟨.b, .j⟩, none, .fa 0 (.t ⟨.a, .e⟩), []⟩, ⟨some ⟨.b, .k⟩, none, .ld 1 false (.t ⟨.b, .j⟩), []⟩, ⟨some ⟨.b, .l⟩, none, .call 170 [.t ⟨.b, .i⟩, .t ⟨.b, .k⟩], []⟩]) (.seq (.reg [⟨some ⟨.b, .n⟩,
  none, .fa 0 (.t ⟨.a, .e⟩), []⟩, ⟨some ⟨.b, .o⟩, none, .ld 1 false (.t ⟨.b, .n⟩), []⟩, ⟨some ⟨.b, .p⟩, none, .call 106 [.t ⟨.a, .a⟩, .t ⟨.b, .o⟩], []⟩, ⟨some ⟨.a, .g⟩, none, .mv (.t ⟨.b, .p⟩), []⟩])
  (.seq (.reg [⟨some ⟨.c, .b⟩, none, .bin .geq (.t ⟨.a, .g⟩) (.c (.c (.i .i64 (.ofNat 0)))), []⟩]) (.cond (.t ⟨.c, .b⟩) (.dreg [⟨some ⟨.c, .c⟩, none, .mv (.t ⟨.a, .a⟩), []⟩, ⟨some ⟨.c, .d⟩, none, .mv
  (.t ⟨.a, .a⟩), []⟩, ⟨some ⟨.c, .e⟩, none, .nc (.t ⟨.c, .d⟩), []⟩, ⟨some ⟨.c, .f⟩, none, .fa 3 (.t ⟨.c, .e⟩), []⟩, ⟨some ⟨.c, .g⟩, none, .ld 1 false (.t ⟨.c, .f⟩), []⟩, ⟨some ⟨.c, .h⟩, none, .mv (.t
  ⟨.a, .g⟩), []⟩, ⟨some ⟨.c, .i⟩, none, .mv (.t ⟨.a, .g⟩), []⟩, ⟨some ⟨.c, .j⟩, none, .slc 1 (.t ⟨.c, .g⟩) none (some (.t ⟨.c, .h⟩)) (some (.t ⟨.c, .i⟩)), []⟩, ⟨some ⟨.c, .k⟩, none, .mv (.t ⟨.a, .a⟩),
  []⟩, ⟨some ⟨.c, .l⟩, none, .nc (.t ⟨.c, .k⟩), []⟩, ⟨some ⟨.c, .m⟩, none, .fa 3 (.t ⟨.c, .l⟩), []⟩, ⟨some ⟨.c, .n⟩, none, .ld 1 false (.t ⟨.c, .m⟩), []⟩, ⟨some ⟨.c, .o⟩, none, .mv (.t ⟨.a, .g⟩), []⟩,
  ⟨some ⟨.c, .p⟩, none, .bin .add (.t ⟨.c, .o⟩) (.c (.c (.i .i64 (.ofNat 1)))), []⟩, ⟨some ⟨.d, .a⟩, none, .slc 1 (.t ⟨.c, .n⟩) (some (.t ⟨.c, .p⟩)) none none, []⟩, ⟨some ⟨.d, .b⟩, none, .app 58 1
  false (.t ⟨.c, .j⟩) (.t ⟨.d, .a⟩), []⟩, ⟨some ⟨.d, .c⟩, none, .nc (.t ⟨.c, .c⟩), []⟩, ⟨some ⟨.d, .d⟩, none, .fa 3 (.t ⟨.d, .c⟩), []⟩, ⟨none, none, .st 1 (.t ⟨.d, .d⟩) (.t ⟨.d, .b⟩), []⟩]) .skip)))))
  .skip))) .skip)) (.seq (.reg [⟨some ⟨.d, .f⟩, none, .call 119 [.t ⟨.a, .a⟩], []⟩]) (.seq (.seq (.reg [⟨some ⟨.d, .g⟩, none, .fa 1 (.t ⟨.a, .d⟩), []⟩, ⟨some ⟨.d, .h⟩, none, .ld 1 false (.t ⟨.d, .g⟩),
  []⟩, ⟨some ⟨.d, .i⟩, none, .bin .eql (.t ⟨.d, .h⟩) (.c (.c (.s [110, 111, 98, 114]))), []⟩, ⟨some ⟨.d, .j⟩, none, .mv (.t ⟨.d, .i⟩), []⟩, ⟨some ⟨.d, .k⟩, some (⟨.d, .j⟩, true), .mv (.t ⟨.a, .a⟩),
  []⟩, ⟨some ⟨.d, .l⟩, some (⟨.d, .j⟩, true), .call 111 [.t ⟨.d, .k⟩, .c (.c (.s [110, 111, 98, 114])), .c (.c (.i .i64 (.ofNat 1)))], []⟩, ⟨some ⟨.d, .m⟩, none, .pk (.t ⟨.d, .j⟩) (.t ⟨.d, .l⟩) (.c (.c
  (.b false))), []⟩]) (.cond (.t ⟨.d, .m⟩) (.seq (.reg [⟨some ⟨.d, .o⟩, none, .call 152 [.t ⟨.a, .a⟩, .c (.c (.s [110, 111, 98, 114]))], []⟩]) (.reg [⟨some ⟨.e, .a⟩, none, .call 119 [.t ⟨.a, .a⟩],
  []⟩])) .skip)) (.dreg [⟨some ⟨.e, .b⟩, none, .mv (.t ⟨.a, .a⟩), []⟩, ⟨some ⟨.e, .c⟩, none, .nc (.t ⟨.e, .b⟩), []⟩, ⟨some ⟨.e, .d⟩, none, .fa 4 (.t ⟨.e, .c⟩), []⟩, ⟨some ⟨.e, .e⟩, none, .ld 1 false
  (.t ⟨.e, .d⟩), []⟩, ⟨some ⟨.e, .f⟩, none, .mv (.t ⟨.a, .a⟩), []⟩, ⟨some ⟨.e, .g⟩, none, .fa 1 (.t ⟨.a, .d⟩), []⟩, ⟨some ⟨.e, .h⟩, none, .ld 1 false (.t ⟨.e, .g⟩), []⟩, ⟨some ⟨.e, .i⟩, none, .fa 3 (.t
  ⟨.a, .d⟩), []⟩, ⟨some ⟨.e, .j⟩, none, .ld 1 false (.t ⟨.e, .i⟩), []⟩, ⟨some ⟨.e, .k⟩, none, .call 101 [.t ⟨.e, .f⟩, .t ⟨.e, .h⟩, .t ⟨.e, .j⟩], [⟨some ⟨.e, .e⟩, none, .ld 1 false (.t ⟨.e, .d⟩)⟩]⟩,
  ⟨some ⟨.e, .l⟩, none, .call 145 [.t ⟨.e, .k⟩], [⟨some ⟨.e, .e⟩, none, .ld 1 false (.t ⟨.e, .d⟩)⟩]⟩, ⟨some ⟨.e, .m⟩, none, .call 171 [.t ⟨.e, .e⟩, .t ⟨.e, .l⟩], []⟩])))), []⟩

theorem ok149 : FnR Go.Proofs.Tryz.prog 0 149 cf149 := fnC_ok [10, 11, 19, 28, 32, 52, 61, 63] Go.Proofs.Tryz.func149 (by kernel_rfl) (by kernel_rfl)

def cf150 : CF := ⟨67, 2, .seq (.reg [⟨some ⟨.a, .d⟩, none, .new 56 (.t ⟨.a, .b⟩), []⟩, ⟨some ⟨.a, .e⟩, none, .mv (.c (.c (.b false))), []⟩]) (.seq (.reg [⟨some ⟨.a, .g⟩, none, .fa 1 (.t ⟨.a, .d⟩), []⟩, ⟨some ⟨.a,
  .h⟩, none, .ld 1 false (.t ⟨.a, .g⟩), []⟩, ⟨some ⟨.a, .f⟩, none, .mv (.t ⟨.a, .h⟩), []⟩]) (.seq (.blk 0 (.seq (.reg [⟨some ⟨.a, .k⟩, none, .bin .eql (.t ⟨.a, .f⟩) (.c (.c (.s [98, 117, 116, 116, 111,
  110]))), []⟩, ⟨some ⟨.a, .l⟩, none, .mv (.t ⟨.a, .k⟩), []⟩, ⟨some ⟨.a, .m⟩, some (⟨.a, .l⟩, true), .mv (.t ⟨.a, .a⟩), []⟩, ⟨some ⟨.a, .n⟩, some (⟨.a, .l⟩, true), .call 111 [.t ⟨.a, .m⟩, .c (.c (.s
  [98, 117, 116, 116, 111, 110])), .c (.c (.i .i64 (.ofNat 1)))], []⟩, ⟨some ⟨.a, .o⟩, none, .pk (.t ⟨.a, .l⟩) (.t ⟨.a, .n⟩) (.c (.c (.b false))), []⟩, ⟨some ⟨.a, .i⟩, none, .mv (.t ⟨.a, .o⟩), []⟩])
  (.cond (.t ⟨.a, .i⟩) (.seq (.reg [⟨some ⟨.b, .a⟩, none, .call 114 [.t ⟨.a, .a⟩, .c (.c (.s []))], []⟩]) (.reg [⟨some ⟨.b, .c⟩, none, .bsl 9 1 1 [.s []] [(0, (1, .c (.c (.s [98, 117, 116, 116, 111,
  110]))))], []⟩, ⟨some ⟨.b, .d⟩, none, .call 104 [.t ⟨.a, .a⟩, .t ⟨.b, .c⟩], []⟩])) (.seq (.reg [⟨some ⟨.b, .g⟩, none, .bin .eql (.t ⟨.a, .f⟩) (.c (.c (.s [120, 109, 112]))), []⟩, ⟨some ⟨.b, .e⟩,
  none, .mv (.t ⟨.b, .g⟩), []⟩]) (.cond (.t ⟨.b, .e⟩) (.reg [⟨some ⟨.b, .i⟩, none, .call 147 [.t ⟨.a, .a⟩], []⟩]) (.seq (.reg [⟨some ⟨.b, .l⟩, none, .bin .eql (.t ⟨.a, .f⟩) (.c (.c (.s [111, 112, 116,
  105, 111, 110]))), []⟩, ⟨some ⟨.b, .m⟩, none, .mv (.t ⟨.b, .l⟩), []⟩, ⟨some ⟨.b, .n⟩, some (⟨.b, .m⟩, true), .mv (.t ⟨.a, .a⟩), []⟩, ⟨some ⟨.b, .o⟩, some (⟨.b, .m⟩, true), .call 63 [.t ⟨.b, .n⟩],
  []⟩, ⟨some ⟨.b, .p⟩, some (⟨.b, .m⟩, true), .nc (.t ⟨.b, .o⟩), []⟩, ⟨some ⟨.c, .a⟩, some (⟨.b, .m⟩, true), .fa 2 (.t ⟨.b, .p⟩), []⟩, ⟨some ⟨.c, .b⟩, some (⟨.b, .m⟩, true), .ld 1 false (.t ⟨.c, .a⟩),
  []⟩, ⟨some ⟨.c, .c⟩, some (⟨.b, .m⟩, true), .bin .eql (.t ⟨.c, .b⟩) (.c (.c (.s [111, 112, 116, 105, 111, 110]))), []⟩, ⟨some ⟨.c, .d⟩, none, .pk (.t ⟨.b, .m⟩) (.t ⟨.c, .c⟩) (.c (.c (.b false))),
  []⟩, ⟨some ⟨.b, .j⟩, none, .mv (.t ⟨.c, .d⟩), []⟩]) (.cond (.t ⟨.b, .j⟩) (.reg [⟨some ⟨.c, .f⟩, none, .call 67 [.t ⟨.a, .a⟩, .c (.c (.i .i64 (.ofNat 1)))], []⟩]) .skip))))))) (.seq (.reg [⟨some ⟨.c,
  .h⟩, none, .call 119 [.t ⟨.a, .a⟩], []⟩]) (.seq (.seq (.reg [⟨some ⟨.c, .i⟩, none, .mv (.t ⟨.a, .f⟩), []⟩]) (.blk 1 (.seq (.blk 3 (.seq (.blk 2 (.seq (.seq (.seq (.reg [⟨some ⟨.c, .k⟩, none, .bin
  .eql (.t ⟨.c, .i⟩) (.c (.c (.s [105, 109, 97, 103, 101]))), []⟩, ⟨some ⟨.c, .j⟩, none, .mv (.t ⟨.c, .k⟩), []⟩]) (.cond (.t ⟨.c, .j⟩) (.exit 2) .skip)) (.seq (.seq (.reg [⟨some ⟨.c, .m⟩, none, .bin
  .eql (.t ⟨.c, .i⟩) (.c (.c (.s [97, 114, 101, 97]))), []⟩, ⟨some ⟨.c, .l⟩, none, .mv (.t ⟨.c, .m⟩), []⟩]) (.cond (.t ⟨.c, .l⟩) .skip (.seq (.reg [⟨some ⟨.c, .n⟩, none, .bin .eql (.t ⟨.c, .i⟩) (.c (.c
  (.s [98, 114]))), []⟩, ⟨some ⟨.c, .l⟩, none, .mv (.t ⟨.c, .n⟩), []⟩]) (.cond (.t ⟨.c, .l⟩) .skip (.seq (.reg [⟨some ⟨.c, .o⟩, none, .bin .eql (.t ⟨.c, .i⟩) (.c (.c (.s [101, 109, 98, 101, 100]))),
  []⟩, ⟨some ⟨.c, .l⟩, none, .mv (.t ⟨.c, .o⟩), []⟩]) (.cond (.t ⟨.c, .l⟩) .skip (.seq (.reg [⟨some ⟨.c, .p⟩, none, .bin .eql (.t ⟨.c, .i⟩) (.c (.c (.s [105, 109, 103]))), []⟩, ⟨some ⟨.c, .l⟩, none,
  .mv (.t ⟨.c, .p⟩), []⟩]) (.cond (.t ⟨.c, .l⟩) .skip (.seq (.reg [⟨some ⟨.d, .a⟩, none, .bin .eql (.t ⟨.c, .i⟩) (.c (.c (.s [105, 110, 112, 117, 116]))), []⟩, ⟨some ⟨.c, .l⟩, none, .mv (.t ⟨.d, .a⟩),
  []⟩]) (.cond (.t ⟨.c, .l⟩) .skip (.reg [⟨some ⟨.d, .b⟩, none, .bin .eql (.t ⟨.c, .i⟩) (.c (.c (.s [119, 98, 114]))), []⟩, ⟨some ⟨.c, .l⟩, none, .mv (.t ⟨.d, .b⟩), []⟩]))))))))))) (.cond (.t ⟨.c, .l⟩)
  (.exit 3) .skip))) (.exit 1))) (.reg [⟨some ⟨.a, .f⟩, none, .mv (.c (.c (.s [105, 109, 103]))), []⟩]))) (.seq (.seq (.reg [⟨some ⟨.d, .e⟩, none, .fa 3 (.t ⟨.a, .d⟩), []⟩, ⟨some ⟨.d, .f⟩, none, .ld 1
  false (.t ⟨.d, .e⟩), []⟩, ⟨some ⟨.d, .g⟩, none, .call 103 [.t ⟨.a, .a⟩, .t ⟨.a, .f⟩, .t ⟨.d, .f⟩], []⟩]) (.seq (.reg [⟨some ⟨.a, .e⟩, none, .mv (.c (.c (.b false))), []⟩]) .ret)) (.exit 1))))) (.seq
  (.reg [⟨some ⟨.d, .j⟩, none, .fa 3 (.t ⟨.a, .d⟩), []⟩, ⟨some ⟨.d, .k⟩, none, .ld 1 false (.t ⟨.d, .j⟩), []⟩, ⟨some ⟨.d, .l⟩, none, .call 101 [.t ⟨.a, .a⟩, .t ⟨.a, .f⟩, .t ⟨.d, .k⟩], []⟩]) (.seq (.seq
  (.reg [⟨some ⟨.d, .n⟩, none, .call 105 [.t ⟨.a, .f⟩, .c (.c (.i .i64 (.ofNat 7)))], []⟩]) (.cond (.t ⟨.d, .n⟩) (.reg [⟨some ⟨.d, .p⟩, none, .nc (.t ⟨.a, .a⟩), []⟩, ⟨some ⟨.e, .a⟩, none, .fa 4 (.t
  ⟨.d, .p⟩), []⟩, ⟨some ⟨.e, .b⟩, none, .ld 1 false (.t ⟨.e, .a⟩), []⟩, ⟨some ⟨.e, .c⟩, none, .call 109 [.t ⟨.e, .b⟩], []⟩]) .skip)) (.seq (.reg [⟨some ⟨.a, .e⟩, none, .mv (.c (.c (.b false))), []⟩])
  .ret))))))), [(⟨.a, .e⟩, none)]⟩

theorem ok150 : FnR Go.Proofs.Tryz.prog 0 150 cf150 := fnC_ok [9, 15, 17, 21, 23, 26, 36, 38, 50, 51, 55, 56, 60, 62] Go.Proofs.Tryz.func150 (by kernel_rfl) (by kernel_rfl)

def cf152 : CF := ⟨120, 2, .seq (.seq (.reg [⟨some ⟨.a, .m⟩, none, .call 63 [.t ⟨.a, .a⟩], []⟩, ⟨some ⟨.a, .e⟩, none, .mv (.t ⟨.a, .m⟩), []⟩]) (.seq (.dreg [⟨some ⟨.a, .n⟩, none, .mv (.t ⟨.a, .e⟩), []⟩, ⟨some ⟨.a,
  .o⟩, none, .nc (.t ⟨.a, .n⟩), []⟩, ⟨some ⟨.a, .p⟩, none, .fa 2 (.t ⟨.a, .o⟩), []⟩, ⟨some ⟨.b, .a⟩, none, .ld 1 false (.t ⟨.a, .p⟩), []⟩, ⟨some ⟨.b, .b⟩, none, .mv (.t ⟨.a, .b⟩), []⟩, ⟨some ⟨.b, .c⟩,
  none, .bin .eql (.t ⟨.b, .a⟩) (.t ⟨.b, .b⟩), []⟩, ⟨some ⟨.b, .d⟩, none, .mv (.t ⟨.b, .c⟩), []⟩, ⟨some ⟨.b, .e⟩, some (⟨.b, .d⟩, true), .mv (.t ⟨.a, .a⟩), []⟩, ⟨some ⟨.b, .f⟩, some (⟨.b, .d⟩, true),
  .nc (.t ⟨.b, .e⟩), []⟩, ⟨some ⟨.b, .g⟩, some (⟨.b, .d⟩, true), .fa 4 (.t ⟨.b, .f⟩), []⟩, ⟨some ⟨.b, .h⟩, some (⟨.b, .d⟩, true), .ld 1 false (.t ⟨.b, .g⟩), []⟩, ⟨some ⟨.b, .i⟩, some (⟨.b, .d⟩, true),
  .mv (.t ⟨.a, .e⟩), []⟩, ⟨some ⟨.b, .j⟩, some (⟨.b, .d⟩, true), .nc (.t ⟨.b, .i⟩), []⟩, ⟨some ⟨.b, .k⟩, some (⟨.b, .d⟩, true), .fa 0 (.t ⟨.b, .j⟩), []⟩, ⟨some ⟨.b, .l⟩, some (⟨.b, .d⟩, true), .ld 1
  false (.t ⟨.b, .k⟩), []⟩, ⟨some ⟨.b, .m⟩, some (⟨.b, .d⟩, true), .call 164 [.t ⟨.b, .h⟩, .t ⟨.b, .l⟩], []⟩, ⟨some ⟨.b, .n⟩, some (⟨.b, .d⟩, true), .bin .lss (.t ⟨.b, .m⟩) (.c (.c (.i .i64 (.ofNat
  0)))), []⟩, ⟨some ⟨.b, .o⟩, none, .pk (.t ⟨.b, .d⟩) (.t ⟨.b, .n⟩) (.c (.c (.b false))), []⟩]) (.cond (.t ⟨.b, .o⟩) (.seq (.reg [⟨some ⟨.c, .a⟩, none, .call 67 [.t ⟨.a, .a⟩, .c (.c (.i .i64 (.ofNat
  1)))], []⟩]) .ret) .skip))) (.seq (.reg [⟨some ⟨.c, .b⟩, none, .mv (.c (.c (.i .i64 (.ofNat 0)))), []⟩]) (.blk 0 (.loop (.seq (.reg [⟨some ⟨.c, .c⟩, none, .bin .lss (.t ⟨.c, .b⟩) (.c (.c (.i .i64
  (.ofNat 8)))), []⟩]) (.seq (.cond (.t ⟨.c, .c⟩) .skip (.exit 0)) (.seq (.blk 1 (.seq (.reg [⟨some ⟨.c, .f⟩, none, .nc (.t ⟨.a, .a⟩), []⟩, ⟨some ⟨.c, .g⟩, none, .fa 4 (.t ⟨.c, .f⟩), []⟩, ⟨some ⟨.c,
  .h⟩, none, .ld 1 false (.t ⟨.c, .g⟩), []⟩, ⟨some ⟨.c, .j⟩, none, .call 169 [.t ⟨.c, .h⟩, .t ⟨.a, .b⟩], []⟩, ⟨some ⟨.c, .k⟩, none, .ext 0 (.t ⟨.c, .j⟩), []⟩, ⟨some ⟨.c, .l⟩, none, .ext 1 (.t ⟨.c,
  .j⟩), []⟩, ⟨some ⟨.a, .f⟩, none, .new 128 (.c (.a [.i .i64 (.ofNat 0), .s [], .sl none 0 0 0])), []⟩, ⟨none, none, .st 3 (.t ⟨.a, .f⟩) (.t ⟨.c, .k⟩), []⟩, ⟨some ⟨.a, .g⟩, none, .mv (.t ⟨.c, .l⟩),
  []⟩]) (.seq (.seq (.reg [⟨some ⟨.c, .n⟩, none, .un .not (.t ⟨.a, .g⟩), []⟩]) (.cond (.t ⟨.c, .n⟩) (.seq (.reg [⟨some ⟨.d, .a⟩, none, .call 153 [.t ⟨.a, .a⟩, .t ⟨.a, .b⟩], []⟩]) .ret) .skip)) (.seq
  (.reg [⟨some ⟨.d, .c⟩, none, .fa 0 (.t ⟨.a, .f⟩), []⟩, ⟨some ⟨.d, .d⟩, none, .ld 1 false (.t ⟨.d, .c⟩), []⟩, ⟨some ⟨.d, .e⟩, none, .call 106 [.t ⟨.a, .a⟩, .t ⟨.d, .d⟩], []⟩, ⟨some ⟨.a, .h⟩, none, .mv
  (.t ⟨.d, .e⟩), []⟩]) (.seq (.seq (.reg [⟨some ⟨.d, .g⟩, none, .bin .lss (.t ⟨.a, .h⟩) (.c (.c (.i .i64 (.ofNat 0)))), []⟩]) (.cond (.t ⟨.d, .g⟩) (.seq (.dreg [⟨some ⟨.d, .h⟩, none, .mv (.t ⟨.a, .a⟩),
  []⟩, ⟨some ⟨.d, .i⟩, none, .nc (.t ⟨.d, .h⟩), []⟩, ⟨some ⟨.d, .j⟩, none, .fa 4 (.t ⟨.d, .i⟩), []⟩, ⟨some ⟨.d, .k⟩, none, .ld 1 false (.t ⟨.d, .j⟩), []⟩, ⟨some ⟨.d, .l⟩, none, .fa 0 (.t ⟨.a, .f⟩),
  []⟩, ⟨some ⟨.d, .m⟩, none, .ld 1 false (.t ⟨.d, .l⟩), []⟩, ⟨some ⟨.d, .n⟩, none, .call 170 [.t ⟨.d, .k⟩, .t ⟨.d, .m⟩], []⟩]) .ret) .skip)) (.seq (.seq (.reg [⟨some ⟨.d, .p⟩, none, .nc (.t ⟨.a, .a⟩),
  []⟩, ⟨some ⟨.e, .a⟩, none, .fa 3 (.t ⟨.d, .p⟩), []⟩, ⟨some ⟨.e, .b⟩, none, .ld 1 false (.t ⟨.e, .a⟩), []⟩, ⟨some ⟨.e, .d⟩, none, .bin .add (.t ⟨.a, .h⟩) (.c (.c (.i .i64 (.ofNat 1)))), []⟩, ⟨some
  ⟨.e, .e⟩, none, .slc 1 (.t ⟨.e, .b⟩) (some (.t ⟨.e, .d⟩)) none none, []⟩, ⟨some ⟨.e, .f⟩, none, .len true (.t ⟨.e, .e⟩), []⟩, ⟨some ⟨.e, .g⟩, none, .mv (.c (.c (.i .i64 (.ofNat 0)))), []⟩]) (.blk 2
  (.loop (.seq (.reg [⟨some ⟨.e, .h⟩, none, .bin .lss (.t ⟨.e, .g⟩) (.t ⟨.e, .f⟩), []⟩]) (.seq (.cond (.t ⟨.e, .h⟩) .skip (.exit 2)) (.seq (.blk 3 (.seq (.reg [⟨some ⟨.e, .i⟩, none, .ia 1 (.t ⟨.e, .e⟩)
  (.t ⟨.e, .g⟩), []⟩, ⟨some ⟨.e, .j⟩, none, .ld 1 false (.t ⟨.e, .i⟩), []⟩, ⟨some ⟨.a, .j⟩, none, .mv (.t ⟨.e, .j⟩), []⟩]) (.seq (.reg [⟨some ⟨.e, .l⟩, none, .nc (.t ⟨.a, .j⟩), []⟩, ⟨some ⟨.e, .m⟩,
  none, .fa 2 (.t ⟨.e, .l⟩), []⟩, ⟨some ⟨.e, .n⟩, none, .ld 1 false (.t ⟨.e, .m⟩), []⟩, ⟨some ⟨.e, .o⟩, none, .call 172 [.t ⟨.e, .n⟩], []⟩]) (.cond (.t ⟨.e, .o⟩) .ret .skip)))) (.reg [⟨some ⟨.e, .p⟩,
  none, .bin .add (.t ⟨.e, .g⟩) (.c (.c (.i .i64 (.ofNat 1)))), []⟩, ⟨some ⟨.e, .g⟩, none, .mv (.t ⟨.e, .p⟩), []⟩]))))))) (.seq (.reg [⟨some ⟨.f, .c⟩, none, .call 173 [.t ⟨.a, .a⟩, .t ⟨.a, .h⟩], []⟩,
  ⟨some ⟨.a, .k⟩, none, .mv (.t ⟨.f, .c⟩), []⟩]) (.seq (.seq (.reg [⟨some ⟨.f, .e⟩, none, .bin .lss (.t ⟨.a, .k⟩) (.c (.c (.i .i64 (.ofNat 0)))), []⟩]) (.cond (.t ⟨.f, .e⟩) (.seq (.reg [⟨some ⟨.f, .h⟩,
  none, .nc (.t ⟨.a, .a⟩), []⟩, ⟨some ⟨.f, .i⟩, none, .fa 3 (.t ⟨.f, .h⟩), []⟩, ⟨some ⟨.f, .j⟩, none, .ld 1 false (.t ⟨.f, .i⟩), []⟩, ⟨some ⟨.f, .k⟩, none, .len true (.t ⟨.f, .j⟩), []⟩, ⟨some ⟨.f, .m⟩,
  none, .bin .sub (.t ⟨.f, .k⟩) (.t ⟨.a, .h⟩), []⟩, ⟨some ⟨.f, .n⟩, none, .call 67 [.t ⟨.a, .a⟩, .t ⟨.f, .m⟩], []⟩]) (.seq (.dreg [⟨some ⟨.f, .o⟩, none, .mv (.t ⟨.a, .a⟩), []⟩, ⟨some ⟨.f, .p⟩, none,
  .nc (.t ⟨.f, .o⟩), []⟩, ⟨some ⟨.g, .a⟩, none, .fa 4 (.t ⟨.f, .p⟩), []⟩, ⟨some ⟨.g, .b⟩, none, .ld 1 false (.t ⟨.g, .a⟩), []⟩, ⟨some ⟨.g, .c⟩, none, .fa 0 (.t ⟨.a, .f⟩), []⟩, ⟨some ⟨.g, .d⟩, none, .ld
  1 false (.t ⟨.g, .c⟩), []⟩, ⟨some ⟨.g, .e⟩, none, .call 170 [.t ⟨.g, .b⟩, .t ⟨.g, .d⟩], []⟩]) .ret)) .skip)) (.dreg [⟨some ⟨.g, .f⟩, none, .mv (.t ⟨.a, .a⟩), []⟩, ⟨some ⟨.g, .g⟩, none, .mv (.t ⟨.a,
  .a⟩), []⟩, ⟨some ⟨.g, .h⟩, none, .nc (.t ⟨.g, .g⟩), []⟩, ⟨some ⟨.g, .i⟩, none, .fa 3 (.t ⟨.g, .h⟩), []⟩, ⟨some ⟨.g, .j⟩, none, .ld 1 false (.t ⟨.g, .i⟩), []⟩, ⟨some ⟨.g, .k⟩, none, .mv (.t ⟨.a, .h⟩),
  []⟩, ⟨some ⟨.g, .l⟩, none, .ia 1 (.t ⟨.g, .j⟩) (.t ⟨.g, .k⟩), []⟩, ⟨some ⟨.g, .m⟩, none, .ld 1 false (.t ⟨.g, .l⟩), []⟩, ⟨some ⟨.g, .n⟩, none, .mv (.t ⟨.a, .a⟩), []⟩, ⟨some ⟨.g, .o⟩, none, .nc (.t
  ⟨.g, .n⟩), []⟩, ⟨some ⟨.g, .p⟩, none, .fa 3 (.t ⟨.g, .o⟩), []⟩, ⟨some ⟨.h, .a⟩, none, .ld 1 false (.t ⟨.g, .p⟩), []⟩, ⟨some ⟨.h, .b⟩, none, .mv (.t ⟨.a, .k⟩), []⟩, ⟨some ⟨.h, .c⟩, none, .ia 1 (.t
  ⟨.h, .a⟩) (.t ⟨.h, .b⟩), []⟩, ⟨some ⟨.h, .d⟩, none, .ld 1 false (.t ⟨.h, .c⟩), []⟩, ⟨some ⟨.h, .e⟩, none, .fa 2 (.t ⟨.a, .f⟩), []⟩, ⟨some ⟨.h, .f⟩, none, .ld 1 false (.t ⟨.h, .e⟩), []⟩, ⟨some ⟨.h,
  .g⟩, none, .call 174 [.t ⟨.g, .f⟩, .t ⟨.g, .m⟩, .t ⟨.h, .d⟩, .t ⟨.h, .f⟩], []⟩]))))))))) (.reg [⟨some ⟨.h, .h⟩, none, .bin .add (.t ⟨.c, .b⟩) (.c (.c (.i .i64 (.ofNat 1)))), []⟩, ⟨some ⟨.c, .b⟩,
  none, .mv (.t ⟨.h, .h⟩), []⟩]))))))), []⟩

theorem ok152 : FnR Go.Proofs.Tryz.prog 0 152 cf152 := fnC_ok [11, 31, 35, 36, 40, 44, 46, 47, 49, 53, 62, 66, 74, 80, 81, 83, 85, 86, 91] Go.Proofs.Tryz.func152 (by kernel_rfl) (by kernel_rfl)

def cf161 : CF := ⟨34, 2, .seq (.reg [⟨some ⟨.a, .e⟩, none, .mv (.c (.c (.b false))), []⟩]) (.seq (.blk 0 (.seq (.reg [⟨some ⟨.a, .h⟩, none, .bin .eql (.t ⟨.a, .a⟩) (.c (.c (.s [104, 116, 109, 108]))), []⟩, ⟨some ⟨.a,
  .i⟩, none, .mv (.t ⟨.a, .h⟩), []⟩, ⟨some ⟨.a, .j⟩, some (⟨.a, .i⟩, false), .mv (.t ⟨.a, .a⟩), []⟩, ⟨some ⟨.a, .k⟩, some (⟨.a, .i⟩, false), .bin .eql (.t ⟨.a, .j⟩) (.c (.c (.s [116, 97, 98, 108,
  101]))), []⟩, ⟨some ⟨.a, .l⟩, none, .pk (.t ⟨.a, .i⟩) (.c (.c (.b true))) (.t ⟨.a, .k⟩), []⟩, ⟨some ⟨.a, .f⟩, none, .mv (.t ⟨.a, .l⟩), []⟩]) (.cond (.t ⟨.a, .f⟩) (.seq (.reg [⟨some ⟨.a, .e⟩, none,
  .mv (.c (.c (.b true))), []⟩]) .ret) (.seq (.reg [⟨some ⟨.a, .o⟩, none, .bin .eql (.t ⟨.a, .b⟩) (.c (.c (.i .i64 (.ofNat 4)))), []⟩, ⟨some ⟨.a, .m⟩, none, .mv (.t ⟨.a, .o⟩), []⟩]) (.cond (.t ⟨.a,
  .m⟩) (.seq (.reg [⟨some ⟨.a, .e⟩, none, .mv (.c (.c (.b false))), []⟩]) .ret) (.seq (.seq (.reg [⟨some ⟨.b, .b⟩, none, .bin .eql (.t ⟨.a, .b⟩) (.c (.c (.i .i64 (.ofNat 2)))), []⟩, ⟨some ⟨.b, .c⟩,
  none, .mv (.t ⟨.b, .b⟩), []⟩, ⟨some ⟨.b, .d⟩, some (⟨.b, .c⟩, true), .mv (.t ⟨.a, .a⟩), []⟩, ⟨some ⟨.b, .e⟩, some (⟨.b, .c⟩, true), .bin .eql (.t ⟨.b, .d⟩) (.c (.c (.s [111, 108]))), []⟩, ⟨some ⟨.b,
  .f⟩, some (⟨.b, .c⟩, true), .mv (.t ⟨.b, .e⟩), []⟩, ⟨some ⟨.b, .g⟩, some (⟨.b, .f⟩, false), .mv (.t ⟨.a, .a⟩), []⟩, ⟨some ⟨.b, .h⟩, some (⟨.b, .f⟩, false), .bin .eql (.t ⟨.b, .g⟩) (.c (.c (.s [117,
  108]))), []⟩, ⟨some ⟨.b, .i⟩, some (⟨.b, .c⟩, true), .pk (.t ⟨.b, .f⟩) (.c (.c (.b true))) (.t ⟨.b, .h⟩), []⟩, ⟨some ⟨.b, .j⟩, none, .pk (.t ⟨.b, .c⟩) (.t ⟨.b, .i⟩) (.c (.c (.b false))), []⟩, ⟨some
  ⟨.a, .p⟩, none, .mv (.t ⟨.b, .j⟩), []⟩]) (.cond (.t ⟨.a, .p⟩) .skip (.reg [⟨some ⟨.b, .l⟩, none, .bin .eql (.t ⟨.a, .b⟩) (.c (.c (.i .i64 (.ofNat 3)))), []⟩, ⟨some ⟨.b, .m⟩, none, .mv (.t ⟨.b, .l⟩),
  []⟩, ⟨some ⟨.b, .n⟩, some (⟨.b, .m⟩, true), .mv (.t ⟨.a, .a⟩), []⟩, ⟨some ⟨.b, .o⟩, some (⟨.b, .m⟩, true), .bin .eql (.t ⟨.b, .n⟩) (.c (.c (.s [98, 117, 116, 116, 111, 110]))), []⟩, ⟨some ⟨.b, .p⟩,
  none, .pk (.t ⟨.b, .m⟩) (.t ⟨.b, .o⟩) (.c (.c (.b false))), []⟩, ⟨some ⟨.a, .p⟩, none, .mv (.t ⟨.b, .p⟩), []⟩]))) (.cond (.t ⟨.a, .p⟩) (.seq (.reg [⟨some ⟨.a, .e⟩, none, .mv (.c (.c (.b true))),
  []⟩]) .ret) .skip))))))) (.seq (.reg [⟨some ⟨.c, .b⟩, none, .call 133 [.c (.c (.s [97, 112, 112, 108, 101, 116, 32, 99, 97, 112, 116, 105, 111, 110, 32, 116, 100, 32, 116, 104, 32, 109, 97, 114, 113,
  117, 101, 101, 32, 111, 98, 106, 101, 99, 116])), .t ⟨.a, .a⟩], []⟩, ⟨some ⟨.a, .e⟩, none, .mv (.t ⟨.c, .b⟩), []⟩]) .ret)), [(⟨.a, .e⟩, none)]⟩

theorem ok161 : FnR Go.Proofs.Tryz.prog 0 161 cf161 := fnC_ok [6, 13, 16, 26, 32] Go.Proofs.Tryz.func161 (by kernel_rfl) (by kernel_rfl)

def cf163 : CF := ⟨8, 1, .seq (.reg [⟨some ⟨.a, .b⟩, none, .new 128 (.t ⟨.a, .a⟩), []⟩, ⟨some ⟨.a, .c⟩, none, .new 128 (.c (.a [.i .i64 (.ofNat 0), .s [], .sl none 0 0 0])), []⟩]) (.seq (.reg [⟨some ⟨.a, .d⟩, none,
  .fa 2 (.t ⟨.a, .b⟩), []⟩, ⟨some ⟨.a, .e⟩, none, .ld 1 false (.t ⟨.a, .d⟩), []⟩, ⟨some ⟨.a, .f⟩, none, .call 40 [.t ⟨.a, .e⟩], []⟩, ⟨some ⟨.a, .g⟩, none, .fa 2 (.t ⟨.a, .b⟩), []⟩, ⟨none, none, .st 1
  (.t ⟨.a, .g⟩) (.t ⟨.a, .f⟩), []⟩]) (.seq (.reg [⟨some ⟨.a, .h⟩, none, .ld 3 true (.t ⟨.a, .b⟩), []⟩, ⟨none, none, .st 3 (.t ⟨.a, .c⟩) (.t ⟨.a, .h⟩), []⟩]) .ret)), [(⟨.a, .c⟩, some (3, true))]⟩

theorem ok163 : FnR Go.Proofs.Tryz.prog 0 163 cf163 := fnC_ok [] Go.Proofs.Tryz.func163 (by kernel_rfl) (by kernel_rfl)

def cf164 : CF := ⟨11, 2, .seq (.reg [⟨some ⟨.a, .d⟩, none, .new 3 (.t ⟨.a, .b⟩), []⟩, ⟨some ⟨.a, .e⟩, none, .mv (.c (.c (.i .i64 (.ofNat 0)))), []⟩]) (.seq (.reg [⟨some ⟨.a, .g⟩, none, .nc (.t ⟨.a, .a⟩), []⟩, ⟨some
  ⟨.a, .h⟩, none, .fa 0 (.t ⟨.a, .g⟩), []⟩, ⟨some ⟨.a, .i⟩, none, .ld 1 false (.t ⟨.a, .h⟩), []⟩, ⟨some ⟨.a, .j⟩, none, .mkf 180 [.t ⟨.a, .d⟩], []⟩, ⟨some ⟨.a, .k⟩, none, .call 179 [.t ⟨.a, .i⟩, .t
  ⟨.a, .j⟩], []⟩, ⟨some ⟨.a, .e⟩, none, .mv (.t ⟨.a, .k⟩), []⟩]) .ret), [(⟨.a, .e⟩, none)]⟩

theorem ok164 : FnR Go.Proofs.Tryz.prog 0 164 cf164 := fnC_ok [5] Go.Proofs.Tryz.func164 (by kernel_rfl) (by kernel_rfl)

def cf169 : CF := ⟨40, 2, .seq (.reg [⟨some ⟨.a, .e⟩, none, .new 128 (.c (.a [.i .i64 (.ofNat 0), .s [], .sl none 0 0 0])), []⟩, ⟨some ⟨.a, .f⟩, none, .mv (.c (.c (.b false))), []⟩]) (.seq (.seq (.reg [⟨some ⟨.a, .i⟩,
  none, .nc (.t ⟨.a, .a⟩), []⟩, ⟨some ⟨.a, .j⟩, none, .fa 0 (.t ⟨.a, .i⟩), []⟩, ⟨some ⟨.a, .k⟩, none, .ld 1 false (.t ⟨.a, .j⟩), []⟩, ⟨some ⟨.a, .l⟩, none, .len true (.t ⟨.a, .k⟩), []⟩, ⟨some ⟨.a, .m⟩,
  none, .bin .sub (.t ⟨.a, .l⟩) (.c (.c (.i .i64 (.ofNat 1)))), []⟩, ⟨some ⟨.a, .g⟩, none, .mv (.t ⟨.a, .m⟩), []⟩]) (.blk 0 (.loop (.seq (.seq (.reg [⟨some ⟨.a, .p⟩, none, .call 140 [.t ⟨.a, .a⟩], []⟩,
  ⟨some ⟨.b, .a⟩, none, .bin .geq (.t ⟨.a, .g⟩) (.t ⟨.a, .p⟩), []⟩]) (.cond (.t ⟨.b, .a⟩) .skip (.exit 0))) (.seq (.blk 1 (.seq (.reg [⟨some ⟨.b, .e⟩, none, .nc (.t ⟨.a, .a⟩), []⟩, ⟨some ⟨.b, .f⟩,
  none, .fa 0 (.t ⟨.b, .e⟩), []⟩, ⟨some ⟨.b, .g⟩, none, .ld 1 false (.t ⟨.b, .f⟩), []⟩, ⟨some ⟨.b, .i⟩, none, .ia 4 (.t ⟨.b, .g⟩) (.t ⟨.a, .g⟩), []⟩, ⟨some ⟨.b, .j⟩, none, .fa 0 (.t ⟨.b, .i⟩), []⟩,
  ⟨some ⟨.b, .k⟩, none, .fa 1 (.t ⟨.b, .j⟩), []⟩, ⟨some ⟨.b, .l⟩, none, .ld 1 false (.t ⟨.b, .k⟩), []⟩, ⟨some ⟨.b, .n⟩, none, .bin .eql (.t ⟨.b, .l⟩) (.t ⟨.a, .b⟩), []⟩]) (.cond (.t ⟨.b, .n⟩) (.seq
  (.reg [⟨some ⟨.b, .p⟩, none, .nc (.t ⟨.a, .a⟩), []⟩, ⟨some ⟨.c, .a⟩, none, .fa 0 (.t ⟨.b, .p⟩), []⟩, ⟨some ⟨.c, .b⟩, none, .ld 1 false (.t ⟨.c, .a⟩), []⟩, ⟨some ⟨.c, .d⟩, none, .ia 4 (.t ⟨.c, .b⟩)
  (.t ⟨.a, .g⟩), []⟩, ⟨some ⟨.c, .e⟩, none, .fa 0 (.t ⟨.c, .d⟩), []⟩, ⟨some ⟨.c, .f⟩, none, .ld 3 true (.t ⟨.c, .e⟩), []⟩, ⟨some ⟨.c, .g⟩, none, .call 163 [.t ⟨.c, .f⟩], []⟩, ⟨none, none, .st 3 (.t
  ⟨.a, .e⟩) (.t ⟨.c, .g⟩), []⟩, ⟨some ⟨.a, .f⟩, none, .mv (.c (.c (.b true))), []⟩]) .ret) .skip))) (.reg [⟨some ⟨.b, .c⟩, none, .bin .sub (.t ⟨.a, .g⟩) (.c (.c (.i .i64 (.ofNat 1)))), []⟩, ⟨some ⟨.a,
  .g⟩, none, .mv (.t ⟨.b, .c⟩), []⟩])))))) (.seq (.reg [⟨some ⟨.c, .h⟩, none, .bld [.i .i64 (.ofNat 0), .s [], .sl none 0 0 0] [], []⟩, ⟨none, none, .st 3 (.t ⟨.a, .e⟩) (.t ⟨.c, .h⟩), []⟩, ⟨some ⟨.a,
  .f⟩, none, .mv (.c (.c (.b false))), []⟩]) .ret)), [(⟨.a, .e⟩, some (3, true)), (⟨.a, .f⟩, none)]⟩

theorem ok169 : FnR Go.Proofs.Tryz.prog 0 169 cf169 := fnC_ok [7, 13, 14, 17, 19, 23, 28, 30, 34] Go.Proofs.Tryz.func169 (by kernel_rfl) (by kernel_rfl)

def cf170 : CF := ⟨24, 2, .seq (.reg [⟨some ⟨.a, .e⟩, none, .mv (.c (.c (.b false))), []⟩]) (.seq (.reg [⟨some ⟨.a, .i⟩, none, .call 164 [.t ⟨.a, .a⟩, .t ⟨.a, .b⟩], []⟩, ⟨some ⟨.a, .f⟩, none, .mv (.t ⟨.a, .i⟩), []⟩])
  (.seq (.seq (.reg [⟨some ⟨.a, .k⟩, none, .bin .geq (.t ⟨.a, .f⟩) (.c (.c (.i .i64 (.ofNat 0)))), []⟩]) (.cond (.t ⟨.a, .k⟩) (.reg [⟨some ⟨.a, .n⟩, none, .nc (.t ⟨.a, .a⟩), []⟩, ⟨some ⟨.a, .o⟩, none,
  .fa 0 (.t ⟨.a, .n⟩), []⟩, ⟨some ⟨.a, .p⟩, none, .ld 1 false (.t ⟨.a, .o⟩), []⟩, ⟨some ⟨.b, .c⟩, none, .bin .add (.t ⟨.a, .f⟩) (.c (.c (.i .i64 (.ofNat 1)))), []⟩, ⟨some ⟨.b, .d⟩, none, .call 184 [.t
  ⟨.a, .p⟩, .t ⟨.a, .f⟩, .t ⟨.b, .c⟩], []⟩, ⟨some ⟨.b, .e⟩, none, .nc (.t ⟨.a, .a⟩), []⟩, ⟨some ⟨.b, .f⟩, none, .fa 0 (.t ⟨.b, .e⟩), []⟩, ⟨none, none, .st 1 (.t ⟨.b, .f⟩) (.t ⟨.b, .d⟩), []⟩]) .skip))
  (.seq (.reg [⟨some ⟨.b, .h⟩, none, .bin .geq (.t ⟨.a, .f⟩) (.c (.c (.i .i64 (.ofNat 0)))), []⟩, ⟨some ⟨.a, .e⟩, none, .mv (.t ⟨.b, .h⟩), []⟩]) .ret))), [(⟨.a, .e⟩, none)]⟩

theorem ok170 : FnR Go.Proofs.Tryz.prog 0 170 cf170 := fnC_ok [6, 7, 9, 11, 12, 16, 17, 22] Go.Proofs.Tryz.func170 (by kernel_rfl) (by kernel_rfl)

def cf171 : CF := ⟨73, 2, .seq (.reg [⟨some ⟨.a, .d⟩, none, .new 128 (.t ⟨.a, .b⟩), []⟩]) (.seq (.reg [⟨some ⟨.a, .j⟩, none, .ld 3 true (.t ⟨.a, .d⟩), []⟩, ⟨some ⟨.a, .k⟩, none, .call 185 [.t ⟨.a, .j⟩], []⟩, ⟨some
  ⟨.a, .e⟩, none, .new 175 (.c (.a [.s [], .s []])), []⟩, ⟨none, none, .st 2 (.t ⟨.a, .e⟩) (.t ⟨.a, .k⟩), []⟩]) (.seq (.reg [⟨some ⟨.a, .l⟩, none, .mkm, []⟩, ⟨some ⟨.a, .f⟩, none, .mv (.t ⟨.a, .l⟩),
  []⟩]) (.seq (.reg [⟨some ⟨.a, .g⟩, none, .mv (.c (.c (.i .i64 (.negSucc 0)))), []⟩]) (.seq (.seq (.reg [⟨some ⟨.a, .n⟩, none, .call 140 [.t ⟨.a, .a⟩], []⟩, ⟨some ⟨.a, .h⟩, none, .mv (.t ⟨.a, .n⟩),
  []⟩]) (.blk 0 (.loop (.seq (.seq (.reg [⟨some ⟨.b, .a⟩, none, .nc (.t ⟨.a, .a⟩), []⟩, ⟨some ⟨.b, .b⟩, none, .fa 0 (.t ⟨.b, .a⟩), []⟩, ⟨some ⟨.b, .c⟩, none, .ld 1 false (.t ⟨.b, .b⟩), []⟩, ⟨some ⟨.b,
  .d⟩, none, .len true (.t ⟨.b, .c⟩), []⟩, ⟨some ⟨.b, .e⟩, none, .bin .lss (.t ⟨.a, .h⟩) (.t ⟨.b, .d⟩), []⟩]) (.cond (.t ⟨.b, .e⟩) .skip (.exit 0))) (.seq (.blk 1 (.seq (.reg [⟨some ⟨.b, .i⟩, none, .nc
  (.t ⟨.a, .a⟩), []⟩, ⟨some ⟨.b, .j⟩, none, .fa 0 (.t ⟨.b, .i⟩), []⟩, ⟨some ⟨.b, .k⟩, none, .ld 1 false (.t ⟨.b, .j⟩), []⟩, ⟨some ⟨.b, .m⟩, none, .ia 4 (.t ⟨.b, .k⟩) (.t ⟨.a, .h⟩), []⟩, ⟨some ⟨.b, .n⟩,
  none, .fa 0 (.t ⟨.b, .m⟩), []⟩, ⟨some ⟨.b, .o⟩, none, .ld 3 true (.t ⟨.b, .n⟩), []⟩, ⟨some ⟨.b, .p⟩, none, .call 185 [.t ⟨.b, .o⟩], []⟩, ⟨some ⟨.a, .i⟩, none, .new 175 (.c (.a [.s [], .s []])), []⟩,
  ⟨none, none, .st 2 (.t ⟨.a, .i⟩) (.t ⟨.b, .p⟩), []⟩]) (.seq (.seq (.reg [⟨some ⟨.c, .a⟩, none, .ld 2 true (.t ⟨.a, .i⟩), []⟩, ⟨some ⟨.c, .b⟩, none, .ld 2 true (.t ⟨.a, .e⟩), []⟩, ⟨some ⟨.c, .c⟩,
  none, .aeq false [.s, .s] (.t ⟨.c, .a⟩) (.t ⟨.c, .b⟩), []⟩, ⟨some ⟨.c, .d⟩, none, .mv (.t ⟨.c, .c⟩), []⟩, ⟨some ⟨.c, .e⟩, some (⟨.c, .d⟩, true), .mv (.t ⟨.a, .g⟩), []⟩, ⟨some ⟨.c, .f⟩, some (⟨.c,
  .d⟩, true), .bin .lss (.t ⟨.c, .e⟩) (.c (.c (.i .i64 (.ofNat 0)))), []⟩, ⟨some ⟨.c, .g⟩, none, .pk (.t ⟨.c, .d⟩) (.t ⟨.c, .f⟩) (.c (.c (.b false))), []⟩]) (.cond (.t ⟨.c, .g⟩) (.reg [⟨some ⟨.a, .g⟩,
  none, .mv (.t ⟨.a, .h⟩), []⟩]) .skip)) (.dreg [⟨some ⟨.c, .i⟩, none, .mv (.t ⟨.a, .f⟩), []⟩, ⟨some ⟨.c, .j⟩, none, .ld 2 true (.t ⟨.a, .i⟩), []⟩, ⟨some ⟨.c, .k⟩, none, .lkp [.s, .s] (.i .i64 (.ofNat
  0)) (.t ⟨.c, .i⟩) (.t ⟨.c, .j⟩), []⟩, ⟨some ⟨.c, .l⟩, none, .bin .add (.t ⟨.c, .k⟩) (.c (.c (.i .i64 (.ofNat 1)))), []⟩, ⟨some ⟨.c, .m⟩, none, .men [.s, .s] (.i .i64 (.ofNat 0)) (.t ⟨.c, .i⟩) (.t
  ⟨.c, .j⟩), [⟨some ⟨.c, .k⟩, none, .lkp [.s, .s] (.i .i64 (.ofNat 0)) (.t ⟨.c, .i⟩) (.t ⟨.c, .j⟩)⟩]⟩, ⟨some ⟨.c, .n⟩, none, .ext 1 (.t ⟨.c, .m⟩), []⟩, ⟨none, none, .est (.t ⟨.c, .i⟩) (.t ⟨.c, .n⟩) (.t
  ⟨.c, .l⟩), []⟩])))) (.reg [⟨some ⟨.b, .g⟩, none, .bin .add (.t ⟨.a, .h⟩) (.c (.c (.i .i64 (.ofNat 1)))), []⟩, ⟨some ⟨.a, .h⟩, none, .mv (.t ⟨.b, .g⟩), []⟩])))))) (.seq (.seq (.reg [⟨some ⟨.c, .p⟩,
  none, .ld 2 true (.t ⟨.a, .e⟩), []⟩, ⟨some ⟨.d, .a⟩, none, .lkp [.s, .s] (.i .i64 (.ofNat 0)) (.t ⟨.a, .f⟩) (.t ⟨.c, .p⟩), []⟩, ⟨some ⟨.d, .b⟩, none, .bin .geq (.t ⟨.d, .a⟩) (.c (.c (.i .i64 (.ofNat
  3)))), []⟩]) (.cond (.t ⟨.d, .b⟩) (.reg [⟨some ⟨.d, .e⟩, none, .nc (.t ⟨.a, .a⟩), []⟩, ⟨some ⟨.d, .f⟩, none, .fa 0 (.t ⟨.d, .e⟩), []⟩, ⟨some ⟨.d, .g⟩, none, .ld 1 false (.t ⟨.d, .f⟩), []⟩, ⟨some ⟨.d,
  .j⟩, none, .bin .add (.t ⟨.a, .g⟩) (.c (.c (.i .i64 (.ofNat 1)))), []⟩, ⟨some ⟨.d, .k⟩, none, .call 184 [.t ⟨.d, .g⟩, .t ⟨.a, .g⟩, .t ⟨.d, .j⟩], []⟩, ⟨some ⟨.d, .l⟩, none, .nc (.t ⟨.a, .a⟩), []⟩,
  ⟨some ⟨.d, .m⟩, none, .fa 0 (.t ⟨.d, .l⟩), []⟩, ⟨none, none, .st 1 (.t ⟨.d, .m⟩) (.t ⟨.d, .k⟩), []⟩]) .skip)) (.dreg [⟨some ⟨.d, .n⟩, none, .mv (.t ⟨.a, .a⟩), []⟩, ⟨some ⟨.d, .o⟩, none, .mv (.t ⟨.a,
  .a⟩), []⟩, ⟨some ⟨.d, .p⟩, none, .nc (.t ⟨.d, .o⟩), []⟩, ⟨some ⟨.e, .a⟩, none, .fa 0 (.t ⟨.d, .p⟩), []⟩, ⟨some ⟨.e, .b⟩, none, .ld 1 false (.t ⟨.e, .a⟩), []⟩, ⟨some ⟨.e, .c⟩, none, .ld 3 true (.t
  ⟨.a, .d⟩), []⟩, ⟨some ⟨.e, .d⟩, none, .call 163 [.t ⟨.e, .c⟩], [⟨some ⟨.e, .b⟩, none, .ld 1 false (.t ⟨.e, .a⟩)⟩]⟩, ⟨some ⟨.e, .e⟩, none, .bld [.i .i64 (.ofNat 0), .s [], .sl none 0 0 0, .b false]
  [(0, (3, .t ⟨.e, .d⟩))], []⟩, ⟨some ⟨.e, .f⟩, none, .bsl 130 4 1 [.i .i64 (.ofNat 0), .s [], .sl none 0 0 0, .b false] [(0, (4, .t ⟨.e, .e⟩))], []⟩, ⟨some ⟨.e, .g⟩, none, .app 130 4 false (.t ⟨.e,
  .b⟩) (.t ⟨.e, .f⟩), []⟩, ⟨some ⟨.e, .h⟩, none, .nc (.t ⟨.d, .n⟩), []⟩, ⟨some ⟨.e, .i⟩, none, .fa 0 (.t ⟨.e, .h⟩), []⟩, ⟨none, none, .st 1 (.t ⟨.e, .i⟩) (.t ⟨.e, .g⟩), []⟩])))))), []⟩

theorem ok171 : FnR Go.Proofs.Tryz.prog 0 171 cf171 := fnC_ok [12, 14, 15, 21, 23, 27, 39, 46, 50, 51, 55, 56] Go.Proofs.Tryz.func171 (by kernel_rfl) (by kernel_rfl)

def cf172 : CF := ⟨7, 1, .seq (.reg [⟨some ⟨.a, .c⟩, none, .mv (.c (.c (.b false))), []⟩]) (.seq (.reg [⟨some ⟨.a, .e⟩, none, .bsl 9 1 2 [.s [], .s []] [(0, (1, .c (.c (.s [])))), (1, (1, .t ⟨.a, .a⟩))], []⟩, ⟨some
  ⟨.a, .f⟩, none, .call 137 [.t ⟨.a, .e⟩, .c (.c (.s [])), .c (.c (.i .i64 (.ofNat 1)))], []⟩, ⟨some ⟨.a, .g⟩, none, .un .not (.t ⟨.a, .f⟩), []⟩, ⟨some ⟨.a, .c⟩, none, .mv (.t ⟨.a, .g⟩), []⟩]) .ret),
  [(⟨.a, .c⟩, none)]⟩

theorem ok172 : FnR Go.Proofs.Tryz.prog 0 172 cf172 := fnC_ok [3] Go.Proofs.Tryz.func172 (by kernel_rfl) (by kernel_rfl)

end

end Ev
end

section
namespace Ev

set_option autoImplicit false

noncomputable section

def cf173 : CF := ⟨29, 2, .seq (.reg [⟨some ⟨.a, .e⟩, none, .mv (.c (.c (.i .i64 (.ofNat 0)))), []⟩]) (.seq (.seq (.reg [⟨some ⟨.a, .h⟩, none, .bin .add (.t ⟨.a, .b⟩) (.c (.c (.i .i64 (.ofNat 1)))), []⟩, ⟨some ⟨.a,
  .f⟩, none, .mv (.t ⟨.a, .h⟩), []⟩]) (.blk 0 (.loop (.seq (.seq (.reg [⟨some ⟨.a, .k⟩, none, .nc (.t ⟨.a, .a⟩), []⟩, ⟨some ⟨.a, .l⟩, none, .fa 3 (.t ⟨.a, .k⟩), []⟩, ⟨some ⟨.a, .m⟩, none, .ld 1 false
  (.t ⟨.a, .l⟩), []⟩, ⟨some ⟨.a, .n⟩, none, .len true (.t ⟨.a, .m⟩), []⟩, ⟨some ⟨.a, .o⟩, none, .bin .lss (.t ⟨.a, .f⟩) (.t ⟨.a, .n⟩), []⟩]) (.cond (.t ⟨.a, .o⟩) .skip (.exit 0))) (.seq (.blk 1 (.seq
  (.reg [⟨some ⟨.b, .c⟩, none, .nc (.t ⟨.a, .a⟩), []⟩, ⟨some ⟨.b, .d⟩, none, .fa 3 (.t ⟨.b, .c⟩), []⟩, ⟨some ⟨.b, .e⟩, none, .ld 1 false (.t ⟨.b, .d⟩), []⟩, ⟨some ⟨.b, .g⟩, none, .ia 1 (.t ⟨.b, .e⟩)
  (.t ⟨.a, .f⟩), []⟩, ⟨some ⟨.b, .h⟩, none, .ld 1 false (.t ⟨.b, .g⟩), []⟩, ⟨some ⟨.b, .i⟩, none, .nc (.t ⟨.b, .h⟩), []⟩, ⟨some ⟨.b, .j⟩, none, .fa 2 (.t ⟨.b, .i⟩), []⟩, ⟨some ⟨.b, .k⟩, none, .ld 1
  false (.t ⟨.b, .j⟩), []⟩, ⟨some ⟨.b, .l⟩, none, .call 105 [.t ⟨.b, .k⟩, .c (.c (.i .i64 (.ofNat 2)))], []⟩]) (.cond (.t ⟨.b, .l⟩) (.seq (.reg [⟨some ⟨.a, .e⟩, none, .mv (.t ⟨.a, .f⟩), []⟩]) .ret)
  .skip))) (.reg [⟨some ⟨.b, .a⟩, none, .bin .add (.t ⟨.a, .f⟩) (.c (.c (.i .i64 (.ofNat 1)))), []⟩, ⟨some ⟨.a, .f⟩, none, .mv (.t ⟨.b, .a⟩), []⟩])))))) (.seq (.reg [⟨some ⟨.a, .e⟩, none, .mv (.c (.c
  (.i .i64 (.negSucc 0)))), []⟩]) .ret)), [(⟨.a, .e⟩, none)]⟩

theorem ok173 : FnR Go.Proofs.Tryz.prog 0 173 cf173 := fnC_ok [6, 8, 9, 15, 17, 21, 28] Go.Proofs.Tryz.func173 (by kernel_rfl) (by kernel_rfl)

def cf179 : CF := ⟨19, 2, .seq (.reg [⟨some ⟨.a, .e⟩, none, .mv (.c (.c (.i .i64 (.ofNat 0)))), []⟩]) (.seq (.seq (.reg [⟨some ⟨.a, .h⟩, none, .len true (.t ⟨.a, .a⟩), []⟩, ⟨some ⟨.a, .i⟩, none, .mv (.c (.c (.i .i64
  (.ofNat 0)))), []⟩]) (.blk 0 (.loop (.seq (.reg [⟨some ⟨.a, .j⟩, none, .bin .lss (.t ⟨.a, .i⟩) (.t ⟨.a, .h⟩), []⟩]) (.seq (.cond (.t ⟨.a, .j⟩) .skip (.exit 0)) (.seq (.blk 1 (.seq (.reg [⟨some ⟨.a,
  .f⟩, none, .mv (.t ⟨.a, .i⟩), []⟩]) (.seq (.reg [⟨some ⟨.a, .o⟩, none, .ia 4 (.t ⟨.a, .a⟩) (.t ⟨.a, .f⟩), []⟩, ⟨some ⟨.a, .p⟩, none, .ld 4 true (.t ⟨.a, .o⟩), []⟩, ⟨some ⟨.b, .a⟩, none, .callv (.t
  ⟨.a, .b⟩) [.t ⟨.a, .p⟩], []⟩]) (.cond (.t ⟨.b, .a⟩) (.seq (.reg [⟨some ⟨.a, .e⟩, none, .mv (.t ⟨.a, .f⟩), []⟩]) .ret) .skip)))) (.reg [⟨some ⟨.b, .c⟩, none, .bin .add (.t ⟨.a, .i⟩) (.c (.c (.i .i64
  (.ofNat 1)))), []⟩, ⟨some ⟨.a, .i⟩, none, .mv (.t ⟨.b, .c⟩), []⟩]))))))) (.seq (.reg [⟨some ⟨.a, .e⟩, none, .mv (.c (.c (.i .i64 (.negSucc 0)))), []⟩]) .ret)), [(⟨.a, .e⟩, none)]⟩

theorem ok179 : FnR Go.Proofs.Tryz.prog 0 179 cf179 := fnC_ok [6, 10, 11, 12, 13, 17] Go.Proofs.Tryz.func179 (by kernel_rfl) (by kernel_rfl)

def cf180 : CF := ⟨14, 2, .seq (.reg [⟨some ⟨.a, .c⟩, none, .new 130 (.t ⟨.a, .a⟩), []⟩, ⟨some ⟨.a, .d⟩, none, .mv (.c (.c (.b false))), []⟩]) (.seq (.reg [⟨some ⟨.a, .e⟩, none, .fa 3 (.t ⟨.a, .c⟩), []⟩, ⟨some ⟨.a,
  .f⟩, none, .ld 1 false (.t ⟨.a, .e⟩), []⟩, ⟨some ⟨.a, .g⟩, none, .un .not (.t ⟨.a, .f⟩), []⟩, ⟨some ⟨.a, .h⟩, none, .mv (.t ⟨.a, .g⟩), []⟩, ⟨some ⟨.a, .i⟩, some (⟨.a, .h⟩, true), .fa 0 (.t ⟨.a, .c⟩),
  []⟩, ⟨some ⟨.a, .j⟩, some (⟨.a, .h⟩, true), .fa 0 (.t ⟨.a, .i⟩), []⟩, ⟨some ⟨.a, .k⟩, some (⟨.a, .h⟩, true), .ld 1 false (.t ⟨.a, .j⟩), []⟩, ⟨some ⟨.a, .l⟩, some (⟨.a, .h⟩, true), .ld 1 false (.t
  ⟨.a, .b⟩), []⟩, ⟨some ⟨.a, .m⟩, some (⟨.a, .h⟩, true), .bin .eql (.t ⟨.a, .k⟩) (.t ⟨.a, .l⟩), []⟩, ⟨some ⟨.a, .n⟩, none, .pk (.t ⟨.a, .h⟩) (.t ⟨.a, .m⟩) (.c (.c (.b false))), []⟩, ⟨some ⟨.a, .d⟩,
  none, .mv (.t ⟨.a, .n⟩), []⟩]) .ret), [(⟨.a, .d⟩, none)]⟩

theorem ok180 : FnR Go.Proofs.Tryz.prog 0 180 cf180 := fnC_ok [] Go.Proofs.Tryz.func180 (by kernel_rfl) (by kernel_rfl)

def cf184 : CF := ⟨33, 3, .seq (.reg [⟨some ⟨.a, .g⟩, none, .mv (.c (.c (.sl none 0 0 0))), []⟩]) (.seq (.reg [⟨some ⟨.a, .m⟩, none, .len true (.t ⟨.a, .a⟩), []⟩, ⟨some ⟨.a, .n⟩, none, .slc 4 (.t ⟨.a, .a⟩) (some (.t
  ⟨.a, .b⟩)) (some (.t ⟨.a, .c⟩)) (some (.t ⟨.a, .m⟩)), []⟩]) (.seq (.seq (.reg [⟨some ⟨.b, .a⟩, none, .bin .eql (.t ⟨.a, .b⟩) (.t ⟨.a, .c⟩), []⟩]) (.cond (.t ⟨.b, .a⟩) (.seq (.reg [⟨some ⟨.a, .g⟩,
  none, .mv (.t ⟨.a, .a⟩), []⟩]) .ret) .skip)) (.seq (.reg [⟨some ⟨.b, .d⟩, none, .len true (.t ⟨.a, .a⟩), []⟩, ⟨some ⟨.a, .h⟩, none, .mv (.t ⟨.b, .d⟩), []⟩]) (.seq (.dreg [⟨some ⟨.b, .e⟩, none, .mv
  (.t ⟨.a, .a⟩), []⟩, ⟨some ⟨.b, .f⟩, none, .mv (.t ⟨.a, .b⟩), []⟩, ⟨some ⟨.b, .g⟩, none, .slc 4 (.t ⟨.b, .e⟩) none (some (.t ⟨.b, .f⟩)) none, []⟩, ⟨some ⟨.b, .h⟩, none, .mv (.t ⟨.a, .a⟩), []⟩, ⟨some
  ⟨.b, .i⟩, none, .mv (.t ⟨.a, .c⟩), []⟩, ⟨some ⟨.b, .j⟩, none, .slc 4 (.t ⟨.b, .h⟩) (some (.t ⟨.b, .i⟩)) none none, []⟩, ⟨some ⟨.b, .k⟩, none, .app 130 4 false (.t ⟨.b, .g⟩) (.t ⟨.b, .j⟩), []⟩, ⟨some
  ⟨.a, .a⟩, none, .mv (.t ⟨.b, .k⟩), []⟩]) (.seq (.reg [⟨some ⟨.b, .n⟩, none, .len true (.t ⟨.a, .a⟩), []⟩, ⟨some ⟨.b, .p⟩, none, .slc 4 (.t ⟨.a, .a⟩) (some (.t ⟨.b, .n⟩)) (some (.t ⟨.a, .h⟩)) none,
  []⟩, ⟨none, none, .clr [.i .i64 (.ofNat 0), .s [], .sl none 0 0 0, .b false] (.t ⟨.b, .p⟩), []⟩]) (.seq (.reg [⟨some ⟨.a, .g⟩, none, .mv (.t ⟨.a, .a⟩), []⟩]) .ret)))))), [(⟨.a, .g⟩, none)]⟩

theorem ok184 : FnR Go.Proofs.Tryz.prog 0 184 cf184 := fnC_ok [8, 9, 10, 11, 14, 15, 17, 18, 27, 28, 30, 32] Go.Proofs.Tryz.func184 (by kernel_rfl) (by kernel_rfl)

def cf185 : CF := ⟨36, 1, .seq (.reg [⟨some ⟨.a, .b⟩, none, .new 128 (.t ⟨.a, .a⟩), []⟩, ⟨some ⟨.a, .c⟩, none, .new 175 (.c (.a [.s [], .s []])), []⟩]) (.seq (.reg [⟨some ⟨.a, .d⟩, none, .new 188 (.c (.a [.p none, .sl
  none 0 0 0])), []⟩]) (.seq (.seq (.reg [⟨some ⟨.a, .i⟩, none, .fa 2 (.t ⟨.a, .b⟩), []⟩, ⟨some ⟨.a, .j⟩, none, .ld 1 false (.t ⟨.a, .i⟩), []⟩, ⟨some ⟨.a, .k⟩, none, .len true (.t ⟨.a, .j⟩), []⟩, ⟨some
  ⟨.a, .l⟩, none, .mv (.c (.c (.i .i64 (.ofNat 0)))), []⟩]) (.blk 0 (.loop (.seq (.reg [⟨some ⟨.a, .m⟩, none, .bin .lss (.t ⟨.a, .l⟩) (.t ⟨.a, .k⟩), []⟩]) (.seq (.cond (.t ⟨.a, .m⟩) .skip (.exit 0))
  (.seq (.blk 1 (.seq (.reg [⟨some ⟨.a, .n⟩, none, .ia 2 (.t ⟨.a, .j⟩) (.t ⟨.a, .l⟩), []⟩, ⟨some ⟨.a, .o⟩, none, .ld 2 true (.t ⟨.a, .n⟩), []⟩, ⟨some ⟨.a, .f⟩, none, .new 84 (.c (.a [.s [], .s []])),
  []⟩, ⟨none, none, .st 2 (.t ⟨.a, .f⟩) (.t ⟨.a, .o⟩), []⟩]) (.seq (.reg [⟨some ⟨.a, .p⟩, none, .fa 0 (.t ⟨.a, .f⟩), []⟩, ⟨some ⟨.b, .a⟩, none, .ld 1 false (.t ⟨.a, .p⟩), []⟩, ⟨some ⟨.b, .b⟩, none, .fa
  1 (.t ⟨.a, .f⟩), []⟩, ⟨some ⟨.b, .c⟩, none, .ld 1 false (.t ⟨.b, .b⟩), []⟩, ⟨some ⟨.b, .d⟩, none, .bld [.s [], .s []] [(0, (1, .t ⟨.b, .a⟩)), (1, (1, .t ⟨.b, .c⟩))], []⟩, ⟨some ⟨.b, .e⟩, none, .mv
  (.c (.c (.i .i64 (.ofNat 0)))), []⟩]) (.blk 2 (.loop (.seq (.reg [⟨some ⟨.b, .f⟩, none, .bin .lss (.t ⟨.b, .e⟩) (.c (.c (.i .i64 (.ofNat 2)))), []⟩]) (.seq (.cond (.t ⟨.b, .f⟩) .skip (.exit 2)) (.seq
  (.blk 3 (.seq (.reg [⟨some ⟨.b, .g⟩, none, .ix 2 1 false (.t ⟨.b, .d⟩) (.t ⟨.b, .e⟩), []⟩, ⟨some ⟨.a, .h⟩, none, .mv (.t ⟨.b, .g⟩), []⟩]) (.seq (.reg [⟨some ⟨.b, .i⟩, none, .len false (.t ⟨.a, .h⟩),
  []⟩, ⟨some ⟨.b, .j⟩, none, .call 195 [.t ⟨.b, .i⟩], []⟩, ⟨some ⟨.b, .k⟩, none, .call 194 [.t ⟨.a, .d⟩, .t ⟨.b, .j⟩], []⟩]) (.seq (.reg [⟨some ⟨.b, .l⟩, none, .call 196 [.t ⟨.a, .d⟩, .c (.c (.i .u8
  (.ofNat 58)))], []⟩]) (.reg [⟨some ⟨.b, .n⟩, none, .call 194 [.t ⟨.a, .d⟩, .t ⟨.a, .h⟩], []⟩]))))) (.reg [⟨some ⟨.b, .o⟩, none, .bin .add (.t ⟨.b, .e⟩) (.c (.c (.i .i64 (.ofNat 1)))), []⟩, ⟨some ⟨.b,
  .e⟩, none, .mv (.t ⟨.b, .o⟩), []⟩]))))))))) (.reg [⟨some ⟨.b, .p⟩, none, .bin .add (.t ⟨.a, .l⟩) (.c (.c (.i .i64 (.ofNat 1)))), []⟩, ⟨some ⟨.a, .l⟩, none, .mv (.t ⟨.b, .p⟩), []⟩]))))))) (.seq (.dreg
  [⟨some ⟨.c, .a⟩, none, .fa 1 (.t ⟨.a, .b⟩), []⟩, ⟨some ⟨.c, .b⟩, none, .ld 1 false (.t ⟨.c, .a⟩), []⟩, ⟨some ⟨.c, .c⟩, none, .call 197 [.t ⟨.a, .d⟩], [⟨some ⟨.c, .b⟩, none, .ld 1 false (.t ⟨.c,
  .a⟩)⟩]⟩, ⟨some ⟨.c, .d⟩, none, .bld [.s [], .s []] [(0, (1, .t ⟨.c, .b⟩)), (1, (1, .t ⟨.c, .c⟩))], []⟩, ⟨none, none, .st 2 (.t ⟨.a, .c⟩) (.t ⟨.c, .d⟩), []⟩]) .ret))), [(⟨.a, .c⟩, some (2, true))]⟩

theorem ok185 : FnR Go.Proofs.Tryz.prog 0 185 cf185 := fnC_ok [23, 28] Go.Proofs.Tryz.func185 (by kernel_rfl) (by kernel_rfl)

def cf197 : CF := ⟨14, 1, .seq (.reg [⟨some ⟨.a, .c⟩, none, .mv (.c (.c (.s []))), []⟩]) (.seq (.dreg [⟨some ⟨.a, .d⟩, none, .mv (.t ⟨.a, .a⟩), []⟩, ⟨some ⟨.a, .e⟩, none, .nc (.t ⟨.a, .d⟩), []⟩, ⟨some ⟨.a, .f⟩, none,
  .fa 1 (.t ⟨.a, .e⟩), []⟩, ⟨some ⟨.a, .g⟩, none, .ld 1 false (.t ⟨.a, .f⟩), []⟩, ⟨some ⟨.a, .h⟩, none, .usd (.t ⟨.a, .g⟩), []⟩, ⟨some ⟨.a, .i⟩, none, .mv (.t ⟨.a, .a⟩), []⟩, ⟨some ⟨.a, .j⟩, none, .nc
  (.t ⟨.a, .i⟩), []⟩, ⟨some ⟨.a, .k⟩, none, .fa 1 (.t ⟨.a, .j⟩), []⟩, ⟨some ⟨.a, .l⟩, none, .ld 1 false (.t ⟨.a, .k⟩), []⟩, ⟨some ⟨.a, .m⟩, none, .len true (.t ⟨.a, .l⟩), []⟩, ⟨some ⟨.a, .n⟩, none,
  .ustr (.t ⟨.a, .h⟩) (.t ⟨.a, .m⟩), []⟩, ⟨some ⟨.a, .c⟩, none, .mv (.t ⟨.a, .n⟩), []⟩]) .ret), [(⟨.a, .c⟩, none)]⟩

theorem ok197 : FnR Go.Proofs.Tryz.prog 0 197 cf197 := fnC_ok [] Go.Proofs.Tryz.func197 (by kernel_rfl) (by kernel_rfl)

end

end Ev
end

section
namespace Ev

set_option autoImplicit false

noncomputable section

def ftb : FT := (.node 96 cf96 (.node 51 cf51 (.node 28 cf28 (.node 21 cf21 (.node 12 cf12 (.node 7 cf7 (.node 5 cf5 .nil .nil) (.node 8 cf8 .nil .nil)) (.node 15 cf15 (.node 13 cf13 .nil .nil) (.node 16 cf16 .nil
  .nil))) (.node 25 cf25 (.node 23 cf23 (.node 22 cf22 .nil .nil) (.node 24 cf24 .nil .nil)) (.node 27 cf27 (.node 26 cf26 .nil .nil) .nil))) (.node 40 cf40 (.node 36 cf36 (.node 34 cf34 (.node 33 cf33
  .nil .nil) (.node 35 cf35 .nil .nil)) (.node 39 cf39 (.node 38 cf38 .nil .nil) .nil)) (.node 45 cf45 (.node 43 cf43 (.node 42 cf42 .nil .nil) (.node 44 cf44 .nil .nil)) (.node 50 cf50 (.node 46 cf46
  .nil .nil) .nil)))) (.node 70 cf70 (.node 63 cf63 (.node 55 cf55 (.node 53 cf53 (.node 52 cf52 .nil .nil) (.node 54 cf54 .nil .nil)) (.node 57 cf57 (.node 56 cf56 .nil .nil) (.node 62 cf62 .nil
  .nil))) (.node 67 cf67 (.node 65 cf65 (.node 64 cf64 .nil .nil) (.node 66 cf66 .nil .nil)) (.node 69 cf69 (.node 68 cf68 .nil .nil) .nil))) (.node 80 cf80 (.node 77 cf77 (.node 72 cf72 (.node 71 cf71
  .nil .nil) (.node 74 cf74 .nil .nil)) (.node 79 cf79 (.node 78 cf78 .nil .nil) .nil)) (.node 87 cf87 (.node 84 cf84 (.node 81 cf81 .nil .nil) (.node 86 cf86 .nil .nil)) (.node 95 cf95 (.node 88 cf88
  .nil .nil) .nil))))) (.node 135 cf135 (.node 114 cf114 (.node 106 cf106 (.node 101 cf101 (.node 99 cf99 (.node 97 cf97 .nil .nil) (.node 100 cf100 .nil .nil)) (.node 104 cf104 (.node 103 cf103 .nil
  .nil) (.node 105 cf105 .nil .nil))) (.node 110 cf110 (.node 108 cf108 (.node 107 cf107 .nil .nil) (.node 109 cf109 .nil .nil)) (.node 113 cf113 (.node 111 cf111 .nil .nil) .nil))) (.node 121 cf121
  (.node 118 cf118 (.node 116 cf116 (.node 115 cf115 .nil .nil) (.node 117 cf117 .nil .nil)) (.node 120 cf120 (.node 119 cf119 .nil .nil) .nil)) (.node 131 cf131 (.node 128 cf128 (.node 122 cf122 .nil
  .nil) (.node 130 cf130 .nil .nil)) (.node 134 cf134 (.node 132 cf132 .nil .nil) .nil)))) (.node 152 cf152 (.node 143 cf143 (.node 140 cf140 (.node 137 cf137 (.node 136 cf136 .nil .nil) (.node 139
  cf139 .nil .nil)) (.node 142 cf142 (.node 141 cf141 .nil .nil) .nil)) (.node 148 cf148 (.node 145 cf145 (.node 144 cf144 .nil .nil) (.node 147 cf147 .nil .nil)) (.node 150 cf150 (.node 149 cf149 .nil
  .nil) .nil))) (.node 172 cf172 (.node 169 cf169 (.node 163 cf163 (.node 161 cf161 .nil .nil) (.node 164 cf164 .nil .nil)) (.node 171 cf171 (.node 170 cf170 .nil .nil) .nil)) (.node 184 cf184 (.node
  179 cf179 (.node 173 cf173 .nil .nil) (.node 180 cf180 .nil .nil)) (.node 197 cf197 (.node 185 cf185 .nil .nil) .nil))))))

theorem ftb_ok : ftb.Ok (FnR Go.Proofs.Tryz.prog 0) := (.node ok96 (.node ok51 (.node ok28 (.node ok21 (.node ok12 (.node ok7 (.node ok5 .nil .nil) (.node ok8 .nil .nil)) (.node ok15 (.node ok13 .nil .nil) (.node ok16 .nil .nil))) (.node ok25 (.node ok23
  (.node ok22 .nil .nil) (.node ok24 .nil .nil)) (.node ok27 (.node ok26 .nil .nil) .nil))) (.node ok40 (.node ok36 (.node ok34 (.node ok33 .nil .nil) (.node ok35 .nil .nil)) (.node ok39 (.node ok38
  .nil .nil) .nil)) (.node ok45 (.node ok43 (.node ok42 .nil .nil) (.node ok44 .nil .nil)) (.node ok50 (.node ok46 .nil .nil) .nil)))) (.node ok70 (.node ok63 (.node ok55 (.node ok53 (.node ok52 .nil
  .nil) (.node ok54 .nil .nil)) (.node ok57 (.node ok56 .nil .nil) (.node ok62 .nil .nil))) (.node ok67 (.node ok65 (.node ok64 .nil .nil) (.node ok66 .nil .nil)) (.node ok69 (.node ok68 .nil .nil)
  .nil))) (.node ok80 (.node ok77 (.node ok72 (.node ok71 .nil .nil) (.node ok74 .nil .nil)) (.node ok79 (.node ok78 .nil .nil) .nil)) (.node ok87 (.node ok84 (.node ok81 .nil .nil) (.node ok86 .nil
  .nil)) (.node ok95 (.node ok88 .nil .nil) .nil))))) (.node ok135 (.node ok114 (.node ok106 (.node ok101 (.node ok99 (.node ok97 .nil .nil) (.node ok100 .nil .nil)) (.node ok104 (.node ok103 .nil
  .nil) (.node ok105 .nil .nil))) (.node ok110 (.node ok108 (.node ok107 .nil .nil) (.node ok109 .nil .nil)) (.node ok113 (.node ok111 .nil .nil) .nil))) (.node ok121 (.node ok118 (.node ok116 (.node
  ok115 .nil .nil) (.node ok117 .nil .nil)) (.node ok120 (.node ok119 .nil .nil) .nil)) (.node ok131 (.node ok128 (.node ok122 .nil .nil) (.node ok130 .nil .nil)) (.node ok134 (.node ok132 .nil .nil)
  .nil)))) (.node ok152 (.node ok143 (.node ok140 (.node ok137 (.node ok136 .nil .nil) (.node ok139 .nil .nil)) (.node ok142 (.node ok141 .nil .nil) .nil)) (.node ok148 (.node ok145 (.node ok144 .nil
  .nil) (.node ok147 .nil .nil)) (.node ok150 (.node ok149 .nil .nil) .nil))) (.node ok172 (.node ok169 (.node ok163 (.node ok161 .nil .nil) (.node ok164 .nil .nil)) (.node ok171 (.node ok170 .nil
  .nil) .nil)) (.node ok184 (.node ok179 (.node ok173 .nil .nil) (.node ok180 .nil .nil)) (.node ok197 (.node ok185 .nil .nil) .nil))))))

end

end Ev
end

section
namespace Ev

set_option autoImplicit false

open Go.RowKit

noncomputable section

theorem awake_run : good (runT ftb 15 [] H00) = true := by kernel_rfl

theorem awakeLaw {w : World} (hw : WP w) : Calls Tryz.prog 15 #[] w (Ret fun v w' => Ext w w' ∧ v = .bool true) := closed_true ftb_ok hw .nil awake_run

def spA (f : Nat) (vs : List AV) (H : AH) : Option (AV × AH) := cond (Nat.beq f 15) (match vs with
  | [] => some (.c (.b true), H)
  | _ => none) (spP f vs H)

def ftA (f : Nat) : Option CF := cond (Nat.beq f 15) none (ftb.find f)

def runA : Run := runF spA ftA deep

theorem spA_ok : RunOk Tryz.prog 0 spA := by
  intro f vs H H' v h
  replace h : cond (Nat.beq f 15) (match (generalizing := false) vs with
    | [] => some (AV.c (.b true), H)
    | _ => none) (spP f vs H) = some (v, H') := h
  cases hb : Nat.beq f 15 with
  | false => rw [hb] at h; exact spP_ok h
  | true =>
    rw [hb] at h
    have hf := Nat.eq_of_beq_eq_true hb
    subst hf
    replace h : (match (generalizing := false) vs with
      | [] => some (AV.c (.b true), H)
      | _ => none) = some (v, H') := h
    split at h
    · injection h with h; injection h with h1 h2; subst h1; subst h2
      refine ⟨⟨_, Tryz.func15, by decide +kernel, rfl⟩, fun {E w0 w args} hG hH hA => ⟨Keeps.refl _ _, ?_⟩⟩
      cases hA
      refine (awakeLaw hH.table).mono fun e w' hr => ?_
      cases e with
      | returned v =>
        obtain ⟨hE, rfl⟩ := hr
        exact ⟨E, En.le_refl _, fun _ _ h => .inl h, hH.ext hE, rfl⟩
      | _ => exact hr.elim
    · cases h

theorem ftA_ok {f : Nat} {cf : CF} (h : ftA f = some cf) : FnR Tryz.prog 0 f cf := by
  unfold ftA at h
  cases hb : Nat.beq f 15 with
  | true => rw [hb] at h; cases h
  | false => rw [hb] at h; exact FT.find_ok ftb_ok h

theorem runA_ok : RunOk Tryz.prog 0 runA := run_sound (fun _ _ h => ftA_ok h) spA_ok deep

theorem closed_trueA {f : FuncId} {vs : List AV} {args : List Value} {w : World} (hw : WP w) (hvs : All2 (AV.v fun _ => none) vs args) (h : good (runA f vs H00) = true) : Calls Tryz.prog f args.toArray w (Ret fun v w' => Ext w w' ∧ v = .bool true) := by
  unfold good at h
  split at h
  · rename_i H' hr
    obtain ⟨_, hb⟩ := runA_ok hr
    refine (hb (fun g hg => absurd hg (Nat.not_lt_zero g)) (HR.start hw) hvs).2.mono fun e w' hx => ?_
    cases e with
    | returned v =>
      obtain ⟨E', _, _, h3, h4⟩ := hx
      exact ⟨h3.ch.ext, h4⟩
    | _ => exact hx.elim
  · cases h

end

end Ev
end

section
namespace Ev

set_option autoImplicit false

theorem tables_0_0_f : good (runA 5 [.c (.qu 5 0), .c (.qu 5 0), .c (.b false)] H00) = true := by kernel_rfl

theorem tables_0_1_f : good (runA 5 [.c (.qu 5 0), .c (.qu 5 1), .c (.b false)] H00) = true := by kernel_rfl

theorem tables_0_2_f : good (runA 5 [.c (.qu 5 0), .c (.qu 5 2), .c (.b false)] H00) = true := by kernel_rfl

theorem tables_0_3_f : good (runA 5 [.c (.qu 5 0), .c (.qu 5 3), .c (.b false)] H00) = true := by kernel_rfl

theorem tables_0_4_f : good (runA 5 [.c (.qu 5 0), .c (.qu 5 4), .c (.b false)] H00) = true := by kernel_rfl

end Ev
end

section
namespace Ev

set_option autoImplicit false

theorem tables_1_0_f : good (runA 5 [.c (.qu 5 1), .c (.qu 5 0), .c (.b false)] H00) = true := by kernel_rfl

theorem tables_1_1_f : good (runA 5 [.c (.qu 5 1), .c (.qu 5 1), .c (.b false)] H00) = true := by kernel_rfl

theorem tables_1_2_f : good (runA 5 [.c (.qu 5 1), .c (.qu 5 2), .c (.b false)] H00) = true := by kernel_rfl

theorem tables_1_3_f : good (runA 5 [.c (.qu 5 1), .c (.qu 5 3), .c (.b false)] H00) = true := by kernel_rfl

theorem tables_1_4_f : good (runA 5 [.c (.qu 5 1), .c (.qu 5 4), .c (.b false)] H00) = true := by kernel_rfl

end Ev
end

section
namespace Ev

set_option autoImplicit false

theorem tables_2_0_f : good (runA 5 [.c (.qu 5 2), .c (.qu 5 0), .c (.b false)] H00) = true := by kernel_rfl

theorem tables_2_1_f : good (runA 5 [.c (.qu 5 2), .c (.qu 5 1), .c (.b false)] H00) = true := by kernel_rfl

theorem tables_2_2_f : good (runA 5 [.c (.qu 5 2), .c (.qu 5 2), .c (.b false)] H00) = true := by kernel_rfl

theorem tables_2_3_f : good (runA 5 [.c (.qu 5 2), .c (.qu 5 3), .c (.b false)] H00) = true := by kernel_rfl

theorem tables_2_4_f : good (runA 5 [.c (.qu 5 2), .c (.qu 5 4), .c (.b false)] H00) = true := by kernel_rfl

end Ev
end

section
namespace Ev

set_option autoImplicit false

theorem tables_3_0_f : good (runA 5 [.c (.qu 5 3), .c (.qu 5 0), .c (.b false)] H00) = true := by kernel_rfl

theorem tables_3_1_f : good (runA 5 [.c (.qu 5 3), .c (.qu 5 1), .c (.b false)] H00) = true := by kernel_rfl

theorem tables_3_2_f : good (runA 5 [.c (.qu 5 3), .c (.qu 5 2), .c (.b false)] H00) = true := by kernel_rfl

theorem tables_3_3_f : good (runA 5 [.c (.qu 5 3), .c (.qu 5 3), .c (.b false)] H00) = true := by kernel_rfl

end Ev
end

section
namespace Ev

set_option autoImplicit false

theorem tables_3_4_f : good (runA 5 [.c (.qu 5 3), .c (.qu 5 4), .c (.b false)] H00) = true := by kernel_rfl

theorem tables_4_0_f : good (runA 5 [.c (.qu 5 4), .c (.qu 5 0), .c (.b false)] H00) = true := by kernel_rfl

theorem tables_4_1_f : good (runA 5 [.c (.qu 5 4), .c (.qu 5 1), .c (.b false)] H00) = true := by kernel_rfl

end Ev
end

section
namespace Ev

set_option autoImplicit false

theorem tables_4_2_f : good (runA 5 [.c (.qu 5 4), .c (.qu 5 2), .c (.b false)] H00) = true := by kernel_rfl

theorem tables_4_3_f : good (runA 5 [.c (.qu 5 4), .c (.qu 5 3), .c (.b false)] H00) = true := by kernel_rfl

end Ev
end

section
namespace Ev

set_option autoImplicit false

theorem tables_4_4_f : good (runA 5 [.c (.qu 5 4), .c (.qu 5 4), .c (.b false)] H00) = true := by kernel_rfl

end Ev
end

section
namespace Ev

set_option autoImplicit false

theorem tables_0_0_t : good (runA 5 [.c (.qu 5 0), .c (.qu 5 0), .c (.b true)] H00) = true := by kernel_rfl

theorem tables_0_1_t : good (runA 5 [.c (.qu 5 0), .c (.qu 5 1), .c (.b true)] H00) = true := by kernel_rfl

theorem tables_0_2_t : good (runA 5 [.c (.qu 5 0), .c (.qu 5 2), .c (.b true)] H00) = true := by kernel_rfl

theorem tables_0_3_t : good (runA 5 [.c (.qu 5 0), .c (.qu 5 3), .c (.b true)] H00) = true := by kernel_rfl

theorem tables_0_4_t : good (runA 5 [.c (.qu 5 0), .c (.qu 5 4), .c (.b true)] H00) = true := by kernel_rfl

end Ev
end

section
namespace Ev

set_option autoImplicit false

theorem tables_1_0_t : good (runA 5 [.c (.qu 5 1), .c (.qu 5 0), .c (.b true)] H00) = true := by kernel_rfl

theorem tables_1_1_t : good (runA 5 [.c (.qu 5 1), .c (.qu 5 1), .c (.b true)] H00) = true := by kernel_rfl

theorem tables_1_2_t : good (runA 5 [.c (.qu 5 1), .c (.qu 5 2), .c (.b true)] H00) = true := by kernel_rfl

theorem tables_1_3_t : good (runA 5 [.c (.qu 5 1), .c (.qu 5 3), .c (.b true)] H00) = true := by kernel_rfl

theorem tables_1_4_t : good (runA 5 [.c (.qu 5 1), .c (.qu 5 4), .c (.b true)] H00) = true := by kernel_rfl

end Ev
end

section
namespace Ev

set_option autoImplicit false

theorem tables_2_0_t : good (runA 5 [.c (.qu 5 2), .c (.qu 5 0), .c (.b true)] H00) = true := by kernel_rfl

theorem tables_2_1_t : good (runA 5 [.c (.qu 5 2), .c (.qu 5 1), .c (.b true)] H00) = true := by kernel_rfl

theorem tables_2_2_t : good (runA 5 [.c (.qu 5 2), .c (.qu 5 2), .c (.b true)] H00) = true := by kernel_rfl

theorem tables_2_3_t : good (runA 5 [.c (.qu 5 2), .c (.qu 5 3), .c (.b true)] H00) = true := by kernel_rfl

theorem tables_2_4_t : good (runA 5 [.c (.qu 5 2), .c (.qu 5 4), .c (.b true)] H00) = true := by kernel_rfl

end Ev
end

section
namespace Ev

set_option autoImplicit false

theorem tables_3_0_t : good (runA 5 [.c (.qu 5 3), .c (.qu 5 0), .c (.b true)] H00) = true := by kernel_rfl

theorem tables_3_1_t : good (runA 5 [.c (.qu 5 3), .c (.qu 5 1), .c (.b true)] H00) = true := by kernel_rfl

theorem tables_3_2_t : good (runA 5 [.c (.qu 5 3), .c (.qu 5 2), .c (.b true)] H00) = true := by kernel_rfl

theorem tables_3_3_t : good (runA 5 [.c (.qu 5 3), .c (.qu 5 3), .c (.b true)] H00) = true := by kernel_rfl

end Ev
end

section
namespace Ev

set_option autoImplicit false

theorem tables_3_4_t : good (runA 5 [.c (.qu 5 3), .c (.qu 5 4), .c (.b true)] H00) = true := by kernel_rfl

theorem tables_4_0_t : good (runA 5 [.c (.qu 5 4), .c (.qu 5 0), .c (.b true)] H00) = true := by kernel_rfl

theorem tables_4_1_t : good (runA 5 [.c (.qu 5 4), .c (.qu 5 1), .c (.b true)] H00) = true := by kernel_rfl

end Ev
end

section
namespace Ev

set_option autoImplicit false

theorem tables_4_2_t : good (runA 5 [.c (.qu 5 4), .c (.qu 5 2), .c (.b true)] H00) = true := by kernel_rfl

theorem tables_4_3_t : good (runA 5 [.c (.qu 5 4), .c (.qu 5 3), .c (.b true)] H00) = true := by kernel_rfl

end Ev
end

section
namespace Ev

set_option autoImplicit false

open Go.RowKit

noncomputable section

def plainA : AC → Bool
  | .b _ => true
  | .i _ _ => true
  | .s _ => true
  | .sl none _ _ _ => true
  | _ => false

theorem plainA_v {E E' : En} {x : AC} {v : Value} (hp : plainA x = true) (h : x.v E v) : x.v E' v := by
  unfold plainA at hp
  split at hp
  · exact h
  · exact h
  · exact h
  · exact h
  · cases hp

/-- The cells of the pieces that are yielded. -/
def allOf (r : Option (AV × AH)) : Option (List AC) := match r with
  | some (.c (.sl (some (b, 0)) n _ 5), H) => (match H.at b with | some (_, _, .ro) => none | some _ => H.rd b 0 (Nat.mul n 5) | none => none)
  | _ => none

theorem all_hook {s : List Nat} {toks : List AC} {n : Nat} (hr : allOf (runT ftb 21 [.c (.s s)] H00) = some toks) (hp : toks.all plainA = true) (hn : toks.length = n * 5) {E : En} {H : AH} {w0 : W0} {w : World} {u : Value} (hH : HR E H w0 w) (hu : (AC.s s).v E u) :
    Keeps E H (H.new 56 toks) ∧ Calls Tryz.prog 21 #[u] w (Ret fun v w' => Post E H (H.new 56 toks) w0 (.c (.sl (some (H.nx, 0)) n n 5)) v w') := by
  refine ⟨⟨Nat.le_succ _, fun b hb _ => (AH.get_push _ _ _).trans (if_neg (Nat.ne_of_lt hb))⟩, ?_⟩
  unfold allOf at hr
  split at hr
  · rename_i b m c H1 hrun
    obtain ⟨_, hb⟩ := runT_ok ftb_ok hrun
    have hu0 : (AC.s s).v (fun _ => none) u := hu
    refine (hb (fun g hg => absurd hg (Nat.not_lt_zero g)) (HR.start hH.table) (.cons hu0 .nil)).2.mono fun e w' hx => ?_
    cases e with
    | returned v =>
      obtain ⟨E1, _, _, hH1, B, S, o', c', hE1, rfl, hc1, hc2, hc3, hc4⟩ := hx
      split at hr
      · cases hr
      · rename_i q hq hat
        obtain ⟨T, cells, l⟩ := q
        have hl : l ≠ .ro := fun e => hq T cells (by rw [e])
        unfold AH.rd at hr
        rw [hat] at hr
        replace hr : takeN cells 0 (Nat.mul m 5) = some toks := hr
        obtain ⟨e1, e2⟩ := takeN_eq _ _ _ _ hr
        have hmn : m = n := by
          have : Nat.mul m 5 = m * 5 := rfl
          omega
        subst hmn
        obtain ⟨C, T', fz, g1, g2, g3, g4⟩ := hH1.cel b T cells l B S hat hE1
        obtain ⟨rfl, g5⟩ := g4 hl
        have hB : w.heap.size ≤ B := by
          rcases g5 with h | h
          · exact h
          · exact h.elim
        have hpre : Pre E toks C := fun j x hx => by
          have hj : j < m * 5 := by
            have := (List.getElem?_eq_some_iff.1 hx).1
            omega
          obtain ⟨x', h1, h2⟩ := takeN_get hr (j := j) hj
          rw [hx] at h1; injection h1 with h1; subst h1
          rw [Nat.zero_add] at h2
          obtain ⟨v, h3, h4⟩ := g3 j x h2
          exact ⟨v, h3, plainA_v (List.all_eq_true.1 hp x (List.mem_of_getElem? hx)) h4⟩
        have hE := hH.free
        have hpu := hH.push (o := .cells 56 toks .own) fun _ _ _ _ h => (by cases h)
        have key := hpu.real (T' := T') ((AH.get_push _ _ _).trans (if_pos rfl)) hE hH1.ch.ext hB g1 hpre
        rw [g2] at key
        refine ⟨E.add H.nx B S, En.le_add hE, fun b p hb => ?_, key, B, S, o', c', En.add_same _ _ _ _, rfl, hc2, hc2, hc3, hc4⟩
        by_cases hbn : b = H.nx
        · subst hbn; exact .inr (Nat.le_refl _)
        · rw [En.add_other _ _ _ hbn] at hb; exact .inl hb
      · cases hr
    | _ => exact hx.elim
  · cases hr

/-- As runA; the pieces of the text s are at hand. -/
def spB (s : List Nat) (toks : List AC) (n : Nat) (f : Nat) (vs : List AV) (H : AH) : Option (AV × AH) := cond (Nat.beq f 21) (match vs with
  | [.c (.s x)] => cond (leqL x s) (some (.c (.sl (some (H.nx, 0)) n n 5), H.new 56 toks)) none
  | _ => none) (spA f vs H)

def ftB (f : Nat) : Option CF := cond (Nat.beq f 21) none (ftA f)

def runB (s : List Nat) (toks : List AC) (n : Nat) : Run := runF (spB s toks n) ftB deep

theorem ftB_ok {f : Nat} {cf : CF} (h : ftB f = some cf) : FnR Tryz.prog 0 f cf := by
  unfold ftB at h
  cases hb : Nat.beq f 21 with
  | true => rw [hb] at h; cases h
  | false => rw [hb] at h; exact ftA_ok h

theorem spB_ok {s : List Nat} {toks : List AC} {n : Nat} (hr : allOf (runT ftb 21 [.c (.s s)] H00) = some toks) (hp : toks.all plainA = true) (hn : toks.length = n * 5) : RunOk Tryz.prog 0 (spB s toks n) := by
  intro f vs H H' v h
  replace h : cond (Nat.beq f 21) (match (generalizing := false) vs with
    | [.c (.s x)] => cond (leqL x s) (some (AV.c (.sl (some (H.nx, 0)) n n 5), H.new 56 toks)) none
    | _ => none) (spA f vs H) = some (v, H') := h
  cases hb : Nat.beq f 21 with
  | false => rw [hb] at h; exact spA_ok h
  | true =>
    rw [hb] at h
    have hf := Nat.eq_of_beq_eq_true hb
    subst hf
    replace h : (match (generalizing := false) vs with
      | [.c (.s x)] => cond (leqL x s) (some (AV.c (.sl (some (H.nx, 0)) n n 5), H.new 56 toks)) none
      | _ => none) = some (v, H') := h
    split at h
    · rename_i x
      obtain ⟨hin, h⟩ := cond_some h
      injection h with h1 h2; subst h1; subst h2
      rw [leqL_eq] at hin
      have hin := of_decide_eq_true hin
      subst hin
      refine ⟨⟨_, Tryz.func21, by decide +kernel, rfl⟩, fun {E w0 w args} hG hH hA => ?_⟩
      match args, hA with
      | [u], .cons hu .nil => exact all_hook hr hp hn hH hu
    · cases h

theorem closed_trueB {s : List Nat} {toks : List AC} {n : Nat} (hr : allOf (runT ftb 21 [.c (.s s)] H00) = some toks) (hp : toks.all plainA = true) (hn : toks.length = n * 5) {f : FuncId} {vs : List AV} {args : List Value} {w : World} (hw : WP w) (hvs : All2 (AV.v fun _ => none) vs args) (h : good (runB s toks n f vs H00) = true) : Calls Tryz.prog f args.toArray w (Ret fun v w' => Ext w w' ∧ v = .bool true) := by
  unfold good at h
  split at h
  · rename_i H' hx
    obtain ⟨_, hb⟩ := run_sound (fun _ _ h => ftB_ok h) (spB_ok hr hp hn) deep hx
    refine (hb (fun g hg => absurd hg (Nat.not_lt_zero g)) (HR.start hw) hvs).2.mono fun e w' hx => ?_
    cases e with
    | returned v =>
      obtain ⟨E', _, _, h3, h4⟩ := hx
      exact ⟨h3.ch.ext, h4⟩
    | _ => exact hx.elim
  · cases h

def rep {α : Type} (n : Nat) (l : List α) : List α := Nat.rec [] (fun _ ih => l ++ ih) n

def tk (k : Int) (nm x : List Nat) : List AC := [.i .i64 k, .s nm, .s x, .sl none 0 0 0, .b false]

end

end Ev
end

section
namespace Ev

set_option autoImplicit false

noncomputable section

def str44 : List Nat := [60, 116, 97, 98, 108, 101, 62] ++ rep 5 ([60, 116, 114, 62] ++ rep 5 [60, 116, 100, 62, 120, 60, 47, 116, 100, 62])

def tok44 : List AC := tk 1 [116, 97, 98, 108, 101] [] ++ rep 5 (tk 1 [116, 114] [] ++ rep 5 (tk 1 [116, 100] [] ++ tk 3 [] [120] ++ tk 2 [116, 100] [])) ++ tk 6 [] []

theorem all44 : allOf (runT ftb 21 [.c (.s str44)] H00) = some tok44 := by kernel_rfl

theorem tables_4_4_t : good (runB str44 tok44 82 5 [.c (.qu 5 4), .c (.qu 5 4), .c (.b true)] H00) = true := by kernel_rfl

theorem tables_last {w : World} (hw : WP w) {vs : List AV} {args : List Value} (e : vs = [.c (.qu 5 4), .c (.qu 5 4), .c (.b true)]) (hvs : All2 (AV.v fun _ => none) vs args) : Calls Tryz.prog 5 args.toArray w (Ret fun v w' => Ext w w' ∧ v = .bool true) := by
  subst e
  exact closed_trueB all44 (by kernel_rfl) (by kernel_rfl) hw hvs tables_4_4_t

end

end Ev
end

section
namespace Ev

set_option autoImplicit false

open Go.RowKit

theorem tables_run (b : Bool) : ∀ p q : Nat, p < 5 → q < 5 → (p, q, b) ≠ (4, 4, true) → good (runA 5 [.c (.qu 5 p), .c (.qu 5 q), .c (.b b)] H00) = true
  | 0, 0, _, _, _ => match b with | false => tables_0_0_f | true => tables_0_0_t
  | 0, 1, _, _, _ => match b with | false => tables_0_1_f | true => tables_0_1_t
  | 0, 2, _, _, _ => match b with | false => tables_0_2_f | true => tables_0_2_t
  | 0, 3, _, _, _ => match b with | false => tables_0_3_f | true => tables_0_3_t
  | 0, 4, _, _, _ => match b with | false => tables_0_4_f | true => tables_0_4_t
  | 1, 0, _, _, _ => match b with | false => tables_1_0_f | true => tables_1_0_t
  | 1, 1, _, _, _ => match b with | false => tables_1_1_f | true => tables_1_1_t
  | 1, 2, _, _, _ => match b with | false => tables_1_2_f | true => tables_1_2_t
  | 1, 3, _, _, _ => match b with | false => tables_1_3_f | true => tables_1_3_t
  | 1, 4, _, _, _ => match b with | false => tables_1_4_f | true => tables_1_4_t
  | 2, 0, _, _, _ => match b with | false => tables_2_0_f | true => tables_2_0_t
  | 2, 1, _, _, _ => match b with | false => tables_2_1_f | true => tables_2_1_t
  | 2, 2, _, _, _ => match b with | false => tables_2_2_f | true => tables_2_2_t
  | 2, 3, _, _, _ => match b with | false => tables_2_3_f | true => tables_2_3_t
  | 2, 4, _, _, _ => match b with | false => tables_2_4_f | true => tables_2_4_t
  | 3, 0, _, _, _ => match b with | false => tables_3_0_f | true => tables_3_0_t
  | 3, 1, _, _, _ => match b with | false => tables_3_1_f | true => tables_3_1_t
  | 3, 2, _, _, _ => match b with | false => tables_3_2_f | true => tables_3_2_t
  | 3, 3, _, _, _ => match b with | false => tables_3_3_f | true => tables_3_3_t
  | 3, 4, _, _, _ => match b with | false => tables_3_4_f | true => tables_3_4_t
  | 4, 0, _, _, _ => match b with | false => tables_4_0_f | true => tables_4_0_t
  | 4, 1, _, _, _ => match b with | false => tables_4_1_f | true => tables_4_1_t
  | 4, 2, _, _, _ => match b with | false => tables_4_2_f | true => tables_4_2_t
  | 4, 3, _, _, _ => match b with | false => tables_4_3_f | true => tables_4_3_t
  | 4, 4, _, _, h => match b, h with | false, _ => tables_4_4_f | true, h => absurd rfl h

theorem buildTablesLaw {w : World} (hw : WP w) (x y : Int) (b : Bool) : Calls Tryz.prog 5 #[.int .i64 x, .int .i64 y, .bool b] w (Ret fun v w' => Ext w w' ∧ v = .bool true) := by
  have h1 := Int.emod_nonneg x (show (5 : Int) ≠ 0 by decide)
  have h2 := Int.emod_lt_of_pos x (show (0 : Int) < 5 by decide)
  have h3 := Int.emod_nonneg y (show (5 : Int) ≠ 0 by decide)
  have h4 := Int.emod_lt_of_pos y (show (0 : Int) < 5 by decide)
  have hvs : All2 (AV.v fun _ => none) [.c (.qu 5 (x % 5).toNat), .c (.qu 5 (y % 5).toNat), .c (.b b)] [.int .i64 x, .int .i64 y, .bool b] := .cons ⟨x, rfl, by show x % 5 = _; omega⟩ (.cons ⟨y, rfl, by show y % 5 = _; omega⟩ (.cons rfl .nil))
  by_cases he : ((x % 5).toNat, (y % 5).toNat, b) = (4, 4, true)
  · injection he with h5 h6; injection h6 with h6 h7
    exact tables_last hw (by rw [h5, h6, h7]) hvs
  exact closed_trueA (vs := [.c (.qu 5 (x % 5).toNat), .c (.qu 5 (y % 5).toNat), .c (.b b)]) (args := [.int .i64 x, .int .i64 y, .bool b]) hw hvs (tables_run b (x % 5).toNat (y % 5).toNat (by omega) (by omega) he)

end Ev
end

section
open Go.RowKit

theorem wp_of_laid {W : World} (h : laidMetH Tryz.prog Rows.buildButtonsRow.laid W) : Ev.WP W := by
  rw [MakeChecks.laidMetH_plain _ _ _ (by kernel_rfl)] at h
  have e : (Rows.laid_strings_asciiSpace : DataW Unit) = Lib.tabData .u8 Lib.asciiSpaceTab := by kernel_rfl
  have h2 := h.filter fun x => x.1 == "strings.asciiSpace"
  have h3 : laidMet Tryz.prog [("strings.asciiSpace", Rows.laid_strings_asciiSpace)] W := h2
  rw [e] at h3
  exact Lib.tabIs_of_head (rest := []) (g := 0) (t := 165) (e := 5) (n := 256) (by kernel_rfl) (by kernel_rfl) Tryz.underlying165 Tryz.underlying5 (by kernel_rfl) (by kernel_rfl) h3
end

section
open Go.RowKit Go.ChangeShapes Go.WideShapes Go.ChangeAt

theorem Ret.out {R : Value → World → Prop} {e : Ending} {w : World} (h : Ret R e w) : ∃ v, e = .returned v ∧ R v w := by
  cases e with
  | returned v => exact ⟨v, rfl, h⟩
  | _ => exact h.elim

theorem ownKnob0 : ownKnob Tryz.prog.godebug = none := by kernel_rfl

theorem laidOut0 : laidOutB Tryz.prog = true := by kernel_rfl

theorem trodAll_ext {H : Type} {enc : TypeId × Value → H} {P : Program} (hl : laidOutB P = true) {W W' : World} (hE : Ext W W') : ∀ {ts : List TypeId} {vs : List Value} {ds : List (DataW H)} {ps : List MemPlace},
    (∀ t ∈ ts, P.readableRec t = true ∧ t < P.types.size) → DataW.TrodAll enc P W 0 (fun _ => true) true ts vs ds ps → DataW.TrodAll enc P W' 0 (fun b => decide (b < W.heap.size)) true ts vs ds ps
  | [], vs, ds, ps, _, h => by obtain ⟨rfl, rfl, rfl⟩ := trodAll_nil h; exact rfl
  | t :: ts, vs, ds, ps, ht, h => by
    obtain ⟨v, vs', d, ds', p, q, rfl, rfl, rfl, h1, h2⟩ := trodAll_cons h
    have lt0 : ∀ x ∈ p, x.block < W.heap.size := by obtain ⟨m, hm⟩ := h1; exact DataW.trod_lt m _ _ _ hm
    exact trodAll_cons_mk (Below.trod hl (ht t (by simp)).1 (ht t (by simp)).2 h1 hE.below lt0) (trodAll_ext hl hE (fun u hu => ht u (by simp [hu])) h2)

theorem post_ext {H : Type} {enc : TypeId × Value → H} {P : Program} {f : Func} {s : ChangeSpec} {W W' : World} {args : Array Value} {ds gs : List (DataW H)} {before : List MemPlace} {tb : TypeId}
    (hW : DataW.Whole enc P f.params.toList s.vars false W args.toList ds gs before) (hs : s.vars = []) (hr : f.resultTypes = #[tb]) (hb : P.underlying tb = some .bool)
    (hds : s.fn H (ds ++ gs) = { results := [.lit (.bool true)], args := ds }) (hl : laidOutB P = true) (ht : ∀ t ∈ f.params.toList, P.readableRec t = true ∧ t < P.types.size) (hE : Ext W W') :
    s.post enc P f false true false false W args (.bool true) W' := by
  have hW' := hW
  obtain ⟨p, q, hA, hV, rfl, hfz, hnd⟩ := hW
  refine ⟨ds, gs, _, [], p, [], hW', ?_, ?_, ?_, hE.below.frame _, fun h => by cases h⟩
  · rw [hds, hr]; exact trodAll_mk1 (shut_bool hb _)
  · rw [hds]; exact trodAll_ext hl hE ht hA
  · rw [hds, hs]; exact rfl
end


end Go.Proofs.YtmmikhhklifjhaaGreatDoor
