/-
  What the proof of the statement leans on: texts one behind the other.
-/
import Derived.Test.YtmmikhhklifjhaaGreatDoorQBuildAdoptsGlaw00
import Derived.Test.YtmmikhhklifjhaaGreatDoorQBuildAdopts2
namespace Go.Proofs.YtmmikhhklifjhaaGreatDoor
section
open Go.RowKit

theorem place {w : World} (v n : Int) (hn : 0 < n) (hn63 : n ≤ 9223372036854775807) : Calls Tryz.prog 20 #[.int .i64 v, .int .i64 n] w (Ret fun u w' => Ext w w' ∧ u = .int .i64 (v.emod n)) := by
  refine law00_Place.ok _ _ ?_
  unfold law00_Place.vc
  have h1 := Int.tmod_eq_emod (a := v) (b := n)
  have h2 := Int.emod_nonneg v (show n ≠ 0 by omega)
  have h3 := Int.emod_lt_of_pos v hn
  have h4 : (((if 0 ≤ v ∨ n ∣ v then 0 else n.natAbs : Nat)) : Int) = 0 ∨ (((if 0 ≤ v ∨ n ∣ v then 0 else n.natAbs : Nat)) : Int) = n := by
    split
    · exact .inl rfl
    · right; omega
  generalize (((if 0 ≤ v ∨ n ∣ v then 0 else n.natAbs : Nat)) : Int) = q at h1 h4
  refine ⟨by omega, fun h => ⟨⟨by omega, by omega⟩, Chg.refl _ _, ?_⟩, fun h => ⟨Chg.refl _ _, ?_⟩⟩
  · show Value.int .i64 _ = Value.int .i64 (v % n)
    rw [show v.tmod n + n = v % n by omega]
  · show Value.int .i64 _ = Value.int .i64 (v % n)
    rw [show v.tmod n = v % n by omega]
end

section
namespace Ev

set_option autoImplicit false

open Go.RowKit

noncomputable section

def H00 : AH := ⟨0, .nil, .nil⟩

def good (r : Option (AV × AH)) : Bool := match r with
  | some (.c (.b true), _) => true
  | _ => false

/-- Where a number that is not known is placed. -/
def spP (f : Nat) (vs : List AV) (H : AH) : Option (AV × AH) := cond (Nat.beq f 20) (match vs with
  | [.c (.qu n r), .c (.i .i64 (.ofNat m))] => cond (Nat.beq n m && Nat.blt 0 n && Nat.ble n 1000) (some (.c (.i .i64 (.ofNat r)), H)) none
  | _ => none) (spF f vs H)

theorem HR.start {w : World} (h : WP w) : HR (fun _ => none) H00 w w := by
  refine ⟨h, Chg.refl _ _, fun b p he => (by cases he), fun b o hg => ?_, fun f p hf => ?_, fun b T c f e hg => ?_, fun b T c f e ha => ?_, fun b T c l B S _ he => (by cases he), fun b es cl B S _ he => (by cases he), fun b b' B S S' _ he => (by cases he)⟩
  · cases hg
  · cases hf
  · cases hg
  · cases ha

theorem names_ok : Tryz.prog.funcs.all (fun fn => !(fn.name == "runtime.NumGoroutine")) = true := by decide +kernel

theorem spP_ok : RunOk Tryz.prog 0 spP := by
  intro f vs H H' v h
  replace h : cond (Nat.beq f 20) (match (generalizing := false) vs with
    | [.c (.qu n r), .c (.i .i64 (.ofNat m))] => cond (Nat.beq n m && Nat.blt 0 n && Nat.ble n 1000) (some (AV.c (.i .i64 (.ofNat r)), H)) none
    | _ => none) (spF f vs H) = some (v, H') := h
  cases hb : Nat.beq f 20 with
  | false => rw [hb] at h; exact spF_ok 0 h
  | true =>
    rw [hb] at h
    have hf := Nat.eq_of_beq_eq_true hb
    subst hf
    replace h : (match (generalizing := false) vs with
      | [.c (.qu n r), .c (.i .i64 (.ofNat m))] => cond (Nat.beq n m && Nat.blt 0 n && Nat.ble n 1000) (some (AV.c (.i .i64 (.ofNat r)), H)) none
      | _ => none) = some (v, H') := h
    split at h
    · rename_i n r m
      obtain ⟨hin, h⟩ := cond_some h
      injection h with h1 h2; subst h1; subst h2
      simp only [Bool.and_eq_true, Nat.ble_eq, Nat.blt_eq] at hin
      obtain ⟨⟨e1, e2⟩, e3⟩ := hin
      have e1 := Nat.eq_of_beq_eq_true e1
      subst e1
      refine ⟨⟨_, Tryz.func20, by decide +kernel, rfl⟩, fun {E w0 w args} hG hH hA => ⟨Keeps.refl _ _, ?_⟩⟩
      match args, hA with
      | [u, t], .cons hu (.cons ht .nil) =>
        obtain ⟨x, rfl, hx⟩ := hu
        have ht : t = .int .i64 ((n : Nat) : Int) := ht
        subst ht
        refine (place x (n : Int) (by omega) (by omega)).mono fun e w' hr => ?_
        cases e with
        | returned v =>
          obtain ⟨hE, rfl⟩ := hr
          exact ⟨E, En.le_refl _, fun _ _ h => .inl h, hH.ext hE, by show Value.int .i64 (x % (n : Int)) = _; rw [hx]; rfl⟩
        | _ => exact hr.elim
    · cases h

theorem fnC_ok {f : Nat} {fn : Func} {cf : CF} (hf : Tryz.prog.funcs[f]? = some fn) (h : compF Tryz.prog 0 fn = some cf) : FnR Tryz.prog 0 f cf := compF_ok (by kernel_rfl) names_ok hf h

/-- As deep as calls are. -/
def deep : Nat := 200

def runT (t : FT) : Run := runF spP t.find deep

theorem runT_ok {t : FT} (ht : t.Ok (FnR Tryz.prog 0)) : RunOk Tryz.prog 0 (runT t) := run_sound (fun _ _ h => FT.find_ok ht h) spP_ok deep

theorem closed_true {t : FT} (ht : t.Ok (FnR Tryz.prog 0)) {f : FuncId} {vs : List AV} {args : List Value} {w : World} (hw : WP w) (hvs : All2 (AV.v fun _ => none) vs args) (h : good (runT t f vs H00) = true) : Calls Tryz.prog f args.toArray w (Ret fun v w' => Ext w w' ∧ v = .bool true) := by
  unfold good at h
  split at h
  · rename_i H' hr
    obtain ⟨_, hb⟩ := runT_ok ht hr
    refine (hb (fun g hg => absurd hg (Nat.not_lt_zero g)) (HR.start hw) hvs).2.mono fun e w' hx => ?_
    cases e with
    | returned v =>
      obtain ⟨E', _, _, h3, h4⟩ := hx
      exact ⟨h3.ch, h4⟩
    | _ => exact hx.elim
  · cases h

end

end Ev
end

section
namespace Ev

set_option autoImplicit false

noncomputable section

def cf5 : CF := ⟨157, .seq (.reg [⟨some 6, none, .mv (.c (.c (.b false))), []⟩]) (.seq (.reg [⟨some 17, none, .mv (.t 0), []⟩, ⟨some 18, none, .call 20 [.t 17, .c (.c (.i .i64 (.ofNat 5)))], []⟩, ⟨some 19, none,
  .bin .add (.c (.c (.i .i64 (.ofNat 1)))) (.t 18), []⟩, ⟨some 20, none, .mv (.t 1), []⟩, ⟨some 21, none, .call 20 [.t 20, .c (.c (.i .i64 (.ofNat 5)))], []⟩, ⟨some 22, none, .bin .add (.c (.c (.i .i64
  (.ofNat 1)))) (.t 21), []⟩, ⟨some 7, none, .mv (.t 19), []⟩, ⟨some 8, none, .mv (.t 22), []⟩]) (.seq (.reg [⟨some 9, none, .mv (.c (.c (.s [60, 116, 97, 98, 108, 101, 62]))), []⟩]) (.seq (.seq (.reg
  [⟨some 10, none, .mv (.c (.c (.i .i64 (.ofNat 0)))), []⟩]) (.blk 0 (.loop [155, 16, 114, 15, 111, 14, 74, 12, 13, 37, 32, 8, 11, 9, 25, 7, 10, 0, 1, 2, 6] (.seq (.seq (.reg [⟨some 23, none, .mv (.t
  10), []⟩, ⟨some 24, none, .mv (.t 7), []⟩, ⟨some 25, none, .bin .lss (.t 23) (.t 24), []⟩]) (.cond (.t 25) .skip (.exit 0))) (.seq (.blk 1 (.seq (.reg [⟨some 28, none, .mv (.t 9), []⟩, ⟨some 29,
  none, .bin .add (.t 28) (.c (.c (.s [60, 116, 114, 62]))), []⟩, ⟨some 9, none, .mv (.t 29), []⟩]) (.seq (.reg [⟨some 11, none, .mv (.c (.c (.i .i64 (.ofNat 0)))), []⟩]) (.blk 2 (.loop [155, 16, 114,
  15, 111, 14, 74, 12, 13, 37, 32, 8, 11, 9, 25, 7, 10, 0, 1, 2, 6] (.seq (.seq (.reg [⟨some 30, none, .mv (.t 11), []⟩, ⟨some 31, none, .mv (.t 8), []⟩, ⟨some 32, none, .bin .lss (.t 30) (.t 31),
  []⟩]) (.cond (.t 32) .skip (.exit 2))) (.seq (.blk 3 (.seq (.reg [⟨some 35, none, .mv (.t 9), []⟩, ⟨some 36, none, .bin .add (.t 35) (.c (.c (.s [60, 116, 100, 62, 120]))), []⟩, ⟨some 9, none, .mv
  (.t 36), []⟩]) (.seq (.reg [⟨some 37, none, .mv (.t 2), []⟩]) (.cond (.t 37) (.reg [⟨some 38, none, .mv (.t 9), []⟩, ⟨some 39, none, .bin .add (.t 38) (.c (.c (.s [60, 47, 116, 100, 62]))), []⟩,
  ⟨some 9, none, .mv (.t 39), []⟩]) .skip)))) (.reg [⟨some 33, none, .mv (.t 11), []⟩, ⟨some 34, none, .bin .add (.t 33) (.c (.c (.i .i64 (.ofNat 1)))), []⟩, ⟨some 11, none, .mv (.t 34), []⟩]))))))))
  (.reg [⟨some 26, none, .mv (.t 10), []⟩, ⟨some 27, none, .bin .add (.t 26) (.c (.c (.i .i64 (.ofNat 1)))), []⟩, ⟨some 10, none, .mv (.t 27), []⟩])))))) (.seq (.reg [⟨some 41, none, .mv (.t 9), []⟩,
  ⟨some 42, none, .call 21 [.t 41], []⟩, ⟨some 43, none, .call 16 [.t 42], []⟩, ⟨some 40, none, .mv (.t 43), []⟩, ⟨some 44, none, .ext 0 (.t 40), []⟩, ⟨some 45, none, .ext 1 (.t 40), []⟩, ⟨some 12,
  none, .new 28 (.c (.a [.i .i64 (.ofNat 0), .s [], .s [], .sl none 0 0 0, .sl none 0 0 0])), []⟩, ⟨none, none, .st 5 (.t 12) (.t 44), []⟩, ⟨some 13, none, .mv (.t 45), []⟩]) (.seq (.seq (.reg [⟨some
  46, none, .mv (.t 13), []⟩, ⟨some 47, none, .bin .neq (.t 46) (.c (.c (.i .i64 (.ofNat 0)))), []⟩, ⟨some 48, none, .mv (.t 47), []⟩, ⟨some 49, some (48, false), .fa 4 (.t 12), []⟩, ⟨some 50, some
  (48, false), .ld 1 false (.t 49), []⟩, ⟨some 51, some (48, false), .len true (.t 50), []⟩, ⟨some 52, some (48, false), .bin .neq (.t 51) (.c (.c (.i .i64 (.ofNat 1)))), []⟩, ⟨some 53, none, .pk (.t
  48) (.c (.c (.b true))) (.t 52), []⟩, ⟨some 54, none, .mv (.t 53), []⟩, ⟨some 55, some (54, false), .fa 4 (.t 12), []⟩, ⟨some 56, some (54, false), .ld 1 false (.t 55), []⟩, ⟨some 57, some (54,
  false), .ia 5 (.t 56) (.c (.c (.i .i64 (.ofNat 0)))), []⟩, ⟨some 58, some (54, false), .fa 4 (.t 57), []⟩, ⟨some 59, some (54, false), .ld 1 false (.t 58), []⟩, ⟨some 60, some (54, false), .len true
  (.t 59), []⟩, ⟨some 61, some (54, false), .bin .neq (.t 60) (.c (.c (.i .i64 (.ofNat 2)))), []⟩, ⟨some 62, none, .pk (.t 54) (.c (.c (.b true))) (.t 61), []⟩, ⟨some 63, none, .mv (.t 62), []⟩, ⟨some
  64, some (63, false), .fa 4 (.t 12), []⟩, ⟨some 65, some (63, false), .ld 1 false (.t 64), []⟩, ⟨some 66, some (63, false), .ia 5 (.t 65) (.c (.c (.i .i64 (.ofNat 0)))), []⟩, ⟨some 67, some (63,
  false), .fa 4 (.t 66), []⟩, ⟨some 68, some (63, false), .ld 1 false (.t 67), []⟩, ⟨some 69, some (63, false), .ia 5 (.t 68) (.c (.c (.i .i64 (.ofNat 1)))), []⟩, ⟨some 70, some (63, false), .fa 4 (.t
  69), []⟩, ⟨some 71, some (63, false), .ld 1 false (.t 70), []⟩, ⟨some 72, some (63, false), .len true (.t 71), []⟩, ⟨some 73, some (63, false), .bin .neq (.t 72) (.c (.c (.i .i64 (.ofNat 1)))), []⟩,
  ⟨some 74, none, .pk (.t 63) (.c (.c (.b true))) (.t 73), []⟩]) (.cond (.t 74) (.seq (.reg [⟨some 6, none, .mv (.c (.c (.b false))), []⟩]) .ret) .skip)) (.seq (.reg [⟨some 75, none, .fa 4 (.t 12),
  []⟩, ⟨some 76, none, .ld 1 false (.t 75), []⟩, ⟨some 77, none, .ia 5 (.t 76) (.c (.c (.i .i64 (.ofNat 0)))), []⟩, ⟨some 78, none, .fa 4 (.t 77), []⟩, ⟨some 79, none, .ld 1 false (.t 78), []⟩, ⟨some
  80, none, .ia 5 (.t 79) (.c (.c (.i .i64 (.ofNat 1)))), []⟩, ⟨some 81, none, .fa 4 (.t 80), []⟩, ⟨some 82, none, .ld 1 false (.t 81), []⟩, ⟨some 83, none, .ia 5 (.t 82) (.c (.c (.i .i64 (.ofNat
  0)))), []⟩, ⟨some 84, none, .ld 5 true (.t 83), []⟩, ⟨some 14, none, .new 28 (.c (.a [.i .i64 (.ofNat 0), .s [], .s [], .sl none 0 0 0, .sl none 0 0 0])), []⟩, ⟨none, none, .st 5 (.t 14) (.t 84),
  []⟩]) (.seq (.seq (.reg [⟨some 85, none, .fa 1 (.t 14), []⟩, ⟨some 86, none, .ld 1 false (.t 85), []⟩, ⟨some 87, none, .bin .neq (.t 86) (.c (.c (.s [116, 97, 98, 108, 101]))), []⟩, ⟨some 88, none,
  .mv (.t 87), []⟩, ⟨some 89, some (88, false), .fa 4 (.t 14), []⟩, ⟨some 90, some (88, false), .ld 1 false (.t 89), []⟩, ⟨some 91, some (88, false), .len true (.t 90), []⟩, ⟨some 92, some (88, false),
  .bin .neq (.t 91) (.c (.c (.i .i64 (.ofNat 1)))), []⟩, ⟨some 93, none, .pk (.t 88) (.c (.c (.b true))) (.t 92), []⟩, ⟨some 94, none, .mv (.t 93), []⟩, ⟨some 95, some (94, false), .fa 4 (.t 14), []⟩,
  ⟨some 96, some (94, false), .ld 1 false (.t 95), []⟩, ⟨some 97, some (94, false), .ia 5 (.t 96) (.c (.c (.i .i64 (.ofNat 0)))), []⟩, ⟨some 98, some (94, false), .fa 1 (.t 97), []⟩, ⟨some 99, some
  (94, false), .ld 1 false (.t 98), []⟩, ⟨some 100, some (94, false), .bin .neq (.t 99) (.c (.c (.s [116, 98, 111, 100, 121]))), []⟩, ⟨some 101, none, .pk (.t 94) (.c (.c (.b true))) (.t 100), []⟩,
  ⟨some 102, none, .mv (.t 101), []⟩, ⟨some 103, some (102, false), .fa 4 (.t 14), []⟩, ⟨some 104, some (102, false), .ld 1 false (.t 103), []⟩, ⟨some 105, some (102, false), .ia 5 (.t 104) (.c (.c (.i
  .i64 (.ofNat 0)))), []⟩, ⟨some 106, some (102, false), .fa 4 (.t 105), []⟩, ⟨some 107, some (102, false), .ld 1 false (.t 106), []⟩, ⟨some 108, some (102, false), .len true (.t 107), []⟩, ⟨some 109,
  some (102, false), .mv (.t 7), []⟩, ⟨some 110, some (102, false), .bin .neq (.t 108) (.t 109), []⟩, ⟨some 111, none, .pk (.t 102) (.c (.c (.b true))) (.t 110), []⟩]) (.cond (.t 111) (.seq (.reg
  [⟨some 6, none, .mv (.c (.c (.b false))), []⟩]) .ret) .skip)) (.seq (.seq (.reg [⟨some 15, none, .mv (.c (.c (.i .i64 (.ofNat 0)))), []⟩]) (.blk 4 (.loop [155, 16, 114, 15, 111, 14, 74, 12, 13, 37,
  32, 8, 11, 9, 25, 7, 10, 0, 1, 2, 6] (.seq (.seq (.reg [⟨some 112, none, .mv (.t 15), []⟩, ⟨some 113, none, .mv (.t 7), []⟩, ⟨some 114, none, .bin .lss (.t 112) (.t 113), []⟩]) (.cond (.t 114) .skip
  (.exit 4))) (.seq (.blk 5 (.seq (.reg [⟨some 117, none, .fa 4 (.t 14), []⟩, ⟨some 118, none, .ld 1 false (.t 117), []⟩, ⟨some 119, none, .ia 5 (.t 118) (.c (.c (.i .i64 (.ofNat 0)))), []⟩, ⟨some 120,
  none, .fa 4 (.t 119), []⟩, ⟨some 121, none, .ld 1 false (.t 120), []⟩, ⟨some 122, none, .mv (.t 15), []⟩, ⟨some 123, none, .ia 5 (.t 121) (.t 122), []⟩, ⟨some 124, none, .ld 5 true (.t 123), []⟩,
  ⟨some 16, none, .new 28 (.c (.a [.i .i64 (.ofNat 0), .s [], .s [], .sl none 0 0 0, .sl none 0 0 0])), []⟩, ⟨none, none, .st 5 (.t 16) (.t 124), []⟩]) (.seq (.reg [⟨some 125, none, .fa 1 (.t 16), []⟩,
  ⟨some 126, none, .ld 1 false (.t 125), []⟩, ⟨some 127, none, .bin .neq (.t 126) (.c (.c (.s [116, 114]))), []⟩, ⟨some 128, none, .mv (.t 127), []⟩, ⟨some 129, some (128, false), .fa 4 (.t 16), []⟩,
  ⟨some 130, some (128, false), .ld 1 false (.t 129), []⟩, ⟨some 131, some (128, false), .len true (.t 130), []⟩, ⟨some 132, some (128, false), .mv (.t 8), []⟩, ⟨some 133, some (128, false), .bin .neq
  (.t 131) (.t 132), []⟩, ⟨some 134, none, .pk (.t 128) (.c (.c (.b true))) (.t 133), []⟩, ⟨some 135, none, .mv (.t 134), []⟩, ⟨some 136, some (135, false), .fa 4 (.t 16), []⟩, ⟨some 137, some (135,
  false), .ld 1 false (.t 136), []⟩, ⟨some 138, some (135, false), .mv (.t 8), []⟩, ⟨some 139, some (135, false), .bin .sub (.t 138) (.c (.c (.i .i64 (.ofNat 1)))), []⟩, ⟨some 140, some (135, false),
  .ia 5 (.t 137) (.t 139), []⟩, ⟨some 141, some (135, false), .fa 1 (.t 140), []⟩, ⟨some 142, some (135, false), .ld 1 false (.t 141), []⟩, ⟨some 143, some (135, false), .bin .neq (.t 142) (.c (.c (.s
  [116, 100]))), []⟩, ⟨some 144, none, .pk (.t 135) (.c (.c (.b true))) (.t 143), []⟩, ⟨some 145, none, .mv (.t 144), []⟩, ⟨some 146, some (145, false), .fa 4 (.t 16), []⟩, ⟨some 147, some (145,
  false), .ld 1 false (.t 146), []⟩, ⟨some 148, some (145, false), .mv (.t 8), []⟩, ⟨some 149, some (145, false), .bin .sub (.t 148) (.c (.c (.i .i64 (.ofNat 1)))), []⟩, ⟨some 150, some (145, false),
  .ia 5 (.t 147) (.t 149), []⟩, ⟨some 151, some (145, false), .fa 4 (.t 150), []⟩, ⟨some 152, some (145, false), .ld 1 false (.t 151), []⟩, ⟨some 153, some (145, false), .len true (.t 152), []⟩, ⟨some
  154, some (145, false), .bin .neq (.t 153) (.c (.c (.i .i64 (.ofNat 1)))), []⟩, ⟨some 155, none, .pk (.t 145) (.c (.c (.b true))) (.t 154), []⟩]) (.cond (.t 155) (.seq (.reg [⟨some 6, none, .mv (.c
  (.c (.b false))), []⟩]) .ret) .skip)))) (.reg [⟨some 115, none, .mv (.t 15), []⟩, ⟨some 116, none, .bin .add (.t 115) (.c (.c (.i .i64 (.ofNat 1)))), []⟩, ⟨some 15, none, .mv (.t 116), []⟩]))))))
  (.seq (.reg [⟨some 156, none, .call 15 [], []⟩, ⟨some 6, none, .mv (.t 156), []⟩]) .ret))))))))), [(6, none)]⟩

theorem ok5 : FnR Tryz.prog 0 5 cf5 := fnC_ok Tryz.func5 (by kernel_rfl)

def cf7 : CF := ⟨158, .seq (.reg [⟨some 4, none, .mv (.c (.c (.b false))), []⟩]) (.seq (.reg [⟨some 13, none, .bld [.s [], .s [], .s [], .s [], .s [], .s []] [(0, (1, .c (.c (.s [98])))), (1, (1, .c (.c (.s
  [105])))), (2, (1, .c (.c (.s [101, 109])))), (3, (1, .c (.c (.s [117])))), (4, (1, .c (.c (.s [99, 111, 100, 101])))), (5, (1, .c (.c (.s [116, 116]))))], []⟩, ⟨some 5, none, .new 43 (.c (.a [.s [],
  .s [], .s [], .s [], .s [], .s []])), []⟩, ⟨none, none, .st 6 (.t 5) (.t 13), []⟩]) (.seq (.reg [⟨some 14, none, .mv (.t 0), []⟩, ⟨some 15, none, .call 20 [.t 14, .c (.c (.i .i64 (.ofNat 6)))], []⟩,
  ⟨some 6, none, .mv (.t 15), []⟩]) (.seq (.reg [⟨some 16, none, .mv (.t 6), []⟩, ⟨some 17, none, .bin .add (.t 16) (.c (.c (.i .i64 (.ofNat 1)))), []⟩, ⟨some 18, none, .mv (.t 1), []⟩, ⟨some 19, none,
  .call 20 [.t 18, .c (.c (.i .i64 (.ofNat 5)))], []⟩, ⟨some 20, none, .bin .add (.t 17) (.t 19), []⟩, ⟨some 21, none, .bin .rem (.t 20) (.c (.c (.i .i64 (.ofNat 6)))), []⟩, ⟨some 7, none, .mv (.t 21),
  []⟩]) (.seq (.dreg [⟨some 22, none, .mv (.t 6), []⟩, ⟨some 23, none, .ip 1 6 (.t 5) (.t 22), []⟩, ⟨some 24, none, .ld 1 false (.t 23), []⟩, ⟨some 25, none, .mv (.t 7), []⟩, ⟨some 26, none, .ip 1 6
  (.t 5) (.t 25), []⟩, ⟨some 27, none, .ld 1 false (.t 26), []⟩, ⟨some 8, none, .mv (.t 24), []⟩, ⟨some 9, none, .mv (.t 27), []⟩]) (.seq (.reg [⟨some 29, none, .mv (.t 8), []⟩, ⟨some 30, none, .bin
  .add (.c (.c (.s [60]))) (.t 29), []⟩, ⟨some 31, none, .bin .add (.t 30) (.c (.c (.s [62, 49, 60]))), []⟩, ⟨some 32, none, .mv (.t 9), []⟩, ⟨some 33, none, .bin .add (.t 31) (.t 32), []⟩, ⟨some 34,
  none, .bin .add (.t 33) (.c (.c (.s [62, 50, 60, 47]))), []⟩, ⟨some 35, none, .mv (.t 8), []⟩, ⟨some 36, none, .bin .add (.t 34) (.t 35), []⟩, ⟨some 37, none, .bin .add (.t 36) (.c (.c (.s [62, 51,
  60, 47]))), []⟩, ⟨some 38, none, .mv (.t 9), []⟩, ⟨some 39, none, .bin .add (.t 37) (.t 38), []⟩, ⟨some 40, none, .bin .add (.t 39) (.c (.c (.s [62, 52]))), []⟩, ⟨some 41, none, .call 21 [.t 40],
  []⟩, ⟨some 42, none, .call 16 [.t 41], []⟩, ⟨some 28, none, .mv (.t 42), []⟩, ⟨some 43, none, .ext 0 (.t 28), []⟩, ⟨some 44, none, .ext 1 (.t 28), []⟩, ⟨some 10, none, .new 28 (.c (.a [.i .i64
  (.ofNat 0), .s [], .s [], .sl none 0 0 0, .sl none 0 0 0])), []⟩, ⟨none, none, .st 5 (.t 10) (.t 43), []⟩, ⟨some 11, none, .mv (.t 44), []⟩]) (.seq (.seq (.reg [⟨some 45, none, .mv (.t 11), []⟩,
  ⟨some 46, none, .bin .neq (.t 45) (.c (.c (.i .i64 (.ofNat 0)))), []⟩, ⟨some 47, none, .mv (.t 46), []⟩, ⟨some 48, some (47, false), .fa 4 (.t 10), []⟩, ⟨some 49, some (47, false), .ld 1 false (.t
  48), []⟩, ⟨some 50, some (47, false), .len true (.t 49), []⟩, ⟨some 51, some (47, false), .bin .neq (.t 50) (.c (.c (.i .i64 (.ofNat 1)))), []⟩, ⟨some 52, none, .pk (.t 47) (.c (.c (.b true))) (.t
  51), []⟩, ⟨some 53, none, .mv (.t 52), []⟩, ⟨some 54, some (53, false), .fa 4 (.t 10), []⟩, ⟨some 55, some (53, false), .ld 1 false (.t 54), []⟩, ⟨some 56, some (53, false), .ia 5 (.t 55) (.c (.c (.i
  .i64 (.ofNat 0)))), []⟩, ⟨some 57, some (53, false), .fa 4 (.t 56), []⟩, ⟨some 58, some (53, false), .ld 1 false (.t 57), []⟩, ⟨some 59, some (53, false), .len true (.t 58), []⟩, ⟨some 60, some (53,
  false), .bin .neq (.t 59) (.c (.c (.i .i64 (.ofNat 2)))), []⟩, ⟨some 61, none, .pk (.t 53) (.c (.c (.b true))) (.t 60), []⟩]) (.cond (.t 61) (.seq (.reg [⟨some 4, none, .mv (.c (.c (.b false))),
  []⟩]) .ret) .skip)) (.seq (.reg [⟨some 62, none, .fa 4 (.t 10), []⟩, ⟨some 63, none, .ld 1 false (.t 62), []⟩, ⟨some 64, none, .ia 5 (.t 63) (.c (.c (.i .i64 (.ofNat 0)))), []⟩, ⟨some 65, none, .fa 4
  (.t 64), []⟩, ⟨some 66, none, .ld 1 false (.t 65), []⟩, ⟨some 67, none, .ia 5 (.t 66) (.c (.c (.i .i64 (.ofNat 1)))), []⟩, ⟨some 68, none, .fa 4 (.t 67), []⟩, ⟨some 69, none, .ld 1 false (.t 68),
  []⟩, ⟨some 12, none, .mv (.t 69), []⟩]) (.seq (.seq (.reg [⟨some 70, none, .mv (.t 12), []⟩, ⟨some 71, none, .len true (.t 70), []⟩, ⟨some 72, none, .bin .neq (.t 71) (.c (.c (.i .i64 (.ofNat 3)))),
  []⟩, ⟨some 73, none, .mv (.t 72), []⟩, ⟨some 74, some (73, false), .mv (.t 12), []⟩, ⟨some 75, some (73, false), .ia 5 (.t 74) (.c (.c (.i .i64 (.ofNat 0)))), []⟩, ⟨some 76, some (73, false), .fa 1
  (.t 75), []⟩, ⟨some 77, some (73, false), .ld 1 false (.t 76), []⟩, ⟨some 78, some (73, false), .mv (.t 8), []⟩, ⟨some 79, some (73, false), .bin .neq (.t 77) (.t 78), []⟩, ⟨some 80, none, .pk (.t
  73) (.c (.c (.b true))) (.t 79), []⟩, ⟨some 81, none, .mv (.t 80), []⟩, ⟨some 82, some (81, false), .mv (.t 12), []⟩, ⟨some 83, some (81, false), .ia 5 (.t 82) (.c (.c (.i .i64 (.ofNat 0)))), []⟩,
  ⟨some 84, some (81, false), .fa 4 (.t 83), []⟩, ⟨some 85, some (81, false), .ld 1 false (.t 84), []⟩, ⟨some 86, some (81, false), .len true (.t 85), []⟩, ⟨some 87, some (81, false), .bin .neq (.t 86)
  (.c (.c (.i .i64 (.ofNat 2)))), []⟩, ⟨some 88, none, .pk (.t 81) (.c (.c (.b true))) (.t 87), []⟩, ⟨some 89, none, .mv (.t 88), []⟩, ⟨some 90, some (89, false), .mv (.t 12), []⟩, ⟨some 91, some (89,
  false), .ia 5 (.t 90) (.c (.c (.i .i64 (.ofNat 0)))), []⟩, ⟨some 92, some (89, false), .fa 4 (.t 91), []⟩, ⟨some 93, some (89, false), .ld 1 false (.t 92), []⟩, ⟨some 94, some (89, false), .ia 5 (.t
  93) (.c (.c (.i .i64 (.ofNat 1)))), []⟩, ⟨some 95, some (89, false), .fa 1 (.t 94), []⟩, ⟨some 96, some (89, false), .ld 1 false (.t 95), []⟩, ⟨some 97, some (89, false), .mv (.t 9), []⟩, ⟨some 98,
  some (89, false), .bin .neq (.t 96) (.t 97), []⟩, ⟨some 99, none, .pk (.t 89) (.c (.c (.b true))) (.t 98), []⟩, ⟨some 100, none, .mv (.t 99), []⟩, ⟨some 101, some (100, false), .mv (.t 12), []⟩,
  ⟨some 102, some (100, false), .ia 5 (.t 101) (.c (.c (.i .i64 (.ofNat 1)))), []⟩, ⟨some 103, some (100, false), .fa 1 (.t 102), []⟩, ⟨some 104, some (100, false), .ld 1 false (.t 103), []⟩, ⟨some
  105, some (100, false), .mv (.t 9), []⟩, ⟨some 106, some (100, false), .bin .neq (.t 104) (.t 105), []⟩, ⟨some 107, none, .pk (.t 100) (.c (.c (.b true))) (.t 106), []⟩, ⟨some 108, none, .mv (.t
  107), []⟩, ⟨some 109, some (108, false), .mv (.t 12), []⟩, ⟨some 110, some (108, false), .ia 5 (.t 109) (.c (.c (.i .i64 (.ofNat 2)))), []⟩, ⟨some 111, some (108, false), .fa 2 (.t 110), []⟩, ⟨some
  112, some (108, false), .ld 1 false (.t 111), []⟩, ⟨some 113, some (108, false), .bin .neq (.t 112) (.c (.c (.s [52]))), []⟩, ⟨some 114, none, .pk (.t 108) (.c (.c (.b true))) (.t 113), []⟩]) (.cond
  (.t 114) (.seq (.reg [⟨some 4, none, .mv (.c (.c (.b false))), []⟩]) .ret) .skip)) (.seq (.reg [⟨some 115, none, .mv (.t 12), []⟩, ⟨some 116, none, .ia 5 (.t 115) (.c (.c (.i .i64 (.ofNat 0)))), []⟩,
  ⟨some 117, none, .fa 4 (.t 116), []⟩, ⟨some 118, none, .ld 1 false (.t 117), []⟩, ⟨some 119, none, .ia 5 (.t 118) (.c (.c (.i .i64 (.ofNat 1)))), []⟩, ⟨some 120, none, .fa 4 (.t 119), []⟩, ⟨some 121,
  none, .ld 1 false (.t 120), []⟩, ⟨some 122, none, .len true (.t 121), []⟩, ⟨some 123, none, .bin .eql (.t 122) (.c (.c (.i .i64 (.ofNat 1)))), []⟩, ⟨some 124, none, .mv (.t 123), []⟩, ⟨some 125, some
  (124, true), .mv (.t 12), []⟩, ⟨some 126, some (124, true), .ia 5 (.t 125) (.c (.c (.i .i64 (.ofNat 0)))), []⟩, ⟨some 127, some (124, true), .fa 4 (.t 126), []⟩, ⟨some 128, some (124, true), .ld 1
  false (.t 127), []⟩, ⟨some 129, some (124, true), .ia 5 (.t 128) (.c (.c (.i .i64 (.ofNat 1)))), []⟩, ⟨some 130, some (124, true), .fa 4 (.t 129), []⟩, ⟨some 131, some (124, true), .ld 1 false (.t
  130), []⟩, ⟨some 132, some (124, true), .ia 5 (.t 131) (.c (.c (.i .i64 (.ofNat 0)))), []⟩, ⟨some 133, some (124, true), .fa 2 (.t 132), []⟩, ⟨some 134, some (124, true), .ld 1 false (.t 133), []⟩,
  ⟨some 135, some (124, true), .bin .eql (.t 134) (.c (.c (.s [50]))), []⟩, ⟨some 136, none, .pk (.t 124) (.t 135) (.c (.c (.b false))), []⟩, ⟨some 137, none, .mv (.t 136), []⟩, ⟨some 138, some (137,
  true), .mv (.t 12), []⟩, ⟨some 139, some (137, true), .ia 5 (.t 138) (.c (.c (.i .i64 (.ofNat 1)))), []⟩, ⟨some 140, some (137, true), .fa 4 (.t 139), []⟩, ⟨some 141, some (137, true), .ld 1 false
  (.t 140), []⟩, ⟨some 142, some (137, true), .len true (.t 141), []⟩, ⟨some 143, some (137, true), .bin .eql (.t 142) (.c (.c (.i .i64 (.ofNat 1)))), []⟩, ⟨some 144, none, .pk (.t 137) (.t 143) (.c
  (.c (.b false))), []⟩, ⟨some 145, none, .mv (.t 144), []⟩, ⟨some 146, some (145, true), .mv (.t 12), []⟩, ⟨some 147, some (145, true), .ia 5 (.t 146) (.c (.c (.i .i64 (.ofNat 1)))), []⟩, ⟨some 148,
  some (145, true), .fa 4 (.t 147), []⟩, ⟨some 149, some (145, true), .ld 1 false (.t 148), []⟩, ⟨some 150, some (145, true), .ia 5 (.t 149) (.c (.c (.i .i64 (.ofNat 0)))), []⟩, ⟨some 151, some (145,
  true), .fa 2 (.t 150), []⟩, ⟨some 152, some (145, true), .ld 1 false (.t 151), []⟩, ⟨some 153, some (145, true), .bin .eql (.t 152) (.c (.c (.s [51]))), []⟩, ⟨some 154, none, .pk (.t 145) (.t 153)
  (.c (.c (.b false))), []⟩, ⟨some 155, none, .mv (.t 154), []⟩, ⟨some 156, some (155, true), .call 15 [], []⟩, ⟨some 157, none, .pk (.t 155) (.t 156) (.c (.c (.b false))), []⟩, ⟨some 4, none, .mv (.t
  157), []⟩]) .ret))))))))), [(4, none)]⟩

theorem ok7 : FnR Tryz.prog 0 7 cf7 := fnC_ok Tryz.func7 (by kernel_rfl)

def cf8 : CF := ⟨120, .seq (.reg [⟨some 4, none, .mv (.c (.c (.b false))), []⟩]) (.seq (.reg [⟨some 15, none, .mv (.t 0), []⟩, ⟨some 16, none, .call 20 [.t 15, .c (.c (.i .i64 (.ofNat 5)))], []⟩, ⟨some 17, none,
  .bin .add (.c (.c (.i .i64 (.ofNat 1)))) (.t 16), []⟩, ⟨some 18, none, .mv (.t 1), []⟩, ⟨some 19, none, .call 20 [.t 18, .c (.c (.i .i64 (.ofNat 6)))], []⟩, ⟨some 20, none, .bin .add (.c (.c (.i .i64
  (.ofNat 1)))) (.t 19), []⟩, ⟨some 5, none, .mv (.t 17), []⟩, ⟨some 6, none, .mv (.t 20), []⟩]) (.seq (.reg [⟨some 7, none, .mv (.c (.c (.s []))), []⟩]) (.seq (.seq (.reg [⟨some 8, none, .mv (.c (.c
  (.i .i64 (.ofNat 0)))), []⟩]) (.blk 0 (.loop [97, 14, 12, 71, 67, 13, 57, 10, 11, 30, 5, 9, 7, 23, 6, 8, 0, 1, 4] (.seq (.seq (.reg [⟨some 21, none, .mv (.t 8), []⟩, ⟨some 22, none, .mv (.t 6), []⟩,
  ⟨some 23, none, .bin .lss (.t 21) (.t 22), []⟩]) (.cond (.t 23) .skip (.exit 0))) (.seq (.blk 1 (.seq (.reg [⟨some 26, none, .mv (.t 7), []⟩, ⟨some 27, none, .bin .add (.t 26) (.c (.c (.s [60, 117,
  108, 62]))), []⟩, ⟨some 7, none, .mv (.t 27), []⟩]) (.seq (.reg [⟨some 9, none, .mv (.c (.c (.i .i64 (.ofNat 0)))), []⟩]) (.blk 2 (.loop [97, 14, 12, 71, 67, 13, 57, 10, 11, 30, 5, 9, 7, 23, 6, 8, 0,
  1, 4] (.seq (.seq (.reg [⟨some 28, none, .mv (.t 9), []⟩, ⟨some 29, none, .mv (.t 5), []⟩, ⟨some 30, none, .bin .lss (.t 28) (.t 29), []⟩]) (.cond (.t 30) .skip (.exit 2))) (.seq (.blk 3 (.reg [⟨some
  33, none, .mv (.t 7), []⟩, ⟨some 34, none, .bin .add (.t 33) (.c (.c (.s [60, 108, 105, 62, 120]))), []⟩, ⟨some 7, none, .mv (.t 34), []⟩])) (.reg [⟨some 31, none, .mv (.t 9), []⟩, ⟨some 32, none,
  .bin .add (.t 31) (.c (.c (.i .i64 (.ofNat 1)))), []⟩, ⟨some 9, none, .mv (.t 32), []⟩])))))))) (.reg [⟨some 24, none, .mv (.t 8), []⟩, ⟨some 25, none, .bin .add (.t 24) (.c (.c (.i .i64 (.ofNat
  1)))), []⟩, ⟨some 8, none, .mv (.t 25), []⟩])))))) (.seq (.reg [⟨some 36, none, .mv (.t 7), []⟩, ⟨some 37, none, .call 21 [.t 36], []⟩, ⟨some 38, none, .call 16 [.t 37], []⟩, ⟨some 35, none, .mv (.t
  38), []⟩, ⟨some 39, none, .ext 0 (.t 35), []⟩, ⟨some 40, none, .ext 1 (.t 35), []⟩, ⟨some 10, none, .new 28 (.c (.a [.i .i64 (.ofNat 0), .s [], .s [], .sl none 0 0 0, .sl none 0 0 0])), []⟩, ⟨none,
  none, .st 5 (.t 10) (.t 39), []⟩, ⟨some 11, none, .mv (.t 40), []⟩]) (.seq (.seq (.reg [⟨some 41, none, .mv (.t 11), []⟩, ⟨some 42, none, .bin .neq (.t 41) (.c (.c (.i .i64 (.ofNat 0)))), []⟩, ⟨some
  43, none, .mv (.t 42), []⟩, ⟨some 44, some (43, false), .fa 4 (.t 10), []⟩, ⟨some 45, some (43, false), .ld 1 false (.t 44), []⟩, ⟨some 46, some (43, false), .len true (.t 45), []⟩, ⟨some 47, some
  (43, false), .bin .neq (.t 46) (.c (.c (.i .i64 (.ofNat 1)))), []⟩, ⟨some 48, none, .pk (.t 43) (.c (.c (.b true))) (.t 47), []⟩, ⟨some 49, none, .mv (.t 48), []⟩, ⟨some 50, some (49, false), .fa 4
  (.t 10), []⟩, ⟨some 51, some (49, false), .ld 1 false (.t 50), []⟩, ⟨some 52, some (49, false), .ia 5 (.t 51) (.c (.c (.i .i64 (.ofNat 0)))), []⟩, ⟨some 53, some (49, false), .fa 4 (.t 52), []⟩,
  ⟨some 54, some (49, false), .ld 1 false (.t 53), []⟩, ⟨some 55, some (49, false), .len true (.t 54), []⟩, ⟨some 56, some (49, false), .bin .neq (.t 55) (.c (.c (.i .i64 (.ofNat 2)))), []⟩, ⟨some 57,
  none, .pk (.t 49) (.c (.c (.b true))) (.t 56), []⟩]) (.cond (.t 57) (.seq (.reg [⟨some 4, none, .mv (.c (.c (.b false))), []⟩]) .ret) .skip)) (.seq (.reg [⟨some 58, none, .fa 4 (.t 10), []⟩, ⟨some
  59, none, .ld 1 false (.t 58), []⟩, ⟨some 60, none, .ia 5 (.t 59) (.c (.c (.i .i64 (.ofNat 0)))), []⟩, ⟨some 61, none, .fa 4 (.t 60), []⟩, ⟨some 62, none, .ld 1 false (.t 61), []⟩, ⟨some 63, none,
  .ia 5 (.t 62) (.c (.c (.i .i64 (.ofNat 1)))), []⟩, ⟨some 64, none, .ld 5 true (.t 63), []⟩, ⟨some 12, none, .new 28 (.c (.a [.i .i64 (.ofNat 0), .s [], .s [], .sl none 0 0 0, .sl none 0 0 0])), []⟩,
  ⟨none, none, .st 5 (.t 12) (.t 64), []⟩]) (.seq (.seq (.reg [⟨some 13, none, .mv (.c (.c (.i .i64 (.ofNat 0)))), []⟩]) (.blk 4 (.loop [97, 14, 12, 71, 67, 13, 57, 10, 11, 30, 5, 9, 7, 23, 6, 8, 0, 1,
  4] (.seq (.seq (.reg [⟨some 65, none, .mv (.t 13), []⟩, ⟨some 66, none, .mv (.t 6), []⟩, ⟨some 67, none, .bin .lss (.t 65) (.t 66), []⟩]) (.cond (.t 67) .skip (.exit 4))) (.seq (.blk 5 (.seq (.reg
  [⟨some 14, none, .mv (.c (.c (.i .i64 (.ofNat 1)))), []⟩]) (.seq (.seq (.reg [⟨some 70, none, .mv (.t 13), []⟩, ⟨some 71, none, .bin .eql (.t 70) (.c (.c (.i .i64 (.ofNat 0)))), []⟩]) (.cond (.t 71)
  (.reg [⟨some 14, none, .mv (.c (.c (.i .i64 (.ofNat 0)))), []⟩]) .skip)) (.seq (.seq (.reg [⟨some 72, none, .fa 4 (.t 12), []⟩, ⟨some 73, none, .ld 1 false (.t 72), []⟩, ⟨some 74, none, .len true (.t
  73), []⟩, ⟨some 75, none, .mv (.t 14), []⟩, ⟨some 76, none, .bin .add (.t 75) (.c (.c (.i .i64 (.ofNat 1)))), []⟩, ⟨some 77, none, .bin .neq (.t 74) (.t 76), []⟩, ⟨some 78, none, .mv (.t 77), []⟩,
  ⟨some 79, some (78, false), .fa 4 (.t 12), []⟩, ⟨some 80, some (78, false), .ld 1 false (.t 79), []⟩, ⟨some 81, some (78, false), .mv (.t 14), []⟩, ⟨some 82, some (78, false), .ia 5 (.t 80) (.t 81),
  []⟩, ⟨some 83, some (78, false), .fa 1 (.t 82), []⟩, ⟨some 84, some (78, false), .ld 1 false (.t 83), []⟩, ⟨some 85, some (78, false), .bin .neq (.t 84) (.c (.c (.s [117, 108]))), []⟩, ⟨some 86,
  none, .pk (.t 78) (.c (.c (.b true))) (.t 85), []⟩, ⟨some 87, none, .mv (.t 86), []⟩, ⟨some 88, some (87, false), .fa 4 (.t 12), []⟩, ⟨some 89, some (87, false), .ld 1 false (.t 88), []⟩, ⟨some 90,
  some (87, false), .mv (.t 14), []⟩, ⟨some 91, some (87, false), .ia 5 (.t 89) (.t 90), []⟩, ⟨some 92, some (87, false), .fa 4 (.t 91), []⟩, ⟨some 93, some (87, false), .ld 1 false (.t 92), []⟩, ⟨some
  94, some (87, false), .len true (.t 93), []⟩, ⟨some 95, some (87, false), .mv (.t 5), []⟩, ⟨some 96, some (87, false), .bin .neq (.t 94) (.t 95), []⟩, ⟨some 97, none, .pk (.t 87) (.c (.c (.b true)))
  (.t 96), []⟩]) (.cond (.t 97) (.seq (.reg [⟨some 4, none, .mv (.c (.c (.b false))), []⟩]) .ret) .skip)) (.reg [⟨some 98, none, .fa 4 (.t 12), []⟩, ⟨some 99, none, .ld 1 false (.t 98), []⟩, ⟨some 100,
  none, .mv (.t 14), []⟩, ⟨some 101, none, .ia 5 (.t 99) (.t 100), []⟩, ⟨some 102, none, .fa 4 (.t 101), []⟩, ⟨some 103, none, .ld 1 false (.t 102), []⟩, ⟨some 104, none, .mv (.t 5), []⟩, ⟨some 105,
  none, .bin .sub (.t 104) (.c (.c (.i .i64 (.ofNat 1)))), []⟩, ⟨some 106, none, .ia 5 (.t 103) (.t 105), []⟩, ⟨some 107, none, .ld 5 true (.t 106), []⟩, ⟨none, none, .st 5 (.t 12) (.t 107), []⟩])))))
  (.reg [⟨some 68, none, .mv (.t 13), []⟩, ⟨some 69, none, .bin .add (.t 68) (.c (.c (.i .i64 (.ofNat 1)))), []⟩, ⟨some 13, none, .mv (.t 69), []⟩])))))) (.seq (.reg [⟨some 108, none, .fa 1 (.t 12),
  []⟩, ⟨some 109, none, .ld 1 false (.t 108), []⟩, ⟨some 110, none, .bin .eql (.t 109) (.c (.c (.s [108, 105]))), []⟩, ⟨some 111, none, .mv (.t 110), []⟩, ⟨some 112, some (111, true), .fa 4 (.t 12),
  []⟩, ⟨some 113, some (111, true), .ld 1 false (.t 112), []⟩, ⟨some 114, some (111, true), .len true (.t 113), []⟩, ⟨some 115, some (111, true), .bin .eql (.t 114) (.c (.c (.i .i64 (.ofNat 1)))), []⟩,
  ⟨some 116, none, .pk (.t 111) (.t 115) (.c (.c (.b false))), []⟩, ⟨some 117, none, .mv (.t 116), []⟩, ⟨some 118, some (117, true), .call 15 [], []⟩, ⟨some 119, none, .pk (.t 117) (.t 118) (.c (.c (.b
  false))), []⟩, ⟨some 4, none, .mv (.t 119), []⟩]) .ret)))))))), [(4, none)]⟩

theorem ok8 : FnR Tryz.prog 0 8 cf8 := fnC_ok Tryz.func8 (by kernel_rfl)

def cf12 : CF := ⟨101, .seq (.reg [⟨some 4, none, .mv (.c (.c (.b false))), []⟩]) (.seq (.reg [⟨some 5, none, .mv (.c (.c (.s []))), []⟩]) (.seq (.seq (.reg [⟨some 12, none, .mv (.t 0), []⟩]) (.cond (.t 12) (.reg
  [⟨some 5, none, .mv (.c (.c (.s [60, 104, 116, 109, 108, 62, 60, 104, 101, 97, 100, 62]))), []⟩]) .skip)) (.seq (.reg [⟨some 13, none, .mv (.t 1), []⟩, ⟨some 14, none, .call 20 [.t 13, .c (.c (.i
  .i64 (.ofNat 6)))], []⟩, ⟨some 6, none, .mv (.t 14), []⟩]) (.seq (.seq (.reg [⟨some 7, none, .mv (.c (.c (.i .i64 (.ofNat 0)))), []⟩]) (.blk 0 (.loop [11, 10, 49, 8, 9, 5, 17, 6, 7, 12, 0, 1, 4]
  (.seq (.seq (.reg [⟨some 15, none, .mv (.t 7), []⟩, ⟨some 16, none, .mv (.t 6), []⟩, ⟨some 17, none, .bin .lss (.t 15) (.t 16), []⟩]) (.cond (.t 17) .skip (.exit 0))) (.seq (.blk 1 (.reg [⟨some 20,
  none, .mv (.t 5), []⟩, ⟨some 21, none, .bld [.s [], .s [], .s []] [(0, (1, .c (.c (.s [60, 109, 101, 116, 97, 62])))), (1, (1, .c (.c (.s [60, 116, 105, 116, 108, 101, 62, 116, 60, 47, 116, 105, 116,
  108, 101, 62])))), (2, (1, .c (.c (.s [60, 115, 99, 114, 105, 112, 116, 62, 120, 60, 47, 115, 99, 114, 105, 112, 116, 62]))))], []⟩, ⟨some 22, none, .mv (.t 7), []⟩, ⟨some 23, none, .bin .rem (.t 22)
  (.c (.c (.i .i64 (.ofNat 3)))), []⟩, ⟨some 24, none, .ix 3 1 false (.t 21) (.t 23), []⟩, ⟨some 25, none, .bin .add (.t 20) (.t 24), []⟩, ⟨some 5, none, .mv (.t 25), []⟩])) (.reg [⟨some 18, none, .mv
  (.t 7), []⟩, ⟨some 19, none, .bin .add (.t 18) (.c (.c (.i .i64 (.ofNat 1)))), []⟩, ⟨some 7, none, .mv (.t 19), []⟩])))))) (.seq (.reg [⟨some 27, none, .mv (.t 5), []⟩, ⟨some 28, none, .bin .add (.t
  27) (.c (.c (.s [60, 112, 62, 113]))), []⟩, ⟨some 29, none, .call 21 [.t 28], []⟩, ⟨some 30, none, .call 16 [.t 29], []⟩, ⟨some 26, none, .mv (.t 30), []⟩, ⟨some 31, none, .ext 0 (.t 26), []⟩, ⟨some
  32, none, .ext 1 (.t 26), []⟩, ⟨some 8, none, .new 28 (.c (.a [.i .i64 (.ofNat 0), .s [], .s [], .sl none 0 0 0, .sl none 0 0 0])), []⟩, ⟨none, none, .st 5 (.t 8) (.t 31), []⟩, ⟨some 9, none, .mv (.t
  32), []⟩]) (.seq (.seq (.reg [⟨some 33, none, .mv (.t 9), []⟩, ⟨some 34, none, .bin .neq (.t 33) (.c (.c (.i .i64 (.ofNat 0)))), []⟩, ⟨some 35, none, .mv (.t 34), []⟩, ⟨some 36, some (35, false), .fa
  4 (.t 8), []⟩, ⟨some 37, some (35, false), .ld 1 false (.t 36), []⟩, ⟨some 38, some (35, false), .len true (.t 37), []⟩, ⟨some 39, some (35, false), .bin .neq (.t 38) (.c (.c (.i .i64 (.ofNat 1)))),
  []⟩, ⟨some 40, none, .pk (.t 35) (.c (.c (.b true))) (.t 39), []⟩, ⟨some 41, none, .mv (.t 40), []⟩, ⟨some 42, some (41, false), .fa 4 (.t 8), []⟩, ⟨some 43, some (41, false), .ld 1 false (.t 42),
  []⟩, ⟨some 44, some (41, false), .ia 5 (.t 43) (.c (.c (.i .i64 (.ofNat 0)))), []⟩, ⟨some 45, some (41, false), .fa 4 (.t 44), []⟩, ⟨some 46, some (41, false), .ld 1 false (.t 45), []⟩, ⟨some 47,
  some (41, false), .len true (.t 46), []⟩, ⟨some 48, some (41, false), .bin .neq (.t 47) (.c (.c (.i .i64 (.ofNat 2)))), []⟩, ⟨some 49, none, .pk (.t 41) (.c (.c (.b true))) (.t 48), []⟩]) (.cond (.t
  49) (.seq (.reg [⟨some 4, none, .mv (.c (.c (.b false))), []⟩]) .ret) .skip)) (.seq (.dreg [⟨some 50, none, .fa 4 (.t 8), []⟩, ⟨some 51, none, .ld 1 false (.t 50), []⟩, ⟨some 52, none, .ia 5 (.t 51)
  (.c (.c (.i .i64 (.ofNat 0)))), []⟩, ⟨some 53, none, .fa 4 (.t 52), []⟩, ⟨some 54, none, .ld 1 false (.t 53), []⟩, ⟨some 55, none, .ia 5 (.t 54) (.c (.c (.i .i64 (.ofNat 0)))), []⟩, ⟨some 56, none,
  .ld 5 true (.t 55), []⟩, ⟨some 57, none, .fa 4 (.t 8), []⟩, ⟨some 58, none, .ld 1 false (.t 57), []⟩, ⟨some 59, none, .ia 5 (.t 58) (.c (.c (.i .i64 (.ofNat 0)))), []⟩, ⟨some 60, none, .fa 4 (.t 59),
  []⟩, ⟨some 61, none, .ld 1 false (.t 60), []⟩, ⟨some 62, none, .ia 5 (.t 61) (.c (.c (.i .i64 (.ofNat 1)))), []⟩, ⟨some 63, none, .ld 5 true (.t 62), []⟩, ⟨some 10, none, .new 28 (.c (.a [.i .i64
  (.ofNat 0), .s [], .s [], .sl none 0 0 0, .sl none 0 0 0])), []⟩, ⟨some 11, none, .new 28 (.c (.a [.i .i64 (.ofNat 0), .s [], .s [], .sl none 0 0 0, .sl none 0 0 0])), []⟩, ⟨none, none, .st 5 (.t 10)
  (.t 56), [⟨some 58, none, .ld 1 false (.t 57)⟩, ⟨some 61, none, .ld 1 false (.t 60)⟩, ⟨some 63, none, .ld 5 true (.t 62)⟩]⟩, ⟨none, none, .st 5 (.t 11) (.t 63), []⟩]) (.seq (.reg [⟨some 64, none, .fa
  1 (.t 10), []⟩, ⟨some 65, none, .ld 1 false (.t 64), []⟩, ⟨some 66, none, .bin .eql (.t 65) (.c (.c (.s [104, 101, 97, 100]))), []⟩, ⟨some 67, none, .mv (.t 66), []⟩, ⟨some 68, some (67, true), .fa 4
  (.t 10), []⟩, ⟨some 69, some (67, true), .ld 1 false (.t 68), []⟩, ⟨some 70, some (67, true), .len true (.t 69), []⟩, ⟨some 71, some (67, true), .mv (.t 6), []⟩, ⟨some 72, some (67, true), .bin .eql
  (.t 70) (.t 71), []⟩, ⟨some 73, none, .pk (.t 67) (.t 72) (.c (.c (.b false))), []⟩, ⟨some 74, none, .mv (.t 73), []⟩, ⟨some 75, some (74, true), .fa 1 (.t 11), []⟩, ⟨some 76, some (74, true), .ld 1
  false (.t 75), []⟩, ⟨some 77, some (74, true), .bin .eql (.t 76) (.c (.c (.s [98, 111, 100, 121]))), []⟩, ⟨some 78, none, .pk (.t 74) (.t 77) (.c (.c (.b false))), []⟩, ⟨some 79, none, .mv (.t 78),
  []⟩, ⟨some 80, some (79, true), .fa 4 (.t 11), []⟩, ⟨some 81, some (79, true), .ld 1 false (.t 80), []⟩, ⟨some 82, some (79, true), .len true (.t 81), []⟩, ⟨some 83, some (79, true), .bin .eql (.t
  82) (.c (.c (.i .i64 (.ofNat 1)))), []⟩, ⟨some 84, none, .pk (.t 79) (.t 83) (.c (.c (.b false))), []⟩, ⟨some 85, none, .mv (.t 84), []⟩, ⟨some 86, some (85, true), .fa 4 (.t 11), []⟩, ⟨some 87, some
  (85, true), .ld 1 false (.t 86), []⟩, ⟨some 88, some (85, true), .ia 5 (.t 87) (.c (.c (.i .i64 (.ofNat 0)))), []⟩, ⟨some 89, some (85, true), .fa 1 (.t 88), []⟩, ⟨some 90, some (85, true), .ld 1
  false (.t 89), []⟩, ⟨some 91, some (85, true), .bin .eql (.t 90) (.c (.c (.s [112]))), []⟩, ⟨some 92, none, .pk (.t 85) (.t 91) (.c (.c (.b false))), []⟩, ⟨some 93, none, .mv (.t 92), []⟩, ⟨some 94,
  some (93, true), .ld 5 true (.t 11), []⟩, ⟨some 95, some (93, true), .call 22 [.t 94], []⟩, ⟨some 96, some (93, true), .bin .eql (.t 95) (.c (.c (.i .i64 (.ofNat 3)))), []⟩, ⟨some 97, none, .pk (.t
  93) (.t 96) (.c (.c (.b false))), []⟩, ⟨some 98, none, .mv (.t 97), []⟩, ⟨some 99, some (98, true), .call 15 [], []⟩, ⟨some 100, none, .pk (.t 98) (.t 99) (.c (.c (.b false))), []⟩, ⟨some 4, none,
  .mv (.t 100), []⟩]) .ret)))))))), [(4, none)]⟩

theorem ok12 : FnR Tryz.prog 0 12 cf12 := fnC_ok Tryz.func12 (by kernel_rfl)

def cf13 : CF := ⟨100, .seq (.reg [⟨some 0, none, .mv (.c (.c (.b false))), []⟩]) (.seq (.reg [⟨some 6, none, .call 23 [.c (.c (.s [60, 98, 117, 116, 116, 111, 110, 62, 49, 60, 112, 62, 50, 60, 98, 117, 116, 116,
  111, 110, 62, 51]))], []⟩, ⟨some 5, none, .mv (.t 6), []⟩, ⟨some 7, none, .ext 0 (.t 5), []⟩, ⟨some 8, none, .ext 1 (.t 5), []⟩, ⟨some 1, none, .mv (.t 7), []⟩, ⟨some 2, none, .mv (.t 8), []⟩]) (.seq
  (.reg [⟨some 10, none, .call 23 [.c (.c (.s [60, 97, 62, 49, 60, 98, 62, 50, 60, 97, 62, 51]))], []⟩, ⟨some 9, none, .mv (.t 10), []⟩, ⟨some 11, none, .ext 0 (.t 9), []⟩, ⟨some 12, none, .ext 1 (.t
  9), []⟩, ⟨some 3, none, .mv (.t 11), []⟩, ⟨some 4, none, .mv (.t 12), []⟩]) (.seq (.seq (.reg [⟨some 13, none, .mv (.t 2), []⟩, ⟨some 14, none, .un .not (.t 13), []⟩, ⟨some 15, none, .mv (.t 14),
  []⟩, ⟨some 16, some (15, false), .mv (.t 4), []⟩, ⟨some 17, some (15, false), .un .not (.t 16), []⟩, ⟨some 18, none, .pk (.t 15) (.c (.c (.b true))) (.t 17), []⟩, ⟨some 19, none, .mv (.t 18), []⟩,
  ⟨some 20, some (19, false), .mv (.t 1), []⟩, ⟨some 21, some (19, false), .len true (.t 20), []⟩, ⟨some 22, some (19, false), .bin .neq (.t 21) (.c (.c (.i .i64 (.ofNat 2)))), []⟩, ⟨some 23, none, .pk
  (.t 19) (.c (.c (.b true))) (.t 22), []⟩, ⟨some 24, none, .mv (.t 23), []⟩, ⟨some 25, some (24, false), .mv (.t 1), []⟩, ⟨some 26, some (24, false), .ia 5 (.t 25) (.c (.c (.i .i64 (.ofNat 0)))), []⟩,
  ⟨some 27, some (24, false), .fa 1 (.t 26), []⟩, ⟨some 28, some (24, false), .ld 1 false (.t 27), []⟩, ⟨some 29, some (24, false), .bin .neq (.t 28) (.c (.c (.s [98, 117, 116, 116, 111, 110]))), []⟩,
  ⟨some 30, none, .pk (.t 24) (.c (.c (.b true))) (.t 29), []⟩, ⟨some 31, none, .mv (.t 30), []⟩, ⟨some 32, some (31, false), .mv (.t 1), []⟩, ⟨some 33, some (31, false), .ia 5 (.t 32) (.c (.c (.i .i64
  (.ofNat 1)))), []⟩, ⟨some 34, some (31, false), .fa 1 (.t 33), []⟩, ⟨some 35, some (31, false), .ld 1 false (.t 34), []⟩, ⟨some 36, some (31, false), .bin .neq (.t 35) (.c (.c (.s [98, 117, 116, 116,
  111, 110]))), []⟩, ⟨some 37, none, .pk (.t 31) (.c (.c (.b true))) (.t 36), []⟩, ⟨some 38, none, .mv (.t 37), []⟩, ⟨some 39, some (38, false), .mv (.t 1), []⟩, ⟨some 40, some (38, false), .ia 5 (.t
  39) (.c (.c (.i .i64 (.ofNat 0)))), []⟩, ⟨some 41, some (38, false), .fa 4 (.t 40), []⟩, ⟨some 42, some (38, false), .ld 1 false (.t 41), []⟩, ⟨some 43, some (38, false), .len true (.t 42), []⟩,
  ⟨some 44, some (38, false), .bin .neq (.t 43) (.c (.c (.i .i64 (.ofNat 2)))), []⟩, ⟨some 45, none, .pk (.t 38) (.c (.c (.b true))) (.t 44), []⟩, ⟨some 46, none, .mv (.t 45), []⟩, ⟨some 47, some (46,
  false), .mv (.t 1), []⟩, ⟨some 48, some (46, false), .ia 5 (.t 47) (.c (.c (.i .i64 (.ofNat 1)))), []⟩, ⟨some 49, some (46, false), .fa 4 (.t 48), []⟩, ⟨some 50, some (46, false), .ld 1 false (.t
  49), []⟩, ⟨some 51, some (46, false), .len true (.t 50), []⟩, ⟨some 52, some (46, false), .bin .neq (.t 51) (.c (.c (.i .i64 (.ofNat 1)))), []⟩, ⟨some 53, none, .pk (.t 46) (.c (.c (.b true))) (.t
  52), []⟩]) (.cond (.t 53) (.seq (.reg [⟨some 0, none, .mv (.c (.c (.b false))), []⟩]) .ret) .skip)) (.seq (.reg [⟨some 54, none, .mv (.t 3), []⟩, ⟨some 55, none, .len true (.t 54), []⟩, ⟨some 56,
  none, .bin .eql (.t 55) (.c (.c (.i .i64 (.ofNat 2)))), []⟩, ⟨some 57, none, .mv (.t 56), []⟩, ⟨some 58, some (57, true), .mv (.t 3), []⟩, ⟨some 59, some (57, true), .ia 5 (.t 58) (.c (.c (.i .i64
  (.ofNat 0)))), []⟩, ⟨some 60, some (57, true), .fa 1 (.t 59), []⟩, ⟨some 61, some (57, true), .ld 1 false (.t 60), []⟩, ⟨some 62, some (57, true), .bin .eql (.t 61) (.c (.c (.s [97]))), []⟩, ⟨some
  63, none, .pk (.t 57) (.t 62) (.c (.c (.b false))), []⟩, ⟨some 64, none, .mv (.t 63), []⟩, ⟨some 65, some (64, true), .mv (.t 3), []⟩, ⟨some 66, some (64, true), .ia 5 (.t 65) (.c (.c (.i .i64
  (.ofNat 0)))), []⟩, ⟨some 67, some (64, true), .fa 4 (.t 66), []⟩, ⟨some 68, some (64, true), .ld 1 false (.t 67), []⟩, ⟨some 69, some (64, true), .len true (.t 68), []⟩, ⟨some 70, some (64, true),
  .bin .eql (.t 69) (.c (.c (.i .i64 (.ofNat 2)))), []⟩, ⟨some 71, none, .pk (.t 64) (.t 70) (.c (.c (.b false))), []⟩, ⟨some 72, none, .mv (.t 71), []⟩, ⟨some 73, some (72, true), .mv (.t 3), []⟩,
  ⟨some 74, some (72, true), .ia 5 (.t 73) (.c (.c (.i .i64 (.ofNat 1)))), []⟩, ⟨some 75, some (72, true), .fa 1 (.t 74), []⟩, ⟨some 76, some (72, true), .ld 1 false (.t 75), []⟩, ⟨some 77, some (72,
  true), .bin .eql (.t 76) (.c (.c (.s [98]))), []⟩, ⟨some 78, none, .pk (.t 72) (.t 77) (.c (.c (.b false))), []⟩, ⟨some 79, none, .mv (.t 78), []⟩, ⟨some 80, some (79, true), .mv (.t 3), []⟩, ⟨some
  81, some (79, true), .ia 5 (.t 80) (.c (.c (.i .i64 (.ofNat 1)))), []⟩, ⟨some 82, some (79, true), .fa 4 (.t 81), []⟩, ⟨some 83, some (79, true), .ld 1 false (.t 82), []⟩, ⟨some 84, some (79, true),
  .len true (.t 83), []⟩, ⟨some 85, some (79, true), .bin .eql (.t 84) (.c (.c (.i .i64 (.ofNat 1)))), []⟩, ⟨some 86, none, .pk (.t 79) (.t 85) (.c (.c (.b false))), []⟩, ⟨some 87, none, .mv (.t 86),
  []⟩, ⟨some 88, some (87, true), .mv (.t 3), []⟩, ⟨some 89, some (87, true), .ia 5 (.t 88) (.c (.c (.i .i64 (.ofNat 1)))), []⟩, ⟨some 90, some (87, true), .fa 4 (.t 89), []⟩, ⟨some 91, some (87,
  true), .ld 1 false (.t 90), []⟩, ⟨some 92, some (87, true), .ia 5 (.t 91) (.c (.c (.i .i64 (.ofNat 0)))), []⟩, ⟨some 93, some (87, true), .fa 1 (.t 92), []⟩, ⟨some 94, some (87, true), .ld 1 false
  (.t 93), []⟩, ⟨some 95, some (87, true), .bin .eql (.t 94) (.c (.c (.s [97]))), []⟩, ⟨some 96, none, .pk (.t 87) (.t 95) (.c (.c (.b false))), []⟩, ⟨some 97, none, .mv (.t 96), []⟩, ⟨some 98, some
  (97, true), .call 15 [], []⟩, ⟨some 99, none, .pk (.t 97) (.t 98) (.c (.c (.b false))), []⟩, ⟨some 0, none, .mv (.t 99), []⟩]) .ret)))), [(0, none)]⟩

theorem ok13 : FnR Tryz.prog 0 13 cf13 := fnC_ok Tryz.func13 (by kernel_rfl)

def cf15 : CF := ⟨80, .seq (.reg [⟨some 0, none, .mv (.c (.c (.b false))), []⟩]) (.seq (.reg [⟨some 5, none, .call 21 [.c (.c (.s [60, 112, 62, 97, 60, 98, 62, 98, 60, 112, 62, 99]))], []⟩, ⟨some 6, none, .call 16
  [.t 5], []⟩, ⟨some 4, none, .mv (.t 6), []⟩, ⟨some 7, none, .ext 0 (.t 4), []⟩, ⟨some 8, none, .ext 1 (.t 4), []⟩, ⟨some 1, none, .new 28 (.c (.a [.i .i64 (.ofNat 0), .s [], .s [], .sl none 0 0 0,
  .sl none 0 0 0])), []⟩, ⟨none, none, .st 5 (.t 1) (.t 7), []⟩, ⟨some 2, none, .mv (.t 8), []⟩]) (.seq (.seq (.reg [⟨some 9, none, .mv (.t 2), []⟩, ⟨some 10, none, .bin .neq (.t 9) (.c (.c (.i .i64
  (.ofNat 0)))), []⟩, ⟨some 11, none, .mv (.t 10), []⟩, ⟨some 12, some (11, false), .fa 4 (.t 1), []⟩, ⟨some 13, some (11, false), .ld 1 false (.t 12), []⟩, ⟨some 14, some (11, false), .len true (.t
  13), []⟩, ⟨some 15, some (11, false), .bin .neq (.t 14) (.c (.c (.i .i64 (.ofNat 1)))), []⟩, ⟨some 16, none, .pk (.t 11) (.c (.c (.b true))) (.t 15), []⟩, ⟨some 17, none, .mv (.t 16), []⟩, ⟨some 18,
  some (17, false), .fa 4 (.t 1), []⟩, ⟨some 19, some (17, false), .ld 1 false (.t 18), []⟩, ⟨some 20, some (17, false), .ia 5 (.t 19) (.c (.c (.i .i64 (.ofNat 0)))), []⟩, ⟨some 21, some (17, false),
  .fa 4 (.t 20), []⟩, ⟨some 22, some (17, false), .ld 1 false (.t 21), []⟩, ⟨some 23, some (17, false), .len true (.t 22), []⟩, ⟨some 24, some (17, false), .bin .neq (.t 23) (.c (.c (.i .i64 (.ofNat
  2)))), []⟩, ⟨some 25, none, .pk (.t 17) (.c (.c (.b true))) (.t 24), []⟩]) (.cond (.t 25) (.seq (.reg [⟨some 0, none, .mv (.c (.c (.b false))), []⟩]) .ret) .skip)) (.seq (.reg [⟨some 26, none, .fa 4
  (.t 1), []⟩, ⟨some 27, none, .ld 1 false (.t 26), []⟩, ⟨some 28, none, .ia 5 (.t 27) (.c (.c (.i .i64 (.ofNat 0)))), []⟩, ⟨some 29, none, .fa 4 (.t 28), []⟩, ⟨some 30, none, .ld 1 false (.t 29), []⟩,
  ⟨some 31, none, .ia 5 (.t 30) (.c (.c (.i .i64 (.ofNat 1)))), []⟩, ⟨some 32, none, .fa 4 (.t 31), []⟩, ⟨some 33, none, .ld 1 false (.t 32), []⟩, ⟨some 3, none, .mv (.t 33), []⟩]) (.seq (.reg [⟨some
  34, none, .mv (.t 3), []⟩, ⟨some 35, none, .len true (.t 34), []⟩, ⟨some 36, none, .bin .eql (.t 35) (.c (.c (.i .i64 (.ofNat 2)))), []⟩, ⟨some 37, none, .mv (.t 36), []⟩, ⟨some 38, some (37, true),
  .mv (.t 3), []⟩, ⟨some 39, some (37, true), .ia 5 (.t 38) (.c (.c (.i .i64 (.ofNat 0)))), []⟩, ⟨some 40, some (37, true), .fa 1 (.t 39), []⟩, ⟨some 41, some (37, true), .ld 1 false (.t 40), []⟩,
  ⟨some 42, some (37, true), .bin .eql (.t 41) (.c (.c (.s [112]))), []⟩, ⟨some 43, none, .pk (.t 37) (.t 42) (.c (.c (.b false))), []⟩, ⟨some 44, none, .mv (.t 43), []⟩, ⟨some 45, some (44, true), .mv
  (.t 3), []⟩, ⟨some 46, some (44, true), .ia 5 (.t 45) (.c (.c (.i .i64 (.ofNat 0)))), []⟩, ⟨some 47, some (44, true), .fa 4 (.t 46), []⟩, ⟨some 48, some (44, true), .ld 1 false (.t 47), []⟩, ⟨some
  49, some (44, true), .len true (.t 48), []⟩, ⟨some 50, some (44, true), .bin .eql (.t 49) (.c (.c (.i .i64 (.ofNat 2)))), []⟩, ⟨some 51, none, .pk (.t 44) (.t 50) (.c (.c (.b false))), []⟩, ⟨some 52,
  none, .mv (.t 51), []⟩, ⟨some 53, some (52, true), .mv (.t 3), []⟩, ⟨some 54, some (52, true), .ia 5 (.t 53) (.c (.c (.i .i64 (.ofNat 0)))), []⟩, ⟨some 55, some (52, true), .fa 4 (.t 54), []⟩, ⟨some
  56, some (52, true), .ld 1 false (.t 55), []⟩, ⟨some 57, some (52, true), .ia 5 (.t 56) (.c (.c (.i .i64 (.ofNat 1)))), []⟩, ⟨some 58, some (52, true), .fa 1 (.t 57), []⟩, ⟨some 59, some (52, true),
  .ld 1 false (.t 58), []⟩, ⟨some 60, some (52, true), .bin .eql (.t 59) (.c (.c (.s [98]))), []⟩, ⟨some 61, none, .pk (.t 52) (.t 60) (.c (.c (.b false))), []⟩, ⟨some 62, none, .mv (.t 61), []⟩, ⟨some
  63, some (62, true), .mv (.t 3), []⟩, ⟨some 64, some (62, true), .ia 5 (.t 63) (.c (.c (.i .i64 (.ofNat 1)))), []⟩, ⟨some 65, some (62, true), .fa 4 (.t 64), []⟩, ⟨some 66, some (62, true), .ld 1
  false (.t 65), []⟩, ⟨some 67, some (62, true), .len true (.t 66), []⟩, ⟨some 68, some (62, true), .bin .eql (.t 67) (.c (.c (.i .i64 (.ofNat 1)))), []⟩, ⟨some 69, none, .pk (.t 62) (.t 68) (.c (.c
  (.b false))), []⟩, ⟨some 70, none, .mv (.t 69), []⟩, ⟨some 71, some (70, true), .mv (.t 3), []⟩, ⟨some 72, some (70, true), .ia 5 (.t 71) (.c (.c (.i .i64 (.ofNat 1)))), []⟩, ⟨some 73, some (70,
  true), .fa 4 (.t 72), []⟩, ⟨some 74, some (70, true), .ld 1 false (.t 73), []⟩, ⟨some 75, some (70, true), .ia 5 (.t 74) (.c (.c (.i .i64 (.ofNat 0)))), []⟩, ⟨some 76, some (70, true), .fa 1 (.t 75),
  []⟩, ⟨some 77, some (70, true), .ld 1 false (.t 76), []⟩, ⟨some 78, some (70, true), .bin .eql (.t 77) (.c (.c (.s [98]))), []⟩, ⟨some 79, none, .pk (.t 70) (.t 78) (.c (.c (.b false))), []⟩, ⟨some
  0, none, .mv (.t 79), []⟩]) .ret)))), [(0, none)]⟩

theorem ok15 : FnR Tryz.prog 0 15 cf15 := fnC_ok Tryz.func15 (by kernel_rfl)

def cf16 : CF := ⟨54, .seq (.reg [⟨some 2, none, .new 28 (.c (.a [.i .i64 (.ofNat 0), .s [], .s [], .sl none 0 0 0, .sl none 0 0 0])), []⟩, ⟨some 3, none, .mv (.c (.c (.i .i64 (.ofNat 0)))), []⟩]) (.seq (.reg [⟨some
  8, none, .bld [.i .i64 (.ofNat 0), .i .i64 (.ofNat 0), .s [], .s [], .sl none 0 0 0, .p none, .sl none 0 0 0] [(1, (1, .c (.c (.i .i64 (.ofNat 1)))))], []⟩, ⟨some 9, none, .new 61 (.t 8), []⟩, ⟨some
  10, none, .call 24 [], []⟩, ⟨some 11, none, .bld [.p none, .p none, .i .i64 (.ofNat 0), .sl none 0 0 0, .p none, .i .i64 (.ofNat 0), .b false, .b false] [(0, (1, .t 9)), (2, (1, .c (.c (.i .i64
  (.ofNat 1))))), (4, (1, .t 10))], []⟩, ⟨some 12, none, .new 65 (.t 11), []⟩, ⟨some 4, none, .mv (.t 12), []⟩]) (.seq .skip (.seq (.seq (.reg [⟨some 13, none, .mv (.t 0), []⟩, ⟨some 14, none, .len
  true (.t 13), []⟩, ⟨some 15, none, .mv (.c (.c (.i .i64 (.ofNat 0)))), []⟩]) (.blk 0 (.loop [51, 7, 42, 30, 28, 4, 6, 13, 16, 15, 14, 0, 2, 3] (.seq (.reg [⟨some 16, none, .bin .lss (.t 15) (.t 14),
  []⟩]) (.seq (.cond (.t 16) .skip (.exit 0)) (.seq (.blk 1 (.seq (.reg [⟨some 17, none, .ia 5 (.t 13) (.t 15), []⟩, ⟨some 18, none, .ld 5 true (.t 17), []⟩, ⟨some 6, none, .new 56 (.c (.a [.i .i64
  (.ofNat 0), .s [], .s [], .sl none 0 0 0, .b false])), []⟩, ⟨none, none, .st 5 (.t 6) (.t 18), []⟩]) (.seq (.seq (.reg [⟨some 19, none, .fa 0 (.t 6), []⟩, ⟨some 20, none, .ld 1 false (.t 19), []⟩,
  ⟨some 21, none, .bin .eql (.t 20) (.c (.c (.i .i64 (.ofNat 6)))), []⟩, ⟨some 22, none, .mv (.t 21), []⟩, ⟨some 23, some (22, false), .mv (.t 4), []⟩, ⟨some 24, some (22, false), .nc (.t 23), []⟩,
  ⟨some 25, some (22, false), .fa 2 (.t 24), []⟩, ⟨some 26, some (22, false), .ld 1 false (.t 25), []⟩, ⟨some 27, some (22, false), .bin .gtr (.t 26) (.c (.c (.i .i64 (.ofNat 300)))), []⟩, ⟨some 28,
  none, .pk (.t 22) (.c (.c (.b true))) (.t 27), []⟩]) (.cond (.t 28) (.exit 0) .skip)) (.seq (.reg [⟨some 29, none, .ld 5 true (.t 6), []⟩, ⟨some 30, none, .call 25 [.t 29], []⟩]) (.cond (.t 30) (.reg
  [⟨some 31, none, .mv (.t 4), []⟩, ⟨some 32, none, .ld 5 true (.t 6), []⟩, ⟨some 33, none, .call 26 [.t 31, .t 32], []⟩]) .skip))))) (.reg [⟨some 34, none, .bin .add (.t 15) (.c (.c (.i .i64 (.ofNat
  1)))), []⟩, ⟨some 15, none, .mv (.t 34), []⟩]))))))) (.seq (.reg [⟨some 35, none, .mv (.t 4), []⟩, ⟨some 36, none, .bld [.i .i64 (.ofNat 0), .s [], .s [], .sl none 0 0 0, .b false] [(0, (1, .c (.c
  (.i .i64 (.ofNat 6)))))], []⟩, ⟨some 37, none, .call 26 [.t 35, .t 36], []⟩]) (.seq (.seq (.reg [⟨some 38, none, .mv (.t 4), []⟩, ⟨some 39, none, .nc (.t 38), []⟩, ⟨some 40, none, .fa 2 (.t 39), []⟩,
  ⟨some 41, none, .ld 1 false (.t 40), []⟩, ⟨some 42, none, .bin .gtr (.t 41) (.c (.c (.i .i64 (.ofNat 300)))), []⟩]) (.cond (.t 42) (.seq (.reg [⟨some 43, none, .bld [.i .i64 (.ofNat 0), .s [], .s [],
  .sl none 0 0 0, .sl none 0 0 0] [], []⟩, ⟨none, none, .st 5 (.t 2) (.t 43), []⟩, ⟨some 3, none, .mv (.c (.c (.i .i64 (.ofNat 2)))), []⟩]) .ret) .skip)) (.seq (.reg [⟨some 44, none, .mv (.t 4), []⟩,
  ⟨some 45, none, .nc (.t 44), []⟩, ⟨some 46, none, .fa 0 (.t 45), []⟩, ⟨some 47, none, .ld 1 false (.t 46), []⟩, ⟨some 48, none, .call 27 [.t 47], []⟩, ⟨some 7, none, .new 28 (.c (.a [.i .i64 (.ofNat
  0), .s [], .s [], .sl none 0 0 0, .sl none 0 0 0])), []⟩, ⟨none, none, .st 5 (.t 7) (.t 48), []⟩]) (.seq (.seq (.reg [⟨some 49, none, .ld 5 true (.t 7), []⟩, ⟨some 50, none, .call 28 [.t 49], []⟩,
  ⟨some 51, none, .un .not (.t 50), []⟩]) (.cond (.t 51) (.seq (.reg [⟨some 52, none, .bld [.i .i64 (.ofNat 0), .s [], .s [], .sl none 0 0 0, .sl none 0 0 0] [], []⟩, ⟨none, none, .st 5 (.t 2) (.t 52),
  []⟩, ⟨some 3, none, .mv (.c (.c (.i .i64 (.ofNat 2)))), []⟩]) .ret) .skip)) (.seq (.reg [⟨some 53, none, .ld 5 true (.t 7), []⟩, ⟨none, none, .st 5 (.t 2) (.t 53), []⟩, ⟨some 3, none, .mv (.c (.c (.i
  .i64 (.ofNat 0)))), []⟩]) .ret)))))))), [(2, some (5, true)), (3, none)]⟩

theorem ok16 : FnR Tryz.prog 0 16 cf16 := fnC_ok Tryz.func16 (by kernel_rfl)

def cf21 : CF := ⟨57, .seq (.reg [⟨some 2, none, .mv (.c (.c (.sl none 0 0 0))), []⟩]) (.seq (.reg [⟨some 10, none, .mv (.t 0), []⟩, ⟨some 11, none, .call 33 [.t 10], []⟩, ⟨some 3, none, .mv (.t 11), []⟩]) (.seq
  (.reg [⟨some 4, none, .mv (.c (.c (.sl none 0 0 0))), []⟩]) (.seq (.reg [⟨some 5, none, .mv (.c (.c (.s []))), []⟩]) (.seq (.reg [⟨some 6, none, .mv (.c (.c (.i .i64 (.ofNat 0)))), []⟩]) (.blk 0
  (.loop [44, 32, 27, 7, 4, 22, 9, 8, 5, 6, 3, 0, 2] (.blk 1 (.seq (.reg [⟨some 13, none, .mv (.t 3), []⟩, ⟨some 14, none, .mv (.t 6), []⟩, ⟨some 15, none, .mv (.t 5), []⟩, ⟨some 16, none, .call 34 [.t
  13, .t 14, .t 15], []⟩, ⟨some 12, none, .mv (.t 16), []⟩, ⟨some 17, none, .ext 0 (.t 12), []⟩, ⟨some 18, none, .ext 1 (.t 12), []⟩, ⟨some 19, none, .ext 2 (.t 12), []⟩, ⟨some 7, none, .new 56 (.c (.a
  [.i .i64 (.ofNat 0), .s [], .s [], .sl none 0 0 0, .b false])), []⟩, ⟨none, none, .st 5 (.t 7) (.t 17), []⟩, ⟨some 8, none, .mv (.t 18), []⟩, ⟨some 9, none, .mv (.t 19), []⟩]) (.seq (.reg [⟨some 20,
  none, .mv (.t 8), []⟩, ⟨some 6, none, .mv (.t 20), []⟩]) (.seq (.seq (.reg [⟨some 21, none, .mv (.t 9), []⟩, ⟨some 22, none, .un .not (.t 21), []⟩]) (.cond (.t 22) (.exit 1) .skip)) (.seq (.reg
  [⟨some 23, none, .mv (.t 4), []⟩, ⟨some 24, none, .ld 5 true (.t 7), []⟩, ⟨some 25, none, .bsl 56 5 1 [.i .i64 (.ofNat 0), .s [], .s [], .sl none 0 0 0, .b false] [(0, (5, .t 24))], []⟩, ⟨some 26,
  none, .app 56 5 false (.t 23) (.t 25), []⟩, ⟨some 4, none, .mv (.t 26), []⟩]) (.blk 2 (.seq (.reg [⟨some 28, none, .fa 0 (.t 7), []⟩, ⟨some 29, none, .ld 1 false (.t 28), []⟩, ⟨some 30, none, .bin
  .eql (.t 29) (.c (.c (.i .i64 (.ofNat 6)))), []⟩, ⟨some 27, none, .mv (.t 30), []⟩]) (.cond (.t 27) (.seq (.reg [⟨some 31, none, .mv (.t 4), []⟩, ⟨some 2, none, .mv (.t 31), []⟩]) .ret) (.seq (.reg
  [⟨some 33, none, .fa 0 (.t 7), []⟩, ⟨some 34, none, .ld 1 false (.t 33), []⟩, ⟨some 35, none, .bin .eql (.t 34) (.c (.c (.i .i64 (.ofNat 1)))), []⟩, ⟨some 36, none, .mv (.t 35), []⟩, ⟨some 37, some
  (36, true), .fa 1 (.t 7), []⟩, ⟨some 38, some (36, true), .ld 1 false (.t 37), []⟩, ⟨some 39, some (36, true), .call 35 [.t 38], []⟩, ⟨some 40, some (36, true), .bin .gtr (.t 39) (.c (.c (.i .i64
  (.ofNat 0)))), []⟩, ⟨some 41, none, .pk (.t 36) (.t 40) (.c (.c (.b false))), []⟩, ⟨some 32, none, .mv (.t 41), []⟩]) (.cond (.t 32) (.reg [⟨some 42, none, .fa 1 (.t 7), []⟩, ⟨some 43, none, .ld 1
  false (.t 42), []⟩, ⟨some 5, none, .mv (.t 43), []⟩]) (.seq (.seq (.reg [⟨some 45, none, .fa 0 (.t 7), []⟩, ⟨some 46, none, .ld 1 false (.t 45), []⟩, ⟨some 47, none, .bin .eql (.t 46) (.c (.c (.i
  .i64 (.ofNat 1)))), []⟩, ⟨some 44, none, .mv (.t 47), []⟩]) (.cond (.t 44) .skip (.reg [⟨some 48, none, .fa 0 (.t 7), []⟩, ⟨some 49, none, .ld 1 false (.t 48), []⟩, ⟨some 50, none, .bin .eql (.t 49)
  (.c (.c (.i .i64 (.ofNat 2)))), []⟩, ⟨some 51, none, .mv (.t 50), []⟩, ⟨some 52, some (51, true), .fa 1 (.t 7), []⟩, ⟨some 53, some (51, true), .ld 1 false (.t 52), []⟩, ⟨some 54, some (51, true),
  .mv (.t 5), []⟩, ⟨some 55, some (51, true), .bin .eql (.t 53) (.t 54), []⟩, ⟨some 56, none, .pk (.t 51) (.t 55) (.c (.c (.b false))), []⟩, ⟨some 44, none, .mv (.t 56), []⟩]))) (.cond (.t 44) (.reg
  [⟨some 5, none, .mv (.c (.c (.s []))), []⟩]) .skip)))))))))))))))))), [(2, none)]⟩

theorem ok21 : FnR Tryz.prog 0 21 cf21 := fnC_ok Tryz.func21 (by kernel_rfl)

def cf22 : CF := ⟨21, .seq (.reg [⟨some 1, none, .new 28 (.t 0), []⟩, ⟨some 2, none, .mv (.c (.c (.i .i64 (.ofNat 0)))), []⟩]) (.seq (.reg [⟨some 3, none, .mv (.c (.c (.i .i64 (.ofNat 1)))), []⟩]) (.seq (.seq (.reg
  [⟨some 4, none, .mv (.c (.c (.i .i64 (.ofNat 0)))), []⟩]) (.blk 0 (.loop [3, 9, 1, 4, 0, 2] (.seq (.seq (.reg [⟨some 5, none, .mv (.t 4), []⟩, ⟨some 6, none, .fa 4 (.t 1), []⟩, ⟨some 7, none, .ld 1
  false (.t 6), []⟩, ⟨some 8, none, .len true (.t 7), []⟩, ⟨some 9, none, .bin .lss (.t 5) (.t 8), []⟩]) (.cond (.t 9) .skip (.exit 0))) (.seq (.blk 1 (.reg [⟨some 12, none, .mv (.t 3), []⟩, ⟨some 13,
  none, .fa 4 (.t 1), []⟩, ⟨some 14, none, .ld 1 false (.t 13), []⟩, ⟨some 15, none, .mv (.t 4), []⟩, ⟨some 16, none, .ia 5 (.t 14) (.t 15), []⟩, ⟨some 17, none, .ld 5 true (.t 16), []⟩, ⟨some 18,
  none, .call 22 [.t 17], []⟩, ⟨some 19, none, .bin .add (.t 12) (.t 18), []⟩, ⟨some 3, none, .mv (.t 19), []⟩])) (.reg [⟨some 10, none, .mv (.t 4), []⟩, ⟨some 11, none, .bin .add (.t 10) (.c (.c (.i
  .i64 (.ofNat 1)))), []⟩, ⟨some 4, none, .mv (.t 11), []⟩])))))) (.seq (.reg [⟨some 20, none, .mv (.t 3), []⟩, ⟨some 2, none, .mv (.t 20), []⟩]) .ret))), [(2, none)]⟩

theorem ok22 : FnR Tryz.prog 0 22 cf22 := fnC_ok Tryz.func22 (by kernel_rfl)

def cf23 : CF := ⟨48, .seq (.reg [⟨some 2, none, .mv (.c (.c (.sl none 0 0 0))), []⟩, ⟨some 3, none, .mv (.c (.c (.b false))), []⟩]) (.seq (.reg [⟨some 7, none, .mv (.t 0), []⟩, ⟨some 8, none, .call 21 [.t 7], []⟩,
  ⟨some 9, none, .call 16 [.t 8], []⟩, ⟨some 6, none, .mv (.t 9), []⟩, ⟨some 10, none, .ext 0 (.t 6), []⟩, ⟨some 11, none, .ext 1 (.t 6), []⟩, ⟨some 4, none, .new 28 (.c (.a [.i .i64 (.ofNat 0), .s [],
  .s [], .sl none 0 0 0, .sl none 0 0 0])), []⟩, ⟨none, none, .st 5 (.t 4) (.t 10), []⟩, ⟨some 5, none, .mv (.t 11), []⟩]) (.seq (.seq (.reg [⟨some 12, none, .mv (.t 5), []⟩, ⟨some 13, none, .bin .neq
  (.t 12) (.c (.c (.i .i64 (.ofNat 0)))), []⟩, ⟨some 14, none, .mv (.t 13), []⟩, ⟨some 15, some (14, false), .fa 4 (.t 4), []⟩, ⟨some 16, some (14, false), .ld 1 false (.t 15), []⟩, ⟨some 17, some (14,
  false), .len true (.t 16), []⟩, ⟨some 18, some (14, false), .bin .neq (.t 17) (.c (.c (.i .i64 (.ofNat 1)))), []⟩, ⟨some 19, none, .pk (.t 14) (.c (.c (.b true))) (.t 18), []⟩, ⟨some 20, none, .mv
  (.t 19), []⟩, ⟨some 21, some (20, false), .fa 4 (.t 4), []⟩, ⟨some 22, some (20, false), .ld 1 false (.t 21), []⟩, ⟨some 23, some (20, false), .ia 5 (.t 22) (.c (.c (.i .i64 (.ofNat 0)))), []⟩, ⟨some
  24, some (20, false), .fa 4 (.t 23), []⟩, ⟨some 25, some (20, false), .ld 1 false (.t 24), []⟩, ⟨some 26, some (20, false), .len true (.t 25), []⟩, ⟨some 27, some (20, false), .bin .neq (.t 26) (.c
  (.c (.i .i64 (.ofNat 2)))), []⟩, ⟨some 28, none, .pk (.t 20) (.c (.c (.b true))) (.t 27), []⟩, ⟨some 29, none, .mv (.t 28), []⟩, ⟨some 30, some (29, false), .fa 4 (.t 4), []⟩, ⟨some 31, some (29,
  false), .ld 1 false (.t 30), []⟩, ⟨some 32, some (29, false), .ia 5 (.t 31) (.c (.c (.i .i64 (.ofNat 0)))), []⟩, ⟨some 33, some (29, false), .fa 4 (.t 32), []⟩, ⟨some 34, some (29, false), .ld 1
  false (.t 33), []⟩, ⟨some 35, some (29, false), .ia 5 (.t 34) (.c (.c (.i .i64 (.ofNat 1)))), []⟩, ⟨some 36, some (29, false), .fa 1 (.t 35), []⟩, ⟨some 37, some (29, false), .ld 1 false (.t 36),
  []⟩, ⟨some 38, some (29, false), .bin .neq (.t 37) (.c (.c (.s [98, 111, 100, 121]))), []⟩, ⟨some 39, none, .pk (.t 29) (.c (.c (.b true))) (.t 38), []⟩]) (.cond (.t 39) (.seq (.reg [⟨some 2, none,
  .mv (.c (.c (.sl none 0 0 0))), []⟩, ⟨some 3, none, .mv (.c (.c (.b false))), []⟩]) .ret) .skip)) (.seq (.reg [⟨some 40, none, .fa 4 (.t 4), []⟩, ⟨some 41, none, .ld 1 false (.t 40), []⟩, ⟨some 42,
  none, .ia 5 (.t 41) (.c (.c (.i .i64 (.ofNat 0)))), []⟩, ⟨some 43, none, .fa 4 (.t 42), []⟩, ⟨some 44, none, .ld 1 false (.t 43), []⟩, ⟨some 45, none, .ia 5 (.t 44) (.c (.c (.i .i64 (.ofNat 1)))),
  []⟩, ⟨some 46, none, .fa 4 (.t 45), []⟩, ⟨some 47, none, .ld 1 false (.t 46), []⟩, ⟨some 2, none, .mv (.t 47), []⟩, ⟨some 3, none, .mv (.c (.c (.b true))), []⟩]) .ret))), [(2, none), (3, none)]⟩

theorem ok23 : FnR Tryz.prog 0 23 cf23 := fnC_ok Tryz.func23 (by kernel_rfl)

def cf24 : CF := ⟨3, .seq (.reg [⟨some 0, none, .mv (.c (.c (.p none))), []⟩]) (.seq (.reg [⟨some 1, none, .bld [.sl none 0 0 0] [], []⟩, ⟨some 2, none, .new 78 (.t 1), []⟩, ⟨some 0, none, .mv (.t 2), []⟩]) .ret),
  [(0, none)]⟩

theorem ok24 : FnR Tryz.prog 0 24 cf24 := fnC_ok Tryz.func24 (by kernel_rfl)

def cf25 : CF := ⟨28, .seq (.reg [⟨some 1, none, .new 56 (.t 0), []⟩, ⟨some 2, none, .mv (.c (.c (.b false))), []⟩]) (.seq (.seq (.reg [⟨some 3, none, .fa 0 (.t 1), []⟩, ⟨some 4, none, .ld 1 false (.t 3), []⟩]) (.blk
  0 (.seq (.reg [⟨some 6, none, .bin .eql (.t 4) (.c (.c (.i .i64 (.ofNat 1)))), []⟩, ⟨some 5, none, .mv (.t 6), []⟩]) (.cond (.t 5) (.seq (.reg [⟨some 7, none, .fa 1 (.t 1), []⟩, ⟨some 8, none, .ld 1
  false (.t 7), []⟩, ⟨some 9, none, .call 36 [.t 8], []⟩, ⟨some 2, none, .mv (.t 9), []⟩]) .ret) (.seq (.reg [⟨some 11, none, .bin .eql (.t 4) (.c (.c (.i .i64 (.ofNat 3)))), []⟩, ⟨some 10, none, .mv
  (.t 11), []⟩]) (.cond (.t 10) (.seq (.reg [⟨some 12, none, .fa 2 (.t 1), []⟩, ⟨some 13, none, .ld 1 false (.t 12), []⟩, ⟨some 14, none, .bin .neq (.t 13) (.c (.c (.s []))), []⟩, ⟨some 2, none, .mv
  (.t 14), []⟩]) .ret) .skip)))))) (.seq (.reg [⟨some 15, none, .fa 0 (.t 1), []⟩, ⟨some 16, none, .ld 1 false (.t 15), []⟩, ⟨some 17, none, .bin .eql (.t 16) (.c (.c (.i .i64 (.ofNat 2)))), []⟩, ⟨some
  18, none, .mv (.t 17), []⟩, ⟨some 19, some (18, false), .fa 0 (.t 1), []⟩, ⟨some 20, some (18, false), .ld 1 false (.t 19), []⟩, ⟨some 21, some (18, false), .bin .eql (.t 20) (.c (.c (.i .i64 (.ofNat
  4)))), []⟩, ⟨some 22, none, .pk (.t 18) (.c (.c (.b true))) (.t 21), []⟩, ⟨some 23, none, .mv (.t 22), []⟩, ⟨some 24, some (23, false), .fa 0 (.t 1), []⟩, ⟨some 25, some (23, false), .ld 1 false (.t
  24), []⟩, ⟨some 26, some (23, false), .bin .eql (.t 25) (.c (.c (.i .i64 (.ofNat 5)))), []⟩, ⟨some 27, none, .pk (.t 23) (.c (.c (.b true))) (.t 26), []⟩, ⟨some 2, none, .mv (.t 27), []⟩]) .ret)),
  [(2, none)]⟩

theorem ok25 : FnR Tryz.prog 0 25 cf25 := fnC_ok Tryz.func25 (by kernel_rfl)

def cf26 : CF := ⟨55, .seq (.reg [⟨some 3, none, .new 56 (.t 1), []⟩]) (.seq (.seq (.reg [⟨some 4, none, .mv (.t 0), []⟩, ⟨some 5, none, .nc (.t 4), []⟩, ⟨some 6, none, .fa 7 (.t 5), []⟩, ⟨some 7, none, .ld 1 false
  (.t 6), []⟩, ⟨some 8, none, .mv (.t 7), []⟩, ⟨some 9, some (8, true), .fa 0 (.t 3), []⟩, ⟨some 10, some (8, true), .ld 1 false (.t 9), []⟩, ⟨some 11, some (8, true), .bin .eql (.t 10) (.c (.c (.i
  .i64 (.ofNat 3)))), []⟩, ⟨some 12, none, .pk (.t 8) (.t 11) (.c (.c (.b false))), []⟩]) (.cond (.t 12) (.reg [⟨some 13, none, .fa 2 (.t 3), []⟩, ⟨some 14, none, .ld 1 false (.t 13), []⟩, ⟨some 15,
  none, .call 37 [.t 14, .c (.c (.s [10]))], []⟩, ⟨some 16, none, .fa 2 (.t 3), []⟩, ⟨none, none, .st 1 (.t 16) (.t 15), []⟩]) .skip)) (.seq (.reg [⟨some 17, none, .mv (.t 0), []⟩, ⟨some 18, none, .fa
  0 (.t 3), []⟩, ⟨some 19, none, .ld 1 false (.t 18), []⟩, ⟨some 20, none, .bin .eql (.t 19) (.c (.c (.i .i64 (.ofNat 1)))), []⟩, ⟨some 21, none, .mv (.t 20), []⟩, ⟨some 22, some (21, true), .fa 1 (.t
  3), []⟩, ⟨some 23, some (21, true), .ld 1 false (.t 22), []⟩, ⟨some 24, some (21, true), .bsl 9 1 3 [.s [], .s [], .s []] [(0, (1, .c (.c (.s [116, 101, 120, 116, 97, 114, 101, 97])))), (1, (1, .c
  (.c (.s [112, 114, 101])))), (2, (1, .c (.c (.s [108, 105, 115, 116, 105, 110, 103]))))], []⟩, ⟨some 25, some (21, true), .call 38 [.t 23, .t 24], []⟩, ⟨some 26, none, .pk (.t 21) (.t 25) (.c (.c (.b
  false))), []⟩, ⟨some 27, none, .nc (.t 17), []⟩, ⟨some 28, none, .fa 7 (.t 27), []⟩, ⟨none, none, .st 1 (.t 28) (.t 26), []⟩]) (.seq (.seq (.reg [⟨some 29, none, .fa 0 (.t 3), []⟩, ⟨some 30, none,
  .ld 1 false (.t 29), []⟩, ⟨some 31, none, .bin .eql (.t 30) (.c (.c (.i .i64 (.ofNat 3)))), []⟩, ⟨some 32, none, .mv (.t 31), []⟩, ⟨some 33, some (32, true), .fa 2 (.t 3), []⟩, ⟨some 34, some (32,
  true), .ld 1 false (.t 33), []⟩, ⟨some 35, some (32, true), .bin .eql (.t 34) (.c (.c (.s []))), []⟩, ⟨some 36, none, .pk (.t 32) (.t 35) (.c (.c (.b false))), []⟩]) (.cond (.t 36) .ret .skip)) (.seq
  (.reg [⟨some 37, none, .fa 3 (.t 3), []⟩, ⟨some 38, none, .ld 1 false (.t 37), []⟩, ⟨some 39, none, .call 40 [.t 38], []⟩, ⟨some 40, none, .call 39 [.t 39, .c (.c (.f 41 []))], []⟩, ⟨some 41, none,
  .fa 3 (.t 3), []⟩, ⟨none, none, .st 1 (.t 41) (.t 40), []⟩]) (.seq (.blk 0 (.loop [51, 36, 12, 3, 0, 1] (.seq (.seq (.reg [⟨some 42, none, .mv (.t 0), []⟩, ⟨some 43, none, .nc (.t 42), []⟩, ⟨some 44,
  none, .fa 2 (.t 43), []⟩, ⟨some 45, none, .ld 1 false (.t 44), []⟩, ⟨some 46, none, .bin .leq (.t 45) (.c (.c (.i .i64 (.ofNat 300)))), []⟩, ⟨some 47, none, .mv (.t 46), []⟩, ⟨some 48, some (47,
  true), .mv (.t 0), []⟩, ⟨some 49, some (47, true), .ld 5 true (.t 3), []⟩, ⟨some 50, some (47, true), .call 42 [.t 48, .t 49], []⟩, ⟨some 51, none, .pk (.t 47) (.t 50) (.c (.c (.b false))), []⟩])
  (.cond (.t 51) .skip (.exit 0))) (.blk 1 .skip)))) (.reg [⟨some 52, none, .mv (.t 0), []⟩, ⟨some 53, none, .nc (.t 52), []⟩, ⟨some 54, none, .fa 6 (.t 53), []⟩, ⟨none, none, .st 1 (.t 54) (.c (.c (.b
  false))), []⟩])))))), []⟩

theorem ok26 : FnR Tryz.prog 0 26 cf26 := fnC_ok Tryz.func26 (by kernel_rfl)

def cf27 : CF := ⟨41, .seq (.reg [⟨some 2, none, .new 28 (.c (.a [.i .i64 (.ofNat 0), .s [], .s [], .sl none 0 0 0, .sl none 0 0 0])), []⟩]) (.seq (.dreg [⟨some 6, none, .mv (.t 0), []⟩, ⟨some 7, none, .nc (.t 6),
  []⟩, ⟨some 8, none, .fa 1 (.t 7), []⟩, ⟨some 9, none, .ld 1 false (.t 8), []⟩, ⟨some 10, none, .mv (.t 0), []⟩, ⟨some 11, none, .nc (.t 10), []⟩, ⟨some 12, none, .fa 2 (.t 11), []⟩, ⟨some 13, none,
  .ld 1 false (.t 12), []⟩, ⟨some 14, none, .mv (.t 0), []⟩, ⟨some 15, none, .nc (.t 14), []⟩, ⟨some 16, none, .fa 3 (.t 15), []⟩, ⟨some 17, none, .ld 1 false (.t 16), []⟩, ⟨some 18, none, .mv (.t 0),
  []⟩, ⟨some 19, none, .nc (.t 18), []⟩, ⟨some 20, none, .fa 4 (.t 19), []⟩, ⟨some 21, none, .ld 1 false (.t 20), []⟩, ⟨some 22, none, .bld [.i .i64 (.ofNat 0), .s [], .s [], .sl none 0 0 0, .sl none 0
  0 0] [(0, (1, .t 9)), (1, (1, .t 13)), (2, (1, .t 17)), (3, (1, .t 21))], []⟩, ⟨some 3, none, .new 28 (.c (.a [.i .i64 (.ofNat 0), .s [], .s [], .sl none 0 0 0, .sl none 0 0 0])), []⟩, ⟨none, none,
  .st 5 (.t 3) (.t 22), []⟩]) (.seq (.seq (.reg [⟨some 23, none, .mv (.t 0), []⟩, ⟨some 24, none, .nc (.t 23), []⟩, ⟨some 25, none, .fa 6 (.t 24), []⟩, ⟨some 26, none, .ld 1 false (.t 25), []⟩, ⟨some
  27, none, .len true (.t 26), []⟩, ⟨some 28, none, .mv (.c (.c (.i .i64 (.ofNat 0)))), []⟩]) (.blk 0 (.loop [5, 3, 26, 29, 28, 27, 0, 2] (.seq (.reg [⟨some 29, none, .bin .lss (.t 28) (.t 27), []⟩])
  (.seq (.cond (.t 29) .skip (.exit 0)) (.seq (.blk 1 (.seq (.reg [⟨some 30, none, .ia 1 (.t 26) (.t 28), []⟩, ⟨some 31, none, .ld 1 false (.t 30), []⟩, ⟨some 5, none, .mv (.t 31), []⟩]) (.dreg [⟨some
  32, none, .fa 4 (.t 3), []⟩, ⟨some 33, none, .ld 1 false (.t 32), []⟩, ⟨some 34, none, .mv (.t 5), []⟩, ⟨some 35, none, .call 27 [.t 34], [⟨some 33, none, .ld 1 false (.t 32)⟩]⟩, ⟨some 36, none, .bsl
  28 5 1 [.i .i64 (.ofNat 0), .s [], .s [], .sl none 0 0 0, .sl none 0 0 0] [(0, (5, .t 35))], []⟩, ⟨some 37, none, .app 28 5 false (.t 33) (.t 36), []⟩, ⟨some 38, none, .fa 4 (.t 3), []⟩, ⟨none, none,
  .st 1 (.t 38) (.t 37), []⟩]))) (.reg [⟨some 39, none, .bin .add (.t 28) (.c (.c (.i .i64 (.ofNat 1)))), []⟩, ⟨some 28, none, .mv (.t 39), []⟩]))))))) (.seq (.reg [⟨some 40, none, .ld 5 true (.t 3),
  []⟩, ⟨none, none, .st 5 (.t 2) (.t 40), []⟩]) .ret))), [(2, some (5, true))]⟩

theorem ok27 : FnR Tryz.prog 0 27 cf27 := fnC_ok Tryz.func27 (by kernel_rfl)

def cf28 : CF := ⟨34, .seq (.reg [⟨some 1, none, .new 28 (.t 0), []⟩, ⟨some 2, none, .mv (.c (.c (.b false))), []⟩]) (.seq (.reg [⟨some 3, none, .fa 0 (.t 1), []⟩, ⟨some 4, none, .ld 1 false (.t 3), []⟩, ⟨some 5,
  none, .bin .eql (.t 4) (.c (.c (.i .i64 (.ofNat 1)))), []⟩, ⟨some 6, none, .mv (.t 5), []⟩, ⟨some 7, some (6, true), .ld 5 true (.t 1), []⟩, ⟨some 8, some (6, true), .call 43 [.t 7], []⟩, ⟨some 9,
  some (6, true), .bin .leq (.t 8) (.c (.c (.i .i64 (.ofNat 300)))), []⟩, ⟨some 10, none, .pk (.t 6) (.t 9) (.c (.c (.b false))), []⟩, ⟨some 11, none, .mv (.t 10), []⟩, ⟨some 12, some (11, true), .ld 5
  true (.t 1), []⟩, ⟨some 13, some (11, true), .call 44 [.t 12], []⟩, ⟨some 14, some (11, true), .bin .leq (.t 13) (.c (.c (.i .i64 (.ofNat 60)))), []⟩, ⟨some 15, none, .pk (.t 11) (.t 14) (.c (.c (.b
  false))), []⟩, ⟨some 16, none, .mv (.t 15), []⟩, ⟨some 17, some (16, true), .fa 1 (.t 1), []⟩, ⟨some 18, some (16, true), .ld 1 false (.t 17), []⟩, ⟨some 19, some (16, true), .fa 2 (.t 1), []⟩, ⟨some
  20, some (16, true), .ld 1 false (.t 19), []⟩, ⟨some 21, some (16, true), .bsl 9 1 2 [.s [], .s []] [(0, (1, .t 18)), (1, (1, .t 20))], []⟩, ⟨some 22, some (16, true), .call 45 [.t 21], []⟩, ⟨some
  23, none, .pk (.t 16) (.t 22) (.c (.c (.b false))), []⟩, ⟨some 24, none, .mv (.t 23), []⟩, ⟨some 25, some (24, true), .fa 3 (.t 1), []⟩, ⟨some 26, some (24, true), .ld 1 false (.t 25), []⟩, ⟨some 27,
  some (24, true), .len true (.t 26), []⟩, ⟨some 28, some (24, true), .bin .eql (.t 27) (.c (.c (.i .i64 (.ofNat 0)))), []⟩, ⟨some 29, none, .pk (.t 24) (.t 28) (.c (.c (.b false))), []⟩, ⟨some 30,
  none, .mv (.t 29), []⟩, ⟨some 31, some (30, true), .ld 5 true (.t 1), []⟩, ⟨some 32, some (30, true), .call 46 [.t 31], []⟩, ⟨some 33, none, .pk (.t 30) (.t 32) (.c (.c (.b false))), []⟩, ⟨some 2,
  none, .mv (.t 33), []⟩]) .ret), [(2, none)]⟩

theorem ok28 : FnR Tryz.prog 0 28 cf28 := fnC_ok Tryz.func28 (by kernel_rfl)

def cf33 : CF := ⟨59, .seq (.reg [⟨some 2, none, .mv (.c (.c (.s []))), []⟩]) (.seq (.reg [⟨some 3, none, .mv (.c (.c (.s []))), []⟩]) (.seq (.seq (.reg [⟨some 4, none, .mv (.c (.c (.i .i64 (.ofNat 0)))), []⟩]) (.blk
  0 (.loop [54, 36, 3, 25, 6, 10, 4, 0, 2] (.seq (.seq (.reg [⟨some 7, none, .mv (.t 4), []⟩, ⟨some 8, none, .mv (.t 0), []⟩, ⟨some 9, none, .len false (.t 8), []⟩, ⟨some 10, none, .bin .lss (.t 7) (.t
  9), []⟩]) (.cond (.t 10) .skip (.exit 0))) (.blk 1 (.seq (.reg [⟨some 12, none, .mv (.t 0), []⟩, ⟨some 13, none, .mv (.t 4), []⟩, ⟨some 14, none, .call 50 [.t 12, .t 13], []⟩, ⟨some 11, none, .mv (.t
  14), []⟩, ⟨some 15, none, .ext 0 (.t 11), []⟩, ⟨some 16, none, .ext 1 (.t 11), []⟩, ⟨some 5, none, .mv (.t 15), []⟩, ⟨some 6, none, .mv (.t 16), []⟩]) (.seq (.blk 2 (.seq (.reg [⟨some 26, none, .mv
  (.t 6), []⟩, ⟨some 27, none, .bin .eql (.t 26) (.c (.c (.i .i64 (.ofNat 0)))), []⟩, ⟨some 28, none, .mv (.t 27), []⟩, ⟨some 29, some (28, false), .mv (.t 0), []⟩, ⟨some 30, some (28, false), .mv (.t
  4), []⟩, ⟨some 31, some (28, false), .sx (.t 29) (.t 30), []⟩, ⟨some 32, some (28, false), .bin .eql (.t 31) (.c (.c (.i .u8 (.ofNat 0)))), []⟩, ⟨some 33, none, .pk (.t 28) (.c (.c (.b true))) (.t
  32), []⟩, ⟨some 25, none, .mv (.t 33), []⟩]) (.cond (.t 25) (.seq (.reg [⟨some 34, none, .mv (.t 3), []⟩, ⟨some 35, none, .bin .add (.t 34) (.c (.c (.s [239, 191, 189]))), []⟩, ⟨some 3, none, .mv (.t
  35), []⟩]) (.reg [⟨some 6, none, .mv (.c (.c (.i .i64 (.ofNat 1)))), []⟩])) (.seq (.reg [⟨some 37, none, .mv (.t 0), []⟩, ⟨some 38, none, .mv (.t 4), []⟩, ⟨some 39, none, .sx (.t 37) (.t 38), []⟩,
  ⟨some 40, none, .bin .eql (.t 39) (.c (.c (.i .u8 (.ofNat 13)))), []⟩, ⟨some 36, none, .mv (.t 40), []⟩]) (.cond (.t 36) (.seq (.reg [⟨some 41, none, .mv (.t 3), []⟩, ⟨some 42, none, .bin .add (.t
  41) (.c (.c (.s [10]))), []⟩, ⟨some 3, none, .mv (.t 42), []⟩]) (.seq (.reg [⟨some 43, none, .mv (.t 4), []⟩, ⟨some 44, none, .bin .add (.t 43) (.c (.c (.i .i64 (.ofNat 1)))), []⟩, ⟨some 45, none,
  .mv (.t 0), []⟩, ⟨some 46, none, .len false (.t 45), []⟩, ⟨some 47, none, .bin .lss (.t 44) (.t 46), []⟩, ⟨some 48, none, .mv (.t 47), []⟩, ⟨some 49, some (48, true), .mv (.t 0), []⟩, ⟨some 50, some
  (48, true), .mv (.t 4), []⟩, ⟨some 51, some (48, true), .bin .add (.t 50) (.c (.c (.i .i64 (.ofNat 1)))), []⟩, ⟨some 52, some (48, true), .sx (.t 49) (.t 51), []⟩, ⟨some 53, some (48, true), .bin
  .eql (.t 52) (.c (.c (.i .u8 (.ofNat 10)))), []⟩, ⟨some 54, none, .pk (.t 48) (.t 53) (.c (.c (.b false))), []⟩]) (.cond (.t 54) (.reg [⟨some 6, none, .mv (.c (.c (.i .i64 (.ofNat 2)))), []⟩])
  .skip))) (.reg [⟨some 17, none, .mv (.t 3), []⟩, ⟨some 18, none, .mv (.t 0), []⟩, ⟨some 19, none, .mv (.t 4), []⟩, ⟨some 20, none, .mv (.t 4), []⟩, ⟨some 21, none, .mv (.t 6), []⟩, ⟨some 22, none,
  .bin .add (.t 20) (.t 21), []⟩, ⟨some 23, none, .sls (.t 18) (some (.t 19)) (some (.t 22)), []⟩, ⟨some 24, none, .bin .add (.t 17) (.t 23), []⟩, ⟨some 3, none, .mv (.t 24), []⟩])))))) (.reg [⟨some
  55, none, .mv (.t 4), []⟩, ⟨some 56, none, .mv (.t 6), []⟩, ⟨some 57, none, .bin .add (.t 55) (.t 56), []⟩, ⟨some 4, none, .mv (.t 57), []⟩])))))))) (.seq (.reg [⟨some 58, none, .mv (.t 3), []⟩,
  ⟨some 2, none, .mv (.t 58), []⟩]) .ret))), [(2, none)]⟩

theorem ok33 : FnR Tryz.prog 0 33 cf33 := fnC_ok Tryz.func33 (by kernel_rfl)

end

end Ev
end

section
namespace Ev

set_option autoImplicit false

noncomputable section

def cf34 : CF := ⟨160, .seq (.reg [⟨some 6, none, .new 56 (.c (.a [.i .i64 (.ofNat 0), .s [], .s [], .sl none 0 0 0, .b false])), []⟩, ⟨some 7, none, .mv (.c (.c (.i .i64 (.ofNat 0)))), []⟩, ⟨some 8, none, .mv (.c
  (.c (.b false))), []⟩]) (.seq (.seq (.reg [⟨some 12, none, .mv (.t 1), []⟩, ⟨some 13, none, .bin .lss (.t 12) (.c (.c (.i .i64 (.ofNat 0)))), []⟩, ⟨some 14, none, .mv (.t 13), []⟩, ⟨some 15, some
  (14, false), .mv (.t 1), []⟩, ⟨some 16, some (14, false), .mv (.t 0), []⟩, ⟨some 17, some (14, false), .len false (.t 16), []⟩, ⟨some 18, some (14, false), .bin .geq (.t 15) (.t 17), []⟩, ⟨some 19,
  none, .pk (.t 14) (.c (.c (.b true))) (.t 18), []⟩]) (.cond (.t 19) (.seq (.reg [⟨some 20, none, .bld [.i .i64 (.ofNat 0), .s [], .s [], .sl none 0 0 0, .b false] [(0, (1, .c (.c (.i .i64 (.ofNat
  6)))))], []⟩, ⟨some 21, none, .mv (.t 0), []⟩, ⟨some 22, none, .len false (.t 21), []⟩, ⟨none, none, .st 5 (.t 6) (.t 20), []⟩, ⟨some 7, none, .mv (.t 22), []⟩, ⟨some 8, none, .mv (.c (.c (.b
  true))), []⟩]) .ret) .skip)) (.seq (.seq (.reg [⟨some 23, none, .mv (.t 2), []⟩, ⟨some 24, none, .bin .neq (.t 23) (.c (.c (.s []))), []⟩]) (.cond (.t 24) (.seq (.reg [⟨some 25, none, .mv (.t 2),
  []⟩, ⟨some 26, none, .call 51 [.t 25], []⟩, ⟨some 9, none, .mv (.t 26), []⟩]) (.seq (.reg [⟨some 27, none, .mv (.t 1), []⟩, ⟨some 10, none, .mv (.t 27), []⟩]) (.seq (.blk 0 (.loop [146, 125, 118,
  107, 96, 79, 67, 56, 11, 50, 43, 38, 9, 10, 24, 19, 0, 1, 2, 6, 7, 8] (.seq (.seq (.reg [⟨some 28, none, .mv (.t 10), []⟩, ⟨some 29, none, .mv (.t 0), []⟩, ⟨some 30, none, .len false (.t 29), []⟩,
  ⟨some 31, none, .bin .lss (.t 28) (.t 30), []⟩, ⟨some 32, none, .mv (.t 31), []⟩, ⟨some 33, some (32, true), .mv (.t 0), []⟩, ⟨some 34, some (32, true), .mv (.t 10), []⟩, ⟨some 35, some (32, true),
  .mv (.t 9), []⟩, ⟨some 36, some (32, true), .call 52 [.t 33, .t 34, .t 35], []⟩, ⟨some 37, some (32, true), .un .not (.t 36), []⟩, ⟨some 38, none, .pk (.t 32) (.t 37) (.c (.c (.b false))), []⟩])
  (.cond (.t 38) .skip (.exit 0))) (.blk 1 (.reg [⟨some 39, none, .mv (.t 10), []⟩, ⟨some 40, none, .bin .add (.t 39) (.c (.c (.i .i64 (.ofNat 1)))), []⟩, ⟨some 10, none, .mv (.t 40), []⟩]))))) (.seq
  (.reg [⟨some 41, none, .mv (.t 10), []⟩, ⟨some 42, none, .mv (.t 1), []⟩, ⟨some 43, none, .bin .gtr (.t 41) (.t 42), []⟩]) (.cond (.t 43) (.seq (.reg [⟨some 44, none, .mv (.t 0), []⟩, ⟨some 45, none,
  .mv (.t 1), []⟩, ⟨some 46, none, .mv (.t 10), []⟩, ⟨some 47, none, .sls (.t 44) (some (.t 45)) (some (.t 46)), []⟩, ⟨some 11, none, .mv (.t 47), []⟩]) (.seq (.seq (.reg [⟨some 48, none, .mv (.t 9),
  []⟩, ⟨some 49, none, .call 35 [.t 48], []⟩, ⟨some 50, none, .bin .eql (.t 49) (.c (.c (.i .i64 (.ofNat 1)))), []⟩]) (.cond (.t 50) (.reg [⟨some 51, none, .mv (.t 11), []⟩, ⟨some 52, none, .call 53
  [.t 51, .c (.c (.b false))], []⟩, ⟨some 11, none, .mv (.t 52), []⟩]) .skip)) (.seq (.reg [⟨some 53, none, .mv (.t 11), []⟩, ⟨some 54, none, .bld [.i .i64 (.ofNat 0), .s [], .s [], .sl none 0 0 0, .b
  false] [(0, (1, .c (.c (.i .i64 (.ofNat 3))))), (2, (1, .t 53)), (4, (1, .c (.c (.b true))))], []⟩, ⟨some 55, none, .mv (.t 10), []⟩, ⟨none, none, .st 5 (.t 6) (.t 54), []⟩, ⟨some 7, none, .mv (.t
  55), []⟩, ⟨some 8, none, .mv (.c (.c (.b true))), []⟩]) .ret))) .skip))))) .skip)) (.seq (.blk 2 (.seq (.reg [⟨some 57, none, .mv (.t 0), []⟩, ⟨some 58, none, .mv (.t 1), []⟩, ⟨some 59, none, .sx (.t
  57) (.t 58), []⟩, ⟨some 60, none, .bin .neq (.t 59) (.c (.c (.i .u8 (.ofNat 60)))), []⟩, ⟨some 56, none, .mv (.t 60), []⟩]) (.cond (.t 56) (.seq (.reg [⟨some 61, none, .mv (.t 0), []⟩, ⟨some 62,
  none, .mv (.t 1), []⟩, ⟨some 63, none, .call 54 [.t 61, .t 62], []⟩, ⟨some 64, none, .ext 0 (.t 63), []⟩, ⟨some 65, none, .ext 1 (.t 63), []⟩, ⟨some 66, none, .ext 2 (.t 63), []⟩, ⟨none, none, .st 5
  (.t 6) (.t 64), []⟩, ⟨some 7, none, .mv (.t 65), []⟩, ⟨some 8, none, .mv (.t 66), []⟩]) .ret) (.seq (.reg [⟨some 68, none, .mv (.t 0), []⟩, ⟨some 69, none, .mv (.t 1), []⟩, ⟨some 70, none, .bin .add
  (.t 69) (.c (.c (.i .i64 (.ofNat 1)))), []⟩, ⟨some 71, none, .call 55 [.t 68, .t 70], []⟩, ⟨some 67, none, .mv (.t 71), []⟩]) (.cond (.t 67) (.seq (.reg [⟨some 72, none, .mv (.t 0), []⟩, ⟨some 73,
  none, .mv (.t 1), []⟩, ⟨some 74, none, .bin .add (.t 73) (.c (.c (.i .i64 (.ofNat 1)))), []⟩, ⟨some 75, none, .call 56 [.t 72, .t 74, .c (.c (.i .i64 (.ofNat 1)))], []⟩, ⟨some 76, none, .ext 0 (.t
  75), []⟩, ⟨some 77, none, .ext 1 (.t 75), []⟩, ⟨some 78, none, .ext 2 (.t 75), []⟩, ⟨none, none, .st 5 (.t 6) (.t 76), []⟩, ⟨some 7, none, .mv (.t 77), []⟩, ⟨some 8, none, .mv (.t 78), []⟩]) .ret)
  (.seq (.reg [⟨some 80, none, .mv (.t 0), []⟩, ⟨some 81, none, .mv (.t 1), []⟩, ⟨some 82, none, .call 57 [.t 80, .t 81, .c (.c (.s [60, 47]))], []⟩, ⟨some 83, none, .mv (.t 82), []⟩, ⟨some 84, some
  (83, true), .mv (.t 0), []⟩, ⟨some 85, some (83, true), .mv (.t 1), []⟩, ⟨some 86, some (83, true), .bin .add (.t 85) (.c (.c (.i .i64 (.ofNat 2)))), []⟩, ⟨some 87, some (83, true), .call 55 [.t 84,
  .t 86], []⟩, ⟨some 88, none, .pk (.t 83) (.t 87) (.c (.c (.b false))), []⟩, ⟨some 79, none, .mv (.t 88), []⟩]) (.cond (.t 79) (.seq (.reg [⟨some 89, none, .mv (.t 0), []⟩, ⟨some 90, none, .mv (.t 1),
  []⟩, ⟨some 91, none, .bin .add (.t 90) (.c (.c (.i .i64 (.ofNat 2)))), []⟩, ⟨some 92, none, .call 56 [.t 89, .t 91, .c (.c (.i .i64 (.ofNat 2)))], []⟩, ⟨some 93, none, .ext 0 (.t 92), []⟩, ⟨some 94,
  none, .ext 1 (.t 92), []⟩, ⟨some 95, none, .ext 2 (.t 92), []⟩, ⟨none, none, .st 5 (.t 6) (.t 93), []⟩, ⟨some 7, none, .mv (.t 94), []⟩, ⟨some 8, none, .mv (.t 95), []⟩]) .ret) (.seq (.reg [⟨some 97,
  none, .mv (.t 0), []⟩, ⟨some 98, none, .mv (.t 1), []⟩, ⟨some 99, none, .call 57 [.t 97, .t 98, .c (.c (.s [60, 33, 45, 45]))], []⟩, ⟨some 96, none, .mv (.t 99), []⟩]) (.cond (.t 96) (.seq (.reg
  [⟨some 100, none, .mv (.t 0), []⟩, ⟨some 101, none, .mv (.t 1), []⟩, ⟨some 102, none, .bin .add (.t 101) (.c (.c (.i .i64 (.ofNat 4)))), []⟩, ⟨some 103, none, .call 58 [.t 100, .t 102], []⟩, ⟨some
  104, none, .ext 0 (.t 103), []⟩, ⟨some 105, none, .ext 1 (.t 103), []⟩, ⟨some 106, none, .ext 2 (.t 103), []⟩, ⟨none, none, .st 5 (.t 6) (.t 104), []⟩, ⟨some 7, none, .mv (.t 105), []⟩, ⟨some 8,
  none, .mv (.t 106), []⟩]) .ret) (.seq (.reg [⟨some 108, none, .mv (.t 0), []⟩, ⟨some 109, none, .mv (.t 1), []⟩, ⟨some 110, none, .call 57 [.t 108, .t 109, .c (.c (.s [60, 33, 100, 111, 99, 116, 121,
  112, 101]))], []⟩, ⟨some 107, none, .mv (.t 110), []⟩]) (.cond (.t 107) (.seq (.reg [⟨some 111, none, .mv (.t 0), []⟩, ⟨some 112, none, .mv (.t 1), []⟩, ⟨some 113, none, .bin .add (.t 112) (.c (.c
  (.i .i64 (.ofNat 9)))), []⟩, ⟨some 114, none, .call 59 [.t 111, .t 113], []⟩, ⟨some 115, none, .ext 0 (.t 114), []⟩, ⟨some 116, none, .ext 1 (.t 114), []⟩, ⟨some 117, none, .ext 2 (.t 114), []⟩,
  ⟨none, none, .st 5 (.t 6) (.t 115), []⟩, ⟨some 7, none, .mv (.t 116), []⟩, ⟨some 8, none, .mv (.t 117), []⟩]) .ret) (.seq (.reg [⟨some 119, none, .mv (.t 0), []⟩, ⟨some 120, none, .mv (.t 1), []⟩,
  ⟨some 121, none, .call 57 [.t 119, .t 120, .c (.c (.s [60, 47, 62]))], []⟩, ⟨some 118, none, .mv (.t 121), []⟩]) (.cond (.t 118) (.seq (.reg [⟨some 122, none, .bld [.i .i64 (.ofNat 0), .s [], .s [],
  .sl none 0 0 0, .b false] [], []⟩, ⟨some 123, none, .mv (.t 1), []⟩, ⟨some 124, none, .bin .add (.t 123) (.c (.c (.i .i64 (.ofNat 3)))), []⟩, ⟨none, none, .st 5 (.t 6) (.t 122), []⟩, ⟨some 7, none,
  .mv (.t 124), []⟩, ⟨some 8, none, .mv (.c (.c (.b false))), []⟩]) .ret) (.seq (.seq (.reg [⟨some 126, none, .mv (.t 0), []⟩, ⟨some 127, none, .mv (.t 1), []⟩, ⟨some 128, none, .call 57 [.t 126, .t
  127, .c (.c (.s [60, 33]))], []⟩, ⟨some 125, none, .mv (.t 128), []⟩]) (.cond (.t 125) .skip (.reg [⟨some 129, none, .mv (.t 0), []⟩, ⟨some 130, none, .mv (.t 1), []⟩, ⟨some 131, none, .call 57 [.t
  129, .t 130, .c (.c (.s [60, 47]))], []⟩, ⟨some 132, none, .mv (.t 131), []⟩, ⟨some 133, some (132, true), .mv (.t 1), []⟩, ⟨some 134, some (132, true), .bin .add (.t 133) (.c (.c (.i .i64 (.ofNat
  2)))), []⟩, ⟨some 135, some (132, true), .mv (.t 0), []⟩, ⟨some 136, some (132, true), .len false (.t 135), []⟩, ⟨some 137, some (132, true), .bin .lss (.t 134) (.t 136), []⟩, ⟨some 138, none, .pk
  (.t 132) (.t 137) (.c (.c (.b false))), []⟩, ⟨some 125, none, .mv (.t 138), []⟩]))) (.cond (.t 125) (.seq (.reg [⟨some 139, none, .mv (.t 0), []⟩, ⟨some 140, none, .mv (.t 1), []⟩, ⟨some 141, none,
  .bin .add (.t 140) (.c (.c (.i .i64 (.ofNat 2)))), []⟩, ⟨some 142, none, .call 60 [.t 139, .t 141], []⟩, ⟨some 143, none, .ext 0 (.t 142), []⟩, ⟨some 144, none, .ext 1 (.t 142), []⟩, ⟨some 145, none,
  .ext 2 (.t 142), []⟩, ⟨none, none, .st 5 (.t 6) (.t 143), []⟩, ⟨some 7, none, .mv (.t 144), []⟩, ⟨some 8, none, .mv (.t 145), []⟩]) .ret) (.seq (.reg [⟨some 147, none, .mv (.t 0), []⟩, ⟨some 148,
  none, .mv (.t 1), []⟩, ⟨some 149, none, .call 57 [.t 147, .t 148, .c (.c (.s [60, 63]))], []⟩, ⟨some 146, none, .mv (.t 149), []⟩]) (.cond (.t 146) (.seq (.reg [⟨some 150, none, .mv (.t 0), []⟩,
  ⟨some 151, none, .mv (.t 1), []⟩, ⟨some 152, none, .bin .add (.t 151) (.c (.c (.i .i64 (.ofNat 1)))), []⟩, ⟨some 153, none, .call 60 [.t 150, .t 152], []⟩, ⟨some 154, none, .ext 0 (.t 153), []⟩,
  ⟨some 155, none, .ext 1 (.t 153), []⟩, ⟨some 156, none, .ext 2 (.t 153), []⟩, ⟨none, none, .st 5 (.t 6) (.t 154), []⟩, ⟨some 7, none, .mv (.t 155), []⟩, ⟨some 8, none, .mv (.t 156), []⟩]) .ret)
  .skip))))))))))))))))) (.seq (.reg [⟨some 157, none, .bld [.i .i64 (.ofNat 0), .s [], .s [], .sl none 0 0 0, .b false] [(0, (1, .c (.c (.i .i64 (.ofNat 3))))), (2, (1, .c (.c (.s [60]))))], []⟩,
  ⟨some 158, none, .mv (.t 1), []⟩, ⟨some 159, none, .bin .add (.t 158) (.c (.c (.i .i64 (.ofNat 1)))), []⟩, ⟨none, none, .st 5 (.t 6) (.t 157), []⟩, ⟨some 7, none, .mv (.t 159), []⟩, ⟨some 8, none,
  .mv (.c (.c (.b true))), []⟩]) .ret)))), [(6, some (5, true)), (7, none), (8, none)]⟩

theorem ok34 : FnR Tryz.prog 0 34 cf34 := fnC_ok Tryz.func34 (by kernel_rfl)

def cf35 : CF := ⟨14, .seq (.reg [⟨some 2, none, .mv (.c (.c (.i .i64 (.ofNat 0)))), []⟩]) (.seq (.seq (.reg [⟨some 3, none, .mv (.t 0), []⟩]) (.blk 0 (.seq (.seq (.reg [⟨some 5, none, .bin .eql (.t 3) (.c (.c (.s
  [116, 105, 116, 108, 101]))), []⟩, ⟨some 4, none, .mv (.t 5), []⟩]) (.cond (.t 4) .skip (.reg [⟨some 6, none, .bin .eql (.t 3) (.c (.c (.s [116, 101, 120, 116, 97, 114, 101, 97]))), []⟩, ⟨some 4,
  none, .mv (.t 6), []⟩]))) (.cond (.t 4) (.seq (.reg [⟨some 2, none, .mv (.c (.c (.i .i64 (.ofNat 1)))), []⟩]) .ret) (.seq (.seq (.reg [⟨some 8, none, .bin .eql (.t 3) (.c (.c (.s [115, 116, 121, 108,
  101]))), []⟩, ⟨some 7, none, .mv (.t 8), []⟩]) (.cond (.t 7) .skip (.seq (.reg [⟨some 9, none, .bin .eql (.t 3) (.c (.c (.s [115, 99, 114, 105, 112, 116]))), []⟩, ⟨some 7, none, .mv (.t 9), []⟩])
  (.cond (.t 7) .skip (.seq (.reg [⟨some 10, none, .bin .eql (.t 3) (.c (.c (.s [120, 109, 112]))), []⟩, ⟨some 7, none, .mv (.t 10), []⟩]) (.cond (.t 7) .skip (.seq (.reg [⟨some 11, none, .bin .eql (.t
  3) (.c (.c (.s [105, 102, 114, 97, 109, 101]))), []⟩, ⟨some 7, none, .mv (.t 11), []⟩]) (.cond (.t 7) .skip (.seq (.reg [⟨some 12, none, .bin .eql (.t 3) (.c (.c (.s [110, 111, 101, 109, 98, 101,
  100]))), []⟩, ⟨some 7, none, .mv (.t 12), []⟩]) (.cond (.t 7) .skip (.reg [⟨some 13, none, .bin .eql (.t 3) (.c (.c (.s [110, 111, 102, 114, 97, 109, 101, 115]))), []⟩, ⟨some 7, none, .mv (.t 13),
  []⟩]))))))))))) (.cond (.t 7) (.seq (.reg [⟨some 2, none, .mv (.c (.c (.i .i64 (.ofNat 2)))), []⟩]) .ret) .skip)))))) (.seq (.reg [⟨some 2, none, .mv (.c (.c (.i .i64 (.ofNat 0)))), []⟩]) .ret)),
  [(2, none)]⟩

theorem ok35 : FnR Tryz.prog 0 35 cf35 := fnC_ok Tryz.func35 (by kernel_rfl)

def cf36 : CF := ⟨40, .seq (.reg [⟨some 2, none, .mv (.c (.c (.b false))), []⟩]) (.seq (.seq (.reg [⟨some 5, none, .mv (.t 0), []⟩, ⟨some 6, none, .bin .eql (.t 5) (.c (.c (.s []))), []⟩, ⟨some 7, none, .mv (.t 6),
  []⟩, ⟨some 8, some (7, false), .mv (.t 0), []⟩, ⟨some 9, some (7, false), .len false (.t 8), []⟩, ⟨some 10, some (7, false), .bin .gtr (.t 9) (.c (.c (.i .i64 (.ofNat 32)))), []⟩, ⟨some 11, none, .pk
  (.t 7) (.c (.c (.b true))) (.t 10), []⟩]) (.cond (.t 11) (.seq (.reg [⟨some 2, none, .mv (.c (.c (.b false))), []⟩]) .ret) .skip)) (.seq (.seq (.reg [⟨some 12, none, .mv (.t 0), []⟩, ⟨some 13, none,
  .len false (.t 12), []⟩, ⟨some 14, none, .mv (.c (.c (.i .i64 (.ofNat 0)))), []⟩]) (.blk 0 (.loop [26, 27, 20, 4, 3, 15, 14, 13, 11, 0, 2] (.seq (.reg [⟨some 15, none, .bin .lss (.t 14) (.t 13),
  []⟩]) (.seq (.cond (.t 15) .skip (.exit 0)) (.seq (.blk 1 (.seq (.reg [⟨some 16, none, .mv (.t 14), []⟩, ⟨some 3, none, .mv (.t 16), []⟩]) (.seq (.reg [⟨some 17, none, .mv (.t 0), []⟩, ⟨some 18,
  none, .mv (.t 3), []⟩, ⟨some 19, none, .sx (.t 17) (.t 18), []⟩, ⟨some 4, none, .mv (.t 19), []⟩]) (.seq (.reg [⟨some 20, none, .mv (.t 4), []⟩]) (.blk 2 (.seq (.seq (.reg [⟨some 28, none, .bin .eql
  (.t 20) (.c (.c (.i .u8 (.ofNat 9)))), []⟩, ⟨some 27, none, .mv (.t 28), []⟩]) (.cond (.t 27) .skip (.seq (.reg [⟨some 29, none, .bin .eql (.t 20) (.c (.c (.i .u8 (.ofNat 10)))), []⟩, ⟨some 27, none,
  .mv (.t 29), []⟩]) (.cond (.t 27) .skip (.seq (.reg [⟨some 30, none, .bin .eql (.t 20) (.c (.c (.i .u8 (.ofNat 12)))), []⟩, ⟨some 27, none, .mv (.t 30), []⟩]) (.cond (.t 27) .skip (.seq (.reg [⟨some
  31, none, .bin .eql (.t 20) (.c (.c (.i .u8 (.ofNat 32)))), []⟩, ⟨some 27, none, .mv (.t 31), []⟩]) (.cond (.t 27) .skip (.seq (.reg [⟨some 32, none, .bin .eql (.t 20) (.c (.c (.i .u8 (.ofNat 0)))),
  []⟩, ⟨some 27, none, .mv (.t 32), []⟩]) (.cond (.t 27) .skip (.seq (.reg [⟨some 33, none, .bin .eql (.t 20) (.c (.c (.i .u8 (.ofNat 34)))), []⟩, ⟨some 27, none, .mv (.t 33), []⟩]) (.cond (.t 27)
  .skip (.seq (.reg [⟨some 34, none, .bin .eql (.t 20) (.c (.c (.i .u8 (.ofNat 39)))), []⟩, ⟨some 27, none, .mv (.t 34), []⟩]) (.cond (.t 27) .skip (.seq (.reg [⟨some 35, none, .bin .eql (.t 20) (.c
  (.c (.i .u8 (.ofNat 62)))), []⟩, ⟨some 27, none, .mv (.t 35), []⟩]) (.cond (.t 27) .skip (.seq (.reg [⟨some 36, none, .bin .eql (.t 20) (.c (.c (.i .u8 (.ofNat 47)))), []⟩, ⟨some 27, none, .mv (.t
  36), []⟩]) (.cond (.t 27) .skip (.seq (.reg [⟨some 37, none, .bin .eql (.t 20) (.c (.c (.i .u8 (.ofNat 61)))), []⟩, ⟨some 27, none, .mv (.t 37), []⟩]) (.cond (.t 27) .skip (.reg [⟨some 38, none, .bin
  .eql (.t 20) (.c (.c (.i .u8 (.ofNat 60)))), []⟩, ⟨some 27, none, .mv (.t 38), []⟩]))))))))))))))))))))) (.cond (.t 27) (.seq (.reg [⟨some 2, none, .mv (.c (.c (.b false))), []⟩]) .ret) (.seq (.reg
  [⟨some 21, none, .mv (.t 4), []⟩, ⟨some 22, none, .bin .geq (.t 21) (.c (.c (.i .u8 (.ofNat 65)))), []⟩, ⟨some 23, none, .mv (.t 22), []⟩, ⟨some 24, some (23, true), .mv (.t 4), []⟩, ⟨some 25, some
  (23, true), .bin .leq (.t 24) (.c (.c (.i .u8 (.ofNat 90)))), []⟩, ⟨some 26, none, .pk (.t 23) (.t 25) (.c (.c (.b false))), []⟩]) (.cond (.t 26) (.seq (.reg [⟨some 2, none, .mv (.c (.c (.b false))),
  []⟩]) .ret) .skip))))))))) (.reg [⟨some 39, none, .bin .add (.t 14) (.c (.c (.i .i64 (.ofNat 1)))), []⟩, ⟨some 14, none, .mv (.t 39), []⟩]))))))) (.seq (.reg [⟨some 2, none, .mv (.c (.c (.b true))),
  []⟩]) .ret))), [(2, none)]⟩

theorem ok36 : FnR Tryz.prog 0 36 cf36 := fnC_ok Tryz.func36 (by kernel_rfl)

def cf38 : CF := ⟨17, .seq (.reg [⟨some 4, none, .mv (.c (.c (.b false))), []⟩]) (.seq (.seq (.reg [⟨some 7, none, .mv (.t 1), []⟩, ⟨some 8, none, .len true (.t 7), []⟩, ⟨some 9, none, .mv (.c (.c (.i .i64 (.ofNat
  0)))), []⟩]) (.blk 0 (.loop [15, 6, 7, 10, 9, 8, 0, 1, 4] (.seq (.reg [⟨some 10, none, .bin .lss (.t 9) (.t 8), []⟩]) (.seq (.cond (.t 10) .skip (.exit 0)) (.seq (.blk 1 (.seq (.reg [⟨some 11, none,
  .ia 1 (.t 7) (.t 9), []⟩, ⟨some 12, none, .ld 1 false (.t 11), []⟩, ⟨some 6, none, .mv (.t 12), []⟩]) (.seq (.reg [⟨some 13, none, .mv (.t 6), []⟩, ⟨some 14, none, .mv (.t 0), []⟩, ⟨some 15, none,
  .bin .eql (.t 13) (.t 14), []⟩]) (.cond (.t 15) (.seq (.reg [⟨some 4, none, .mv (.c (.c (.b true))), []⟩]) .ret) .skip)))) (.reg [⟨some 16, none, .bin .add (.t 9) (.c (.c (.i .i64 (.ofNat 1)))), []⟩,
  ⟨some 9, none, .mv (.t 16), []⟩]))))))) (.seq (.reg [⟨some 4, none, .mv (.c (.c (.b false))), []⟩]) .ret)), [(4, none)]⟩

theorem ok38 : FnR Tryz.prog 0 38 cf38 := fnC_ok Tryz.func38 (by kernel_rfl)

def cf39 : CF := ⟨42, .seq (.reg [⟨some 4, none, .mv (.c (.c (.sl none 0 0 0))), []⟩]) (.seq (.reg [⟨some 8, none, .mv (.t 0), []⟩, ⟨some 9, none, .mv (.t 1), []⟩, ⟨some 10, none, .call 62 [.t 8, .t 9], []⟩, ⟨some 5,
  none, .mv (.t 10), []⟩]) (.seq (.seq (.reg [⟨some 11, none, .mv (.t 5), []⟩, ⟨some 12, none, .bin .eql (.t 11) (.c (.c (.i .i64 (.negSucc 0)))), []⟩]) (.cond (.t 12) (.seq (.reg [⟨some 13, none, .mv
  (.t 0), []⟩, ⟨some 4, none, .mv (.t 13), []⟩]) .ret) .skip)) (.seq (.seq (.reg [⟨some 14, none, .mv (.t 5), []⟩, ⟨some 15, none, .bin .add (.t 14) (.c (.c (.i .i64 (.ofNat 1)))), []⟩, ⟨some 6, none,
  .mv (.t 15), []⟩]) (.blk 0 (.loop [29, 7, 19, 6, 12, 5, 0, 1, 4] (.seq (.seq (.reg [⟨some 16, none, .mv (.t 6), []⟩, ⟨some 17, none, .mv (.t 0), []⟩, ⟨some 18, none, .len true (.t 17), []⟩, ⟨some 19,
  none, .bin .lss (.t 16) (.t 18), []⟩]) (.cond (.t 19) .skip (.exit 0))) (.seq (.blk 1 (.seq (.reg [⟨some 22, none, .mv (.t 0), []⟩, ⟨some 23, none, .mv (.t 6), []⟩, ⟨some 24, none, .ia 2 (.t 22) (.t
  23), []⟩, ⟨some 25, none, .ld 2 true (.t 24), []⟩, ⟨some 7, none, .new 84 (.c (.a [.s [], .s []])), []⟩, ⟨none, none, .st 2 (.t 7) (.t 25), []⟩]) (.seq (.reg [⟨some 26, none, .mv (.t 1), []⟩, ⟨some
  27, none, .ld 2 true (.t 7), []⟩, ⟨some 28, none, .callv (.t 26) [.t 27], []⟩, ⟨some 29, none, .un .not (.t 28), []⟩]) (.cond (.t 29) (.seq (.reg [⟨some 30, none, .mv (.t 0), []⟩, ⟨some 31, none, .mv
  (.t 5), []⟩, ⟨some 32, none, .ld 2 true (.t 7), []⟩, ⟨some 33, none, .ia 2 (.t 30) (.t 31), []⟩, ⟨none, none, .st 2 (.t 33) (.t 32), []⟩]) (.reg [⟨some 34, none, .mv (.t 5), []⟩, ⟨some 35, none, .bin
  .add (.t 34) (.c (.c (.i .i64 (.ofNat 1)))), []⟩, ⟨some 5, none, .mv (.t 35), []⟩])) .skip)))) (.reg [⟨some 20, none, .mv (.t 6), []⟩, ⟨some 21, none, .bin .add (.t 20) (.c (.c (.i .i64 (.ofNat
  1)))), []⟩, ⟨some 6, none, .mv (.t 21), []⟩])))))) (.seq (.reg [⟨some 36, none, .mv (.t 0), []⟩, ⟨some 37, none, .mv (.t 5), []⟩, ⟨some 38, none, .slc 2 (.t 36) (some (.t 37)) none none, []⟩, ⟨none,
  none, .clr [.s [], .s []] (.t 38), []⟩]) (.seq (.reg [⟨some 39, none, .mv (.t 0), []⟩, ⟨some 40, none, .mv (.t 5), []⟩, ⟨some 41, none, .slc 2 (.t 39) none (some (.t 40)) none, []⟩, ⟨some 4, none,
  .mv (.t 41), []⟩]) .ret))))), [(4, none)]⟩

theorem ok39 : FnR Tryz.prog 0 39 cf39 := fnC_ok Tryz.func39 (by kernel_rfl)

def cf40 : CF := ⟨8, .seq (.reg [⟨some 2, none, .mv (.c (.c (.sl none 0 0 0))), []⟩]) (.seq (.seq (.reg [⟨some 3, none, .mv (.t 0), []⟩, ⟨some 4, none, .sq false (.t 3) (.c (.c (.sl none 0 0 0))), []⟩]) (.cond (.t 4)
  (.seq (.reg [⟨some 2, none, .mv (.c (.c (.sl none 0 0 0))), []⟩]) .ret) .skip)) (.seq (.reg [⟨some 5, none, .bsl 84 1 0 [] [], []⟩, ⟨some 6, none, .mv (.t 0), []⟩, ⟨some 7, none, .app 84 2 false (.t
  5) (.t 6), []⟩, ⟨some 2, none, .mv (.t 7), []⟩]) .ret)), [(2, none)]⟩

theorem ok40 : FnR Tryz.prog 0 40 cf40 := fnC_ok Tryz.func40 (by kernel_rfl)

def cf42 : CF := ⟨114, .seq (.reg [⟨some 3, none, .new 56 (.t 1), []⟩, ⟨some 4, none, .mv (.c (.c (.b false))), []⟩]) (.seq (.seq (.reg [⟨some 6, none, .mv (.t 0), []⟩, ⟨some 7, none, .call 63 [.t 6], []⟩, ⟨some 5,
  none, .mv (.t 7), []⟩]) (.seq (.reg [⟨some 8, none, .mv (.t 5), []⟩, ⟨some 9, none, .nc (.t 8), []⟩, ⟨some 10, none, .fa 2 (.t 9), []⟩, ⟨some 11, none, .ld 1 false (.t 10), []⟩, ⟨some 12, none, .call
  64 [.t 11], []⟩]) (.cond (.t 12) (.seq (.blk 0 (.seq (.reg [⟨some 14, none, .fa 0 (.t 3), []⟩, ⟨some 15, none, .ld 1 false (.t 14), []⟩, ⟨some 16, none, .bin .eql (.t 15) (.c (.c (.i .i64 (.ofNat
  3)))), []⟩, ⟨some 13, none, .mv (.t 16), []⟩]) (.cond (.t 13) (.seq (.reg [⟨some 17, none, .mv (.t 0), []⟩, ⟨some 18, none, .fa 2 (.t 3), []⟩, ⟨some 19, none, .ld 1 false (.t 18), []⟩, ⟨some 20,
  none, .call 65 [.t 17, .t 19], []⟩]) (.seq (.reg [⟨some 4, none, .mv (.c (.c (.b false))), []⟩]) .ret)) (.seq (.dreg [⟨some 22, none, .ld 5 true (.t 3), []⟩, ⟨some 23, none, .mv (.t 5), []⟩, ⟨some
  24, none, .nc (.t 23), []⟩, ⟨some 25, none, .fa 2 (.t 24), []⟩, ⟨some 26, none, .ld 1 false (.t 25), []⟩, ⟨some 27, none, .bsl 9 1 1 [.s []] [(0, (1, .t 26))], []⟩, ⟨some 28, none, .call 66 [.t 22,
  .t 27], []⟩, ⟨some 21, none, .mv (.t 28), []⟩]) (.cond (.t 21) (.seq (.reg [⟨some 29, none, .mv (.t 0), []⟩, ⟨some 30, none, .call 67 [.t 29, .c (.c (.i .i64 (.ofNat 1)))], []⟩]) (.seq (.reg [⟨some
  4, none, .mv (.c (.c (.b false))), []⟩]) .ret)) (.seq (.reg [⟨some 32, none, .fa 0 (.t 3), []⟩, ⟨some 33, none, .ld 1 false (.t 32), []⟩, ⟨some 34, none, .bin .eql (.t 33) (.c (.c (.i .i64 (.ofNat
  4)))), []⟩, ⟨some 35, none, .mv (.t 34), []⟩, ⟨some 36, some (35, false), .fa 0 (.t 3), []⟩, ⟨some 37, some (35, false), .ld 1 false (.t 36), []⟩, ⟨some 38, some (35, false), .bin .eql (.t 37) (.c
  (.c (.i .i64 (.ofNat 5)))), []⟩, ⟨some 39, none, .pk (.t 35) (.c (.c (.b true))) (.t 38), []⟩, ⟨some 40, none, .mv (.t 39), []⟩, ⟨some 41, some (40, false), .fa 0 (.t 3), []⟩, ⟨some 42, some (40,
  false), .ld 1 false (.t 41), []⟩, ⟨some 43, some (40, false), .bin .eql (.t 42) (.c (.c (.i .i64 (.ofNat 2)))), []⟩, ⟨some 44, none, .pk (.t 40) (.c (.c (.b true))) (.t 43), []⟩, ⟨some 31, none, .mv
  (.t 44), []⟩]) (.cond (.t 31) (.seq (.reg [⟨some 4, none, .mv (.c (.c (.b false))), []⟩]) .ret) .skip))))))) (.seq (.reg [⟨some 45, none, .mv (.t 0), []⟩, ⟨some 46, none, .call 67 [.t 45, .c (.c (.i
  .i64 (.ofNat 1)))], []⟩]) (.seq (.reg [⟨some 4, none, .mv (.c (.c (.b true))), []⟩]) .ret))) .skip))) (.seq (.seq (.reg [⟨some 47, none, .mv (.t 0), []⟩, ⟨some 48, none, .nc (.t 47), []⟩, ⟨some 49,
  none, .fa 5 (.t 48), []⟩, ⟨some 50, none, .ld 1 false (.t 49), []⟩]) (.blk 1 (.seq (.reg [⟨some 52, none, .bin .eql (.t 50) (.c (.c (.i .i64 (.ofNat 0)))), []⟩, ⟨some 51, none, .mv (.t 52), []⟩])
  (.cond (.t 51) (.seq (.reg [⟨some 53, none, .mv (.t 0), []⟩, ⟨some 54, none, .ld 5 true (.t 3), []⟩, ⟨some 55, none, .call 68 [.t 53, .t 54], []⟩, ⟨some 4, none, .mv (.t 55), []⟩]) .ret) (.seq (.reg
  [⟨some 57, none, .bin .eql (.t 50) (.c (.c (.i .i64 (.ofNat 1)))), []⟩, ⟨some 56, none, .mv (.t 57), []⟩]) (.cond (.t 56) (.seq (.reg [⟨some 58, none, .mv (.t 0), []⟩, ⟨some 59, none, .ld 5 true (.t
  3), []⟩, ⟨some 60, none, .call 69 [.t 58, .t 59], []⟩, ⟨some 4, none, .mv (.t 60), []⟩]) .ret) (.seq (.reg [⟨some 62, none, .bin .eql (.t 50) (.c (.c (.i .i64 (.ofNat 2)))), []⟩, ⟨some 61, none, .mv
  (.t 62), []⟩]) (.cond (.t 61) (.seq (.reg [⟨some 63, none, .mv (.t 0), []⟩, ⟨some 64, none, .ld 5 true (.t 3), []⟩, ⟨some 65, none, .call 70 [.t 63, .t 64], []⟩, ⟨some 4, none, .mv (.t 65), []⟩])
  .ret) (.seq (.reg [⟨some 67, none, .bin .eql (.t 50) (.c (.c (.i .i64 (.ofNat 3)))), []⟩, ⟨some 66, none, .mv (.t 67), []⟩]) (.cond (.t 66) (.seq (.reg [⟨some 68, none, .mv (.t 0), []⟩, ⟨some 69,
  none, .ld 5 true (.t 3), []⟩, ⟨some 70, none, .call 71 [.t 68, .t 69], []⟩, ⟨some 4, none, .mv (.t 70), []⟩]) .ret) (.seq (.reg [⟨some 72, none, .bin .eql (.t 50) (.c (.c (.i .i64 (.ofNat 4)))), []⟩,
  ⟨some 71, none, .mv (.t 72), []⟩]) (.cond (.t 71) (.seq (.reg [⟨some 73, none, .mv (.t 0), []⟩, ⟨some 74, none, .ld 5 true (.t 3), []⟩, ⟨some 75, none, .call 72 [.t 73, .t 74], []⟩, ⟨some 4, none,
  .mv (.t 75), []⟩]) .ret) (.seq (.reg [⟨some 77, none, .bin .eql (.t 50) (.c (.c (.i .i64 (.ofNat 6)))), []⟩, ⟨some 76, none, .mv (.t 77), []⟩]) (.cond (.t 76) (.seq (.reg [⟨some 78, none, .mv (.t 0),
  []⟩, ⟨some 79, none, .ld 5 true (.t 3), []⟩, ⟨some 80, none, .call 73 [.t 78, .t 79], []⟩, ⟨some 4, none, .mv (.t 80), []⟩]) .ret) (.seq (.reg [⟨some 82, none, .bin .eql (.t 50) (.c (.c (.i .i64
  (.ofNat 7)))), []⟩, ⟨some 81, none, .mv (.t 82), []⟩]) (.cond (.t 81) (.seq (.reg [⟨some 83, none, .mv (.t 0), []⟩, ⟨some 84, none, .ld 5 true (.t 3), []⟩, ⟨some 85, none, .call 74 [.t 83, .t 84],
  []⟩, ⟨some 4, none, .mv (.t 85), []⟩]) .ret) (.seq (.reg [⟨some 87, none, .bin .eql (.t 50) (.c (.c (.i .i64 (.ofNat 8)))), []⟩, ⟨some 86, none, .mv (.t 87), []⟩]) (.cond (.t 86) (.seq (.reg [⟨some
  88, none, .mv (.t 0), []⟩, ⟨some 89, none, .ld 5 true (.t 3), []⟩, ⟨some 90, none, .call 75 [.t 88, .t 89], []⟩, ⟨some 4, none, .mv (.t 90), []⟩]) .ret) (.seq (.reg [⟨some 92, none, .bin .eql (.t 50)
  (.c (.c (.i .i64 (.ofNat 9)))), []⟩, ⟨some 91, none, .mv (.t 92), []⟩]) (.cond (.t 91) (.seq (.reg [⟨some 93, none, .mv (.t 0), []⟩, ⟨some 94, none, .ld 5 true (.t 3), []⟩, ⟨some 95, none, .call 76
  [.t 93, .t 94], []⟩, ⟨some 4, none, .mv (.t 95), []⟩]) .ret) (.seq (.reg [⟨some 97, none, .bin .eql (.t 50) (.c (.c (.i .i64 (.ofNat 10)))), []⟩, ⟨some 96, none, .mv (.t 97), []⟩]) (.cond (.t 96)
  (.seq (.reg [⟨some 98, none, .mv (.t 0), []⟩, ⟨some 99, none, .ld 5 true (.t 3), []⟩, ⟨some 100, none, .call 77 [.t 98, .t 99], []⟩, ⟨some 4, none, .mv (.t 100), []⟩]) .ret) (.seq (.reg [⟨some 102,
  none, .bin .eql (.t 50) (.c (.c (.i .i64 (.ofNat 11)))), []⟩, ⟨some 101, none, .mv (.t 102), []⟩]) (.cond (.t 101) (.seq (.reg [⟨some 103, none, .mv (.t 0), []⟩, ⟨some 104, none, .ld 5 true (.t 3),
  []⟩, ⟨some 105, none, .call 78 [.t 103, .t 104], []⟩, ⟨some 4, none, .mv (.t 105), []⟩]) .ret) (.seq (.reg [⟨some 107, none, .bin .eql (.t 50) (.c (.c (.i .i64 (.ofNat 12)))), []⟩, ⟨some 106, none,
  .mv (.t 107), []⟩]) (.cond (.t 106) (.seq (.reg [⟨some 108, none, .mv (.t 0), []⟩, ⟨some 109, none, .ld 5 true (.t 3), []⟩, ⟨some 110, none, .call 79 [.t 108, .t 109], []⟩, ⟨some 4, none, .mv (.t
  110), []⟩]) .ret) .skip)))))))))))))))))))))))))) (.seq (.reg [⟨some 111, none, .mv (.t 0), []⟩, ⟨some 112, none, .ld 5 true (.t 3), []⟩, ⟨some 113, none, .call 80 [.t 111, .t 112], []⟩, ⟨some 4,
  none, .mv (.t 113), []⟩]) .ret))), [(4, none)]⟩

theorem ok42 : FnR Tryz.prog 0 42 cf42 := fnC_ok Tryz.func42 (by kernel_rfl)

def cf43 : CF := ⟨19, .seq (.reg [⟨some 1, none, .new 28 (.t 0), []⟩, ⟨some 2, none, .mv (.c (.c (.i .i64 (.ofNat 0)))), []⟩]) (.seq (.reg [⟨some 3, none, .mv (.c (.c (.i .i64 (.ofNat 1)))), []⟩]) (.seq (.seq (.reg
  [⟨some 6, none, .fa 4 (.t 1), []⟩, ⟨some 7, none, .ld 1 false (.t 6), []⟩, ⟨some 8, none, .len true (.t 7), []⟩, ⟨some 9, none, .mv (.c (.c (.i .i64 (.ofNat 0)))), []⟩]) (.blk 0 (.loop [5, 3, 7, 10,
  9, 8, 1, 0, 2] (.seq (.reg [⟨some 10, none, .bin .lss (.t 9) (.t 8), []⟩]) (.seq (.cond (.t 10) .skip (.exit 0)) (.seq (.blk 1 (.seq (.reg [⟨some 11, none, .ia 5 (.t 7) (.t 9), []⟩, ⟨some 12, none,
  .ld 5 true (.t 11), []⟩, ⟨some 5, none, .new 28 (.c (.a [.i .i64 (.ofNat 0), .s [], .s [], .sl none 0 0 0, .sl none 0 0 0])), []⟩, ⟨none, none, .st 5 (.t 5) (.t 12), []⟩]) (.reg [⟨some 13, none, .mv
  (.t 3), []⟩, ⟨some 14, none, .ld 5 true (.t 5), []⟩, ⟨some 15, none, .call 43 [.t 14], []⟩, ⟨some 16, none, .bin .add (.t 13) (.t 15), []⟩, ⟨some 3, none, .mv (.t 16), []⟩]))) (.reg [⟨some 17, none,
  .bin .add (.t 9) (.c (.c (.i .i64 (.ofNat 1)))), []⟩, ⟨some 9, none, .mv (.t 17), []⟩]))))))) (.seq (.reg [⟨some 18, none, .mv (.t 3), []⟩, ⟨some 2, none, .mv (.t 18), []⟩]) .ret))), [(2, none)]⟩

theorem ok43 : FnR Tryz.prog 0 43 cf43 := fnC_ok Tryz.func43 (by kernel_rfl)

def cf44 : CF := ⟨20, .seq (.reg [⟨some 1, none, .new 28 (.t 0), []⟩, ⟨some 2, none, .mv (.c (.c (.i .i64 (.ofNat 0)))), []⟩]) (.seq (.reg [⟨some 3, none, .mv (.c (.c (.i .i64 (.ofNat 0)))), []⟩]) (.seq (.seq (.reg
  [⟨some 6, none, .fa 4 (.t 1), []⟩, ⟨some 7, none, .ld 1 false (.t 6), []⟩, ⟨some 8, none, .len true (.t 7), []⟩, ⟨some 9, none, .mv (.c (.c (.i .i64 (.ofNat 0)))), []⟩]) (.blk 0 (.loop [5, 3, 7, 10,
  9, 8, 1, 0, 2] (.seq (.reg [⟨some 10, none, .bin .lss (.t 9) (.t 8), []⟩]) (.seq (.cond (.t 10) .skip (.exit 0)) (.seq (.blk 1 (.seq (.reg [⟨some 11, none, .ia 5 (.t 7) (.t 9), []⟩, ⟨some 12, none,
  .ld 5 true (.t 11), []⟩, ⟨some 5, none, .new 28 (.c (.a [.i .i64 (.ofNat 0), .s [], .s [], .sl none 0 0 0, .sl none 0 0 0])), []⟩, ⟨none, none, .st 5 (.t 5) (.t 12), []⟩]) (.reg [⟨some 13, none, .mv
  (.t 3), []⟩, ⟨some 14, none, .ld 5 true (.t 5), []⟩, ⟨some 15, none, .call 44 [.t 14], []⟩, ⟨some 16, none, .mx (.t 13) (.t 15), []⟩, ⟨some 3, none, .mv (.t 16), []⟩]))) (.reg [⟨some 17, none, .bin
  .add (.t 9) (.c (.c (.i .i64 (.ofNat 1)))), []⟩, ⟨some 9, none, .mv (.t 17), []⟩]))))))) (.seq (.reg [⟨some 18, none, .mv (.t 3), []⟩, ⟨some 19, none, .bin .add (.t 18) (.c (.c (.i .i64 (.ofNat
  1)))), []⟩, ⟨some 2, none, .mv (.t 19), []⟩]) .ret))), [(2, none)]⟩

theorem ok44 : FnR Tryz.prog 0 44 cf44 := fnC_ok Tryz.func44 (by kernel_rfl)

def cf45 : CF := ⟨14, .seq (.reg [⟨some 2, none, .mv (.c (.c (.b false))), []⟩]) (.seq (.seq (.reg [⟨some 5, none, .mv (.t 0), []⟩, ⟨some 6, none, .len true (.t 5), []⟩, ⟨some 7, none, .mv (.c (.c (.i .i64 (.ofNat
  0)))), []⟩]) (.blk 0 (.loop [12, 4, 5, 8, 7, 6, 0, 2] (.seq (.reg [⟨some 8, none, .bin .lss (.t 7) (.t 6), []⟩]) (.seq (.cond (.t 8) .skip (.exit 0)) (.seq (.blk 1 (.seq (.reg [⟨some 9, none, .ia 1
  (.t 5) (.t 7), []⟩, ⟨some 10, none, .ld 1 false (.t 9), []⟩, ⟨some 4, none, .mv (.t 10), []⟩]) (.seq (.reg [⟨some 11, none, .mv (.t 4), []⟩, ⟨some 12, none, .bin .neq (.t 11) (.c (.c (.s []))), []⟩])
  (.cond (.t 12) (.seq (.reg [⟨some 2, none, .mv (.c (.c (.b false))), []⟩]) .ret) .skip)))) (.reg [⟨some 13, none, .bin .add (.t 7) (.c (.c (.i .i64 (.ofNat 1)))), []⟩, ⟨some 7, none, .mv (.t 13),
  []⟩]))))))) (.seq (.reg [⟨some 2, none, .mv (.c (.c (.b true))), []⟩]) .ret)), [(2, none)]⟩

theorem ok45 : FnR Tryz.prog 0 45 cf45 := fnC_ok Tryz.func45 (by kernel_rfl)

def cf46 : CF := ⟨26, .seq (.reg [⟨some 1, none, .new 28 (.t 0), []⟩, ⟨some 2, none, .mv (.c (.c (.b false))), []⟩]) (.seq (.seq (.reg [⟨some 5, none, .fa 4 (.t 1), []⟩, ⟨some 6, none, .ld 1 false (.t 5), []⟩, ⟨some
  7, none, .len true (.t 6), []⟩, ⟨some 8, none, .mv (.c (.c (.i .i64 (.ofNat 0)))), []⟩]) (.blk 0 (.loop [24, 4, 6, 9, 8, 7, 1, 0, 2] (.seq (.reg [⟨some 9, none, .bin .lss (.t 8) (.t 7), []⟩]) (.seq
  (.cond (.t 9) .skip (.exit 0)) (.seq (.blk 1 (.seq (.reg [⟨some 10, none, .ia 5 (.t 6) (.t 8), []⟩, ⟨some 11, none, .ld 5 true (.t 10), []⟩, ⟨some 4, none, .new 28 (.c (.a [.i .i64 (.ofNat 0), .s [],
  .s [], .sl none 0 0 0, .sl none 0 0 0])), []⟩, ⟨none, none, .st 5 (.t 4) (.t 11), []⟩]) (.seq (.reg [⟨some 12, none, .ld 5 true (.t 4), []⟩, ⟨some 13, none, .call 81 [.t 12], []⟩, ⟨some 14, none, .un
  .not (.t 13), []⟩, ⟨some 15, none, .mv (.t 14), []⟩, ⟨some 16, some (15, false), .fa 0 (.t 4), []⟩, ⟨some 17, some (15, false), .ld 1 false (.t 16), []⟩, ⟨some 18, some (15, false), .bin .eql (.t 17)
  (.c (.c (.i .i64 (.ofNat 5)))), []⟩, ⟨some 19, some (15, false), .mv (.t 18), []⟩, ⟨some 20, some (19, true), .fa 0 (.t 1), []⟩, ⟨some 21, some (19, true), .ld 1 false (.t 20), []⟩, ⟨some 22, some
  (19, true), .bin .neq (.t 21) (.c (.c (.i .i64 (.ofNat 1)))), []⟩, ⟨some 23, some (15, false), .pk (.t 19) (.t 22) (.c (.c (.b false))), []⟩, ⟨some 24, none, .pk (.t 15) (.c (.c (.b true))) (.t 23),
  []⟩]) (.cond (.t 24) (.seq (.reg [⟨some 2, none, .mv (.c (.c (.b false))), []⟩]) .ret) .skip)))) (.reg [⟨some 25, none, .bin .add (.t 8) (.c (.c (.i .i64 (.ofNat 1)))), []⟩, ⟨some 8, none, .mv (.t
  25), []⟩]))))))) (.seq (.reg [⟨some 2, none, .mv (.c (.c (.b true))), []⟩]) .ret)), [(2, none)]⟩

theorem ok46 : FnR Tryz.prog 0 46 cf46 := fnC_ok Tryz.func46 (by kernel_rfl)

def cf50 : CF := ⟨106, .seq (.reg [⟨some 4, none, .mv (.c (.c (.i .i32 (.ofNat 0)))), []⟩, ⟨some 5, none, .mv (.c (.c (.i .i64 (.ofNat 0)))), []⟩]) (.seq (.reg [⟨some 11, none, .mv (.t 0), []⟩, ⟨some 12, none, .mv
  (.t 1), []⟩, ⟨some 13, none, .sx (.t 11) (.t 12), []⟩, ⟨some 14, none, .cv .i64 (.t 13), []⟩, ⟨some 6, none, .mv (.t 14), []⟩]) (.seq (.reg [⟨some 7, none, .mv (.c (.c (.i .i64 (.ofNat 0)))), []⟩,
  ⟨some 8, none, .mv (.c (.c (.i .i64 (.ofNat 0)))), []⟩, ⟨some 9, none, .mv (.c (.c (.i .i64 (.ofNat 0)))), []⟩]) (.seq (.blk 0 (.seq (.reg [⟨some 16, none, .mv (.t 6), []⟩, ⟨some 17, none, .bin .lss
  (.t 16) (.c (.c (.i .i64 (.ofNat 128)))), []⟩, ⟨some 15, none, .mv (.t 17), []⟩]) (.cond (.t 15) (.seq (.reg [⟨some 18, none, .mv (.t 6), []⟩, ⟨some 19, none, .cv .i32 (.t 18), []⟩, ⟨some 4, none,
  .mv (.t 19), []⟩, ⟨some 5, none, .mv (.c (.c (.i .i64 (.ofNat 1)))), []⟩]) .ret) (.seq (.reg [⟨some 21, none, .mv (.t 6), []⟩, ⟨some 22, none, .bin .geq (.t 21) (.c (.c (.i .i64 (.ofNat 192)))), []⟩,
  ⟨some 23, none, .mv (.t 22), []⟩, ⟨some 24, some (23, true), .mv (.t 6), []⟩, ⟨some 25, some (23, true), .bin .lss (.t 24) (.c (.c (.i .i64 (.ofNat 224)))), []⟩, ⟨some 26, none, .pk (.t 23) (.t 25)
  (.c (.c (.b false))), []⟩, ⟨some 20, none, .mv (.t 26), []⟩]) (.cond (.t 20) (.reg [⟨some 27, none, .mv (.t 6), []⟩, ⟨some 28, none, .bin .sub (.t 27) (.c (.c (.i .i64 (.ofNat 192)))), []⟩, ⟨some 7,
  none, .mv (.c (.c (.i .i64 (.ofNat 2)))), []⟩, ⟨some 8, none, .mv (.t 28), []⟩, ⟨some 9, none, .mv (.c (.c (.i .i64 (.ofNat 128)))), []⟩]) (.seq (.reg [⟨some 30, none, .mv (.t 6), []⟩, ⟨some 31,
  none, .bin .geq (.t 30) (.c (.c (.i .i64 (.ofNat 224)))), []⟩, ⟨some 32, none, .mv (.t 31), []⟩, ⟨some 33, some (32, true), .mv (.t 6), []⟩, ⟨some 34, some (32, true), .bin .lss (.t 33) (.c (.c (.i
  .i64 (.ofNat 240)))), []⟩, ⟨some 35, none, .pk (.t 32) (.t 34) (.c (.c (.b false))), []⟩, ⟨some 29, none, .mv (.t 35), []⟩]) (.cond (.t 29) (.reg [⟨some 36, none, .mv (.t 6), []⟩, ⟨some 37, none,
  .bin .sub (.t 36) (.c (.c (.i .i64 (.ofNat 224)))), []⟩, ⟨some 7, none, .mv (.c (.c (.i .i64 (.ofNat 3)))), []⟩, ⟨some 8, none, .mv (.t 37), []⟩, ⟨some 9, none, .mv (.c (.c (.i .i64 (.ofNat 2048)))),
  []⟩]) (.seq (.reg [⟨some 39, none, .mv (.t 6), []⟩, ⟨some 40, none, .bin .geq (.t 39) (.c (.c (.i .i64 (.ofNat 240)))), []⟩, ⟨some 41, none, .mv (.t 40), []⟩, ⟨some 42, some (41, true), .mv (.t 6),
  []⟩, ⟨some 43, some (41, true), .bin .lss (.t 42) (.c (.c (.i .i64 (.ofNat 248)))), []⟩, ⟨some 44, none, .pk (.t 41) (.t 43) (.c (.c (.b false))), []⟩, ⟨some 38, none, .mv (.t 44), []⟩]) (.cond (.t
  38) (.reg [⟨some 45, none, .mv (.t 6), []⟩, ⟨some 46, none, .bin .sub (.t 45) (.c (.c (.i .i64 (.ofNat 240)))), []⟩, ⟨some 7, none, .mv (.c (.c (.i .i64 (.ofNat 4)))), []⟩, ⟨some 8, none, .mv (.t
  46), []⟩, ⟨some 9, none, .mv (.c (.c (.i .i64 (.ofNat 65536)))), []⟩]) .skip))))))))) (.seq (.seq (.reg [⟨some 10, none, .mv (.c (.c (.i .i64 (.ofNat 1)))), []⟩]) (.blk 1 (.loop [102, 9, 8, 73, 49,
  7, 10, 38, 29, 20, 15, 6, 0, 1, 4, 5] (.seq (.seq (.reg [⟨some 47, none, .mv (.t 10), []⟩, ⟨some 48, none, .mv (.t 7), []⟩, ⟨some 49, none, .bin .lss (.t 47) (.t 48), []⟩]) (.cond (.t 49) .skip
  (.exit 1))) (.seq (.blk 2 (.seq (.seq (.reg [⟨some 52, none, .mv (.t 1), []⟩, ⟨some 53, none, .mv (.t 10), []⟩, ⟨some 54, none, .bin .add (.t 52) (.t 53), []⟩, ⟨some 55, none, .mv (.t 0), []⟩, ⟨some
  56, none, .len false (.t 55), []⟩, ⟨some 57, none, .bin .geq (.t 54) (.t 56), []⟩, ⟨some 58, none, .mv (.t 57), []⟩, ⟨some 59, some (58, false), .mv (.t 0), []⟩, ⟨some 60, some (58, false), .mv (.t
  1), []⟩, ⟨some 61, some (58, false), .mv (.t 10), []⟩, ⟨some 62, some (58, false), .bin .add (.t 60) (.t 61), []⟩, ⟨some 63, some (58, false), .sx (.t 59) (.t 62), []⟩, ⟨some 64, some (58, false),
  .bin .lss (.t 63) (.c (.c (.i .u8 (.ofNat 128)))), []⟩, ⟨some 65, none, .pk (.t 58) (.c (.c (.b true))) (.t 64), []⟩, ⟨some 66, none, .mv (.t 65), []⟩, ⟨some 67, some (66, false), .mv (.t 0), []⟩,
  ⟨some 68, some (66, false), .mv (.t 1), []⟩, ⟨some 69, some (66, false), .mv (.t 10), []⟩, ⟨some 70, some (66, false), .bin .add (.t 68) (.t 69), []⟩, ⟨some 71, some (66, false), .sx (.t 67) (.t 70),
  []⟩, ⟨some 72, some (66, false), .bin .gtr (.t 71) (.c (.c (.i .u8 (.ofNat 191)))), []⟩, ⟨some 73, none, .pk (.t 66) (.c (.c (.b true))) (.t 72), []⟩]) (.cond (.t 73) (.seq (.reg [⟨some 4, none, .mv
  (.c (.c (.i .i32 (.ofNat 0)))), []⟩, ⟨some 5, none, .mv (.c (.c (.i .i64 (.ofNat 0)))), []⟩]) .ret) .skip)) (.reg [⟨some 74, none, .mv (.t 8), []⟩, ⟨some 75, none, .bin .mul (.c (.c (.i .i64 (.ofNat
  64)))) (.t 74), []⟩, ⟨some 76, none, .mv (.t 0), []⟩, ⟨some 77, none, .mv (.t 1), []⟩, ⟨some 78, none, .mv (.t 10), []⟩, ⟨some 79, none, .bin .add (.t 77) (.t 78), []⟩, ⟨some 80, none, .sx (.t 76)
  (.t 79), []⟩, ⟨some 81, none, .cv .i64 (.t 80), []⟩, ⟨some 82, none, .bin .add (.t 75) (.t 81), []⟩, ⟨some 83, none, .bin .sub (.t 82) (.c (.c (.i .i64 (.ofNat 128)))), []⟩, ⟨some 8, none, .mv (.t
  83), []⟩]))) (.reg [⟨some 50, none, .mv (.t 10), []⟩, ⟨some 51, none, .bin .add (.t 50) (.c (.c (.i .i64 (.ofNat 1)))), []⟩, ⟨some 10, none, .mv (.t 51), []⟩])))))) (.seq (.seq (.reg [⟨some 84, none,
  .mv (.t 7), []⟩, ⟨some 85, none, .bin .eql (.t 84) (.c (.c (.i .i64 (.ofNat 0)))), []⟩, ⟨some 86, none, .mv (.t 85), []⟩, ⟨some 87, some (86, false), .mv (.t 8), []⟩, ⟨some 88, some (86, false), .mv
  (.t 9), []⟩, ⟨some 89, some (86, false), .bin .lss (.t 87) (.t 88), []⟩, ⟨some 90, none, .pk (.t 86) (.c (.c (.b true))) (.t 89), []⟩, ⟨some 91, none, .mv (.t 90), []⟩, ⟨some 92, some (91, false),
  .mv (.t 8), []⟩, ⟨some 93, some (91, false), .bin .gtr (.t 92) (.c (.c (.i .i64 (.ofNat 1114111)))), []⟩, ⟨some 94, none, .pk (.t 91) (.c (.c (.b true))) (.t 93), []⟩, ⟨some 95, none, .mv (.t 94),
  []⟩, ⟨some 96, some (95, false), .mv (.t 8), []⟩, ⟨some 97, some (95, false), .bin .geq (.t 96) (.c (.c (.i .i64 (.ofNat 55296)))), []⟩, ⟨some 98, some (95, false), .mv (.t 97), []⟩, ⟨some 99, some
  (98, true), .mv (.t 8), []⟩, ⟨some 100, some (98, true), .bin .leq (.t 99) (.c (.c (.i .i64 (.ofNat 57343)))), []⟩, ⟨some 101, some (95, false), .pk (.t 98) (.t 100) (.c (.c (.b false))), []⟩, ⟨some
  102, none, .pk (.t 95) (.c (.c (.b true))) (.t 101), []⟩]) (.cond (.t 102) (.seq (.reg [⟨some 4, none, .mv (.c (.c (.i .i32 (.ofNat 0)))), []⟩, ⟨some 5, none, .mv (.c (.c (.i .i64 (.ofNat 0)))),
  []⟩]) .ret) .skip)) (.seq (.reg [⟨some 103, none, .mv (.t 8), []⟩, ⟨some 104, none, .cv .i32 (.t 103), []⟩, ⟨some 105, none, .mv (.t 7), []⟩, ⟨some 4, none, .mv (.t 104), []⟩, ⟨some 5, none, .mv (.t
  105), []⟩]) .ret)))))), [(4, none), (5, none)]⟩

theorem ok50 : FnR Tryz.prog 0 50 cf50 := fnC_ok Tryz.func50 (by kernel_rfl)

def cf51 : CF := ⟨35, .seq (.reg [⟨some 2, none, .mv (.c (.c (.s []))), []⟩]) (.seq (.reg [⟨some 5, none, .mv (.t 0), []⟩, ⟨some 6, none, .s2b 5 (.t 5), []⟩, ⟨some 3, none, .mv (.t 6), []⟩]) (.seq (.seq (.reg [⟨some
  4, none, .mv (.c (.c (.i .i64 (.ofNat 0)))), []⟩]) (.blk 0 (.loop [24, 10, 3, 4, 0, 2] (.seq (.seq (.reg [⟨some 7, none, .mv (.t 4), []⟩, ⟨some 8, none, .mv (.t 3), []⟩, ⟨some 9, none, .len true (.t
  8), []⟩, ⟨some 10, none, .bin .lss (.t 7) (.t 9), []⟩]) (.cond (.t 10) .skip (.exit 0))) (.seq (.blk 1 (.seq (.reg [⟨some 13, none, .mv (.t 3), []⟩, ⟨some 14, none, .mv (.t 4), []⟩, ⟨some 15, none,
  .ia 1 (.t 13) (.t 14), []⟩, ⟨some 16, none, .ld 1 false (.t 15), []⟩, ⟨some 17, none, .bin .geq (.t 16) (.c (.c (.i .u8 (.ofNat 65)))), []⟩, ⟨some 18, none, .mv (.t 17), []⟩, ⟨some 19, some (18,
  true), .mv (.t 3), []⟩, ⟨some 20, some (18, true), .mv (.t 4), []⟩, ⟨some 21, some (18, true), .ia 1 (.t 19) (.t 20), []⟩, ⟨some 22, some (18, true), .ld 1 false (.t 21), []⟩, ⟨some 23, some (18,
  true), .bin .leq (.t 22) (.c (.c (.i .u8 (.ofNat 90)))), []⟩, ⟨some 24, none, .pk (.t 18) (.t 23) (.c (.c (.b false))), []⟩]) (.cond (.t 24) (.reg [⟨some 25, none, .mv (.t 3), []⟩, ⟨some 26, none,
  .mv (.t 4), []⟩, ⟨some 27, none, .mv (.t 3), []⟩, ⟨some 28, none, .mv (.t 4), []⟩, ⟨some 29, none, .ia 1 (.t 27) (.t 28), []⟩, ⟨some 30, none, .ld 1 false (.t 29), []⟩, ⟨some 31, none, .bin .add (.t
  30) (.c (.c (.i .u8 (.ofNat 32)))), []⟩, ⟨some 32, none, .ia 1 (.t 25) (.t 26), []⟩, ⟨none, none, .st 1 (.t 32) (.t 31), []⟩]) .skip))) (.reg [⟨some 11, none, .mv (.t 4), []⟩, ⟨some 12, none, .bin
  .add (.t 11) (.c (.c (.i .i64 (.ofNat 1)))), []⟩, ⟨some 4, none, .mv (.t 12), []⟩])))))) (.seq (.reg [⟨some 33, none, .mv (.t 3), []⟩, ⟨some 34, none, .b2s (.t 33), []⟩, ⟨some 2, none, .mv (.t 34),
  []⟩]) .ret))), [(2, none)]⟩

theorem ok51 : FnR Tryz.prog 0 51 cf51 := fnC_ok Tryz.func51 (by kernel_rfl)

def cf52 : CF := ⟨42, .seq (.reg [⟨some 6, none, .mv (.c (.c (.b false))), []⟩]) (.seq (.reg [⟨some 8, none, .mv (.t 1), []⟩, ⟨some 9, none, .bin .add (.t 8) (.c (.c (.i .i64 (.ofNat 2)))), []⟩, ⟨some 10, none, .mv
  (.t 2), []⟩, ⟨some 11, none, .len false (.t 10), []⟩, ⟨some 12, none, .bin .add (.t 9) (.t 11), []⟩, ⟨some 7, none, .mv (.t 12), []⟩]) (.seq (.reg [⟨some 13, none, .mv (.t 0), []⟩, ⟨some 14, none,
  .mv (.t 1), []⟩, ⟨some 15, none, .mv (.t 2), []⟩, ⟨some 16, none, .bin .add (.c (.c (.s [60, 47]))) (.t 15), []⟩, ⟨some 17, none, .call 57 [.t 13, .t 14, .t 16], []⟩, ⟨some 18, none, .mv (.t 17),
  []⟩, ⟨some 19, some (18, true), .mv (.t 7), []⟩, ⟨some 20, some (18, true), .mv (.t 0), []⟩, ⟨some 21, some (18, true), .len false (.t 20), []⟩, ⟨some 22, some (18, true), .bin .lss (.t 19) (.t 21),
  []⟩, ⟨some 23, none, .pk (.t 18) (.t 22) (.c (.c (.b false))), []⟩, ⟨some 24, none, .mv (.t 23), []⟩, ⟨some 25, some (24, true), .mv (.t 0), []⟩, ⟨some 26, some (24, true), .mv (.t 7), []⟩, ⟨some 27,
  some (24, true), .sx (.t 25) (.t 26), []⟩, ⟨some 28, some (24, true), .call 84 [.t 27], []⟩, ⟨some 29, some (24, true), .mv (.t 28), []⟩, ⟨some 30, some (29, false), .mv (.t 0), []⟩, ⟨some 31, some
  (29, false), .mv (.t 7), []⟩, ⟨some 32, some (29, false), .sx (.t 30) (.t 31), []⟩, ⟨some 33, some (29, false), .bin .eql (.t 32) (.c (.c (.i .u8 (.ofNat 47)))), []⟩, ⟨some 34, some (24, true), .pk
  (.t 29) (.c (.c (.b true))) (.t 33), []⟩, ⟨some 35, some (24, true), .mv (.t 34), []⟩, ⟨some 36, some (35, false), .mv (.t 0), []⟩, ⟨some 37, some (35, false), .mv (.t 7), []⟩, ⟨some 38, some (35,
  false), .sx (.t 36) (.t 37), []⟩, ⟨some 39, some (35, false), .bin .eql (.t 38) (.c (.c (.i .u8 (.ofNat 62)))), []⟩, ⟨some 40, some (24, true), .pk (.t 35) (.c (.c (.b true))) (.t 39), []⟩, ⟨some 41,
  none, .pk (.t 24) (.t 40) (.c (.c (.b false))), []⟩, ⟨some 6, none, .mv (.t 41), []⟩]) .ret)), [(6, none)]⟩

theorem ok52 : FnR Tryz.prog 0 52 cf52 := fnC_ok Tryz.func52 (by kernel_rfl)

def cf53 : CF := ⟨40, .seq (.reg [⟨some 4, none, .mv (.c (.c (.s []))), []⟩]) (.seq (.reg [⟨some 5, none, .mv (.c (.c (.s []))), []⟩]) (.seq (.seq (.reg [⟨some 6, none, .mv (.c (.c (.i .i64 (.ofNat 0)))), []⟩]) (.blk
  0 (.loop [8, 7, 5, 16, 12, 6, 0, 1, 4] (.seq (.seq (.reg [⟨some 9, none, .mv (.t 6), []⟩, ⟨some 10, none, .mv (.t 0), []⟩, ⟨some 11, none, .len false (.t 10), []⟩, ⟨some 12, none, .bin .lss (.t 9)
  (.t 11), []⟩]) (.cond (.t 12) .skip (.exit 0))) (.blk 1 (.seq (.seq (.reg [⟨some 13, none, .mv (.t 0), []⟩, ⟨some 14, none, .mv (.t 6), []⟩, ⟨some 15, none, .sx (.t 13) (.t 14), []⟩, ⟨some 16, none,
  .bin .eql (.t 15) (.c (.c (.i .u8 (.ofNat 38)))), []⟩]) (.cond (.t 16) (.seq (.reg [⟨some 18, none, .mv (.t 0), []⟩, ⟨some 19, none, .mv (.t 6), []⟩, ⟨some 20, none, .mv (.t 1), []⟩, ⟨some 21, none,
  .call 85 [.t 18, .t 19, .t 20], []⟩, ⟨some 17, none, .mv (.t 21), []⟩, ⟨some 22, none, .ext 0 (.t 17), []⟩, ⟨some 23, none, .ext 1 (.t 17), []⟩, ⟨some 7, none, .mv (.t 22), []⟩, ⟨some 8, none, .mv
  (.t 23), []⟩]) (.seq (.reg [⟨some 24, none, .mv (.t 5), []⟩, ⟨some 25, none, .mv (.t 7), []⟩, ⟨some 26, none, .bin .add (.t 24) (.t 25), []⟩, ⟨some 5, none, .mv (.t 26), []⟩]) (.seq (.reg [⟨some 27,
  none, .mv (.t 6), []⟩, ⟨some 28, none, .mv (.t 8), []⟩, ⟨some 29, none, .bin .add (.t 27) (.t 28), []⟩, ⟨some 6, none, .mv (.t 29), []⟩]) (.exit 1)))) .skip)) (.seq (.reg [⟨some 30, none, .mv (.t 5),
  []⟩, ⟨some 31, none, .mv (.t 0), []⟩, ⟨some 32, none, .mv (.t 6), []⟩, ⟨some 33, none, .mv (.t 6), []⟩, ⟨some 34, none, .bin .add (.t 33) (.c (.c (.i .i64 (.ofNat 1)))), []⟩, ⟨some 35, none, .sls (.t
  31) (some (.t 32)) (some (.t 34)), []⟩, ⟨some 36, none, .bin .add (.t 30) (.t 35), []⟩, ⟨some 5, none, .mv (.t 36), []⟩]) (.reg [⟨some 37, none, .mv (.t 6), []⟩, ⟨some 38, none, .bin .add (.t 37) (.c
  (.c (.i .i64 (.ofNat 1)))), []⟩, ⟨some 6, none, .mv (.t 38), []⟩])))))))) (.seq (.reg [⟨some 39, none, .mv (.t 5), []⟩, ⟨some 4, none, .mv (.t 39), []⟩]) .ret))), [(4, none)]⟩

theorem ok53 : FnR Tryz.prog 0 53 cf53 := fnC_ok Tryz.func53 (by kernel_rfl)

def cf54 : CF := ⟨39, .seq (.reg [⟨some 4, none, .new 56 (.c (.a [.i .i64 (.ofNat 0), .s [], .s [], .sl none 0 0 0, .b false])), []⟩, ⟨some 5, none, .mv (.c (.c (.i .i64 (.ofNat 0)))), []⟩, ⟨some 6, none, .mv (.c (.c
  (.b false))), []⟩]) (.seq (.reg [⟨some 8, none, .mv (.t 1), []⟩, ⟨some 7, none, .mv (.t 8), []⟩]) (.seq (.blk 0 (.loop [29, 7, 0, 1, 4, 5, 6] (.seq (.seq (.dreg [⟨some 9, none, .mv (.t 7), []⟩, ⟨some
  10, none, .mv (.t 0), []⟩, ⟨some 11, none, .len false (.t 10), []⟩, ⟨some 12, none, .bin .lss (.t 9) (.t 11), []⟩, ⟨some 13, none, .mv (.t 12), []⟩, ⟨some 14, some (13, true), .mv (.t 0), []⟩, ⟨some
  15, some (13, true), .mv (.t 7), []⟩, ⟨some 16, some (13, true), .sx (.t 14) (.t 15), []⟩, ⟨some 17, some (13, true), .bin .neq (.t 16) (.c (.c (.i .u8 (.ofNat 60)))), []⟩, ⟨some 18, none, .pk (.t
  13) (.t 17) (.c (.c (.b false))), []⟩, ⟨some 19, none, .mv (.t 18), []⟩, ⟨some 20, some (19, true), .mv (.t 0), []⟩, ⟨some 21, some (19, true), .mv (.t 7), []⟩, ⟨some 22, some (19, true), .sx (.t 20)
  (.t 21), []⟩, ⟨some 24, some (19, true), .mv (.t 0), []⟩, ⟨some 25, some (19, true), .mv (.t 1), []⟩, ⟨some 26, some (19, true), .sx (.t 24) (.t 25), []⟩, ⟨some 23, some (19, true), .call 84 [.t 22],
  []⟩, ⟨some 27, some (19, true), .call 84 [.t 26], []⟩, ⟨some 28, some (19, true), .bq false (.t 23) (.t 27), []⟩, ⟨some 29, none, .pk (.t 19) (.t 28) (.c (.c (.b false))), []⟩]) (.cond (.t 29) .skip
  (.exit 0))) (.blk 1 (.reg [⟨some 30, none, .mv (.t 7), []⟩, ⟨some 31, none, .bin .add (.t 30) (.c (.c (.i .i64 (.ofNat 1)))), []⟩, ⟨some 7, none, .mv (.t 31), []⟩]))))) (.seq (.reg [⟨some 32, none,
  .mv (.t 0), []⟩, ⟨some 33, none, .mv (.t 1), []⟩, ⟨some 34, none, .mv (.t 7), []⟩, ⟨some 35, none, .sls (.t 32) (some (.t 33)) (some (.t 34)), []⟩, ⟨some 36, none, .call 53 [.t 35, .c (.c (.b
  false))], []⟩, ⟨some 37, none, .bld [.i .i64 (.ofNat 0), .s [], .s [], .sl none 0 0 0, .b false] [(0, (1, .c (.c (.i .i64 (.ofNat 3))))), (2, (1, .t 36))], []⟩, ⟨some 38, none, .mv (.t 7), []⟩,
  ⟨none, none, .st 5 (.t 4) (.t 37), []⟩, ⟨some 5, none, .mv (.t 38), []⟩, ⟨some 6, none, .mv (.c (.c (.b true))), []⟩]) .ret))), [(4, some (5, true)), (5, none), (6, none)]⟩

theorem ok54 : FnR Tryz.prog 0 54 cf54 := fnC_ok Tryz.func54 (by kernel_rfl)

def cf55 : CF := ⟨15, .seq (.reg [⟨some 4, none, .mv (.c (.c (.b false))), []⟩]) (.seq (.reg [⟨some 5, none, .mv (.t 1), []⟩, ⟨some 6, none, .mv (.t 0), []⟩, ⟨some 7, none, .len false (.t 6), []⟩, ⟨some 8, none, .bin
  .lss (.t 5) (.t 7), []⟩, ⟨some 9, none, .mv (.t 8), []⟩, ⟨some 10, some (9, true), .mv (.t 0), []⟩, ⟨some 11, some (9, true), .mv (.t 1), []⟩, ⟨some 12, some (9, true), .sx (.t 10) (.t 11), []⟩,
  ⟨some 13, some (9, true), .call 86 [.t 12], []⟩, ⟨some 14, none, .pk (.t 9) (.t 13) (.c (.c (.b false))), []⟩, ⟨some 4, none, .mv (.t 14), []⟩]) .ret), [(4, none)]⟩

theorem ok55 : FnR Tryz.prog 0 55 cf55 := fnC_ok Tryz.func55 (by kernel_rfl)

def cf56 : CF := ⟨112, .seq (.reg [⟨some 6, none, .new 56 (.c (.a [.i .i64 (.ofNat 0), .s [], .s [], .sl none 0 0 0, .b false])), []⟩, ⟨some 7, none, .mv (.c (.c (.i .i64 (.ofNat 0)))), []⟩, ⟨some 8, none, .mv (.c
  (.c (.b false))), []⟩]) (.seq (.reg [⟨some 13, none, .mv (.t 0), []⟩, ⟨some 14, none, .mv (.t 1), []⟩, ⟨some 15, none, .call 87 [.t 13, .t 14, .c (.c (.s [47, 62]))], []⟩, ⟨some 9, none, .mv (.t 15),
  []⟩]) (.seq (.reg [⟨some 16, none, .mv (.t 2), []⟩, ⟨some 17, none, .mv (.t 0), []⟩, ⟨some 18, none, .mv (.t 1), []⟩, ⟨some 19, none, .mv (.t 9), []⟩, ⟨some 20, none, .sls (.t 17) (some (.t 18))
  (some (.t 19)), []⟩, ⟨some 21, none, .call 88 [.t 20], []⟩, ⟨some 22, none, .bld [.i .i64 (.ofNat 0), .s [], .s [], .sl none 0 0 0, .b false] [(0, (1, .t 16)), (1, (1, .t 21))], []⟩, ⟨some 10, none,
  .new 56 (.c (.a [.i .i64 (.ofNat 0), .s [], .s [], .sl none 0 0 0, .b false])), []⟩, ⟨none, none, .st 5 (.t 10) (.t 22), []⟩]) (.blk 0 (.loop [103, 94, 12, 80, 11, 10, 53, 51, 44, 38, 9, 0, 1, 2, 6,
  7, 8] (.blk 1 (.seq (.blk 2 (.loop [103, 94, 12, 80, 11, 10, 53, 51, 44, 38, 9, 0, 1, 2, 6, 7, 8] (.seq (.seq (.reg [⟨some 23, none, .mv (.t 9), []⟩, ⟨some 24, none, .mv (.t 0), []⟩, ⟨some 25, none,
  .len false (.t 24), []⟩, ⟨some 26, none, .bin .lss (.t 23) (.t 25), []⟩, ⟨some 27, none, .mv (.t 26), []⟩, ⟨some 28, some (27, true), .mv (.t 0), []⟩, ⟨some 29, some (27, true), .mv (.t 9), []⟩,
  ⟨some 30, some (27, true), .sx (.t 28) (.t 29), []⟩, ⟨some 31, some (27, true), .call 84 [.t 30], []⟩, ⟨some 32, some (27, true), .mv (.t 31), []⟩, ⟨some 33, some (32, false), .mv (.t 0), []⟩, ⟨some
  34, some (32, false), .mv (.t 9), []⟩, ⟨some 35, some (32, false), .sx (.t 33) (.t 34), []⟩, ⟨some 36, some (32, false), .bin .eql (.t 35) (.c (.c (.i .u8 (.ofNat 47)))), []⟩, ⟨some 37, some (27,
  true), .pk (.t 32) (.c (.c (.b true))) (.t 36), []⟩, ⟨some 38, none, .pk (.t 27) (.t 37) (.c (.c (.b false))), []⟩]) (.cond (.t 38) .skip (.exit 2))) (.blk 3 (.reg [⟨some 39, none, .mv (.t 9), []⟩,
  ⟨some 40, none, .bin .add (.t 39) (.c (.c (.i .i64 (.ofNat 1)))), []⟩, ⟨some 9, none, .mv (.t 40), []⟩]))))) (.seq (.seq (.reg [⟨some 41, none, .mv (.t 9), []⟩, ⟨some 42, none, .mv (.t 0), []⟩, ⟨some
  43, none, .len false (.t 42), []⟩, ⟨some 44, none, .bin .geq (.t 41) (.t 43), []⟩]) (.cond (.t 44) (.seq (.reg [⟨some 45, none, .bld [.i .i64 (.ofNat 0), .s [], .s [], .sl none 0 0 0, .b false] [],
  []⟩, ⟨some 46, none, .mv (.t 0), []⟩, ⟨some 47, none, .len false (.t 46), []⟩, ⟨none, none, .st 5 (.t 6) (.t 45), []⟩, ⟨some 7, none, .mv (.t 47), []⟩, ⟨some 8, none, .mv (.c (.c (.b false))), []⟩])
  .ret) .skip)) (.seq (.seq (.reg [⟨some 48, none, .mv (.t 0), []⟩, ⟨some 49, none, .mv (.t 9), []⟩, ⟨some 50, none, .sx (.t 48) (.t 49), []⟩, ⟨some 51, none, .bin .eql (.t 50) (.c (.c (.i .u8 (.ofNat
  62)))), []⟩]) (.cond (.t 51) (.seq (.seq (.reg [⟨some 52, none, .mv (.t 2), []⟩, ⟨some 53, none, .bin .eql (.t 52) (.c (.c (.i .i64 (.ofNat 2)))), []⟩]) (.cond (.t 53) (.reg [⟨some 54, none, .fa 3
  (.t 10), []⟩, ⟨none, none, .st 1 (.t 54) (.c (.c (.sl none 0 0 0))), []⟩]) .skip)) (.seq (.reg [⟨some 55, none, .ld 5 true (.t 10), []⟩, ⟨some 56, none, .mv (.t 9), []⟩, ⟨some 57, none, .bin .add (.t
  56) (.c (.c (.i .i64 (.ofNat 1)))), []⟩, ⟨none, none, .st 5 (.t 6) (.t 55), []⟩, ⟨some 7, none, .mv (.t 57), []⟩, ⟨some 8, none, .mv (.c (.c (.b true))), []⟩]) .ret)) .skip)) (.seq (.reg [⟨some 58,
  none, .mv (.t 0), []⟩, ⟨some 59, none, .mv (.t 9), []⟩, ⟨some 60, none, .bin .add (.t 59) (.c (.c (.i .i64 (.ofNat 1)))), []⟩, ⟨some 61, none, .call 87 [.t 58, .t 60, .c (.c (.s [47, 62, 61]))], []⟩,
  ⟨some 11, none, .mv (.t 61), []⟩]) (.seq (.reg [⟨some 62, none, .mv (.t 0), []⟩, ⟨some 63, none, .mv (.t 9), []⟩, ⟨some 64, none, .mv (.t 11), []⟩, ⟨some 65, none, .sls (.t 62) (some (.t 63)) (some
  (.t 64)), []⟩, ⟨some 66, none, .call 88 [.t 65], []⟩, ⟨some 67, none, .bld [.s [], .s []] [(0, (1, .t 66))], []⟩, ⟨some 12, none, .new 84 (.c (.a [.s [], .s []])), []⟩, ⟨none, none, .st 2 (.t 12) (.t
  67), []⟩]) (.seq (.reg [⟨some 68, none, .mv (.t 0), []⟩, ⟨some 69, none, .mv (.t 11), []⟩, ⟨some 70, none, .call 89 [.t 68, .t 69], []⟩, ⟨some 9, none, .mv (.t 70), []⟩]) (.seq (.seq (.reg [⟨some 71,
  none, .mv (.t 9), []⟩, ⟨some 72, none, .mv (.t 0), []⟩, ⟨some 73, none, .len false (.t 72), []⟩, ⟨some 74, none, .bin .lss (.t 71) (.t 73), []⟩, ⟨some 75, none, .mv (.t 74), []⟩, ⟨some 76, some (75,
  true), .mv (.t 0), []⟩, ⟨some 77, some (75, true), .mv (.t 9), []⟩, ⟨some 78, some (75, true), .sx (.t 76) (.t 77), []⟩, ⟨some 79, some (75, true), .bin .eql (.t 78) (.c (.c (.i .u8 (.ofNat 61)))),
  []⟩, ⟨some 80, none, .pk (.t 75) (.t 79) (.c (.c (.b false))), []⟩]) (.cond (.t 80) (.seq (.reg [⟨some 82, none, .mv (.t 0), []⟩, ⟨some 83, none, .mv (.t 0), []⟩, ⟨some 84, none, .mv (.t 9), []⟩,
  ⟨some 85, none, .bin .add (.t 84) (.c (.c (.i .i64 (.ofNat 1)))), []⟩, ⟨some 86, none, .call 89 [.t 83, .t 85], []⟩, ⟨some 87, none, .call 90 [.t 82, .t 86], []⟩, ⟨some 81, none, .mv (.t 87), []⟩,
  ⟨some 88, none, .ext 0 (.t 81), []⟩, ⟨some 89, none, .ext 1 (.t 81), []⟩, ⟨some 90, none, .fa 1 (.t 12), []⟩, ⟨none, none, .st 1 (.t 90) (.t 88), []⟩, ⟨some 9, none, .mv (.t 89), []⟩]) (.seq (.reg
  [⟨some 91, none, .mv (.t 9), []⟩, ⟨some 92, none, .mv (.t 0), []⟩, ⟨some 93, none, .len false (.t 92), []⟩, ⟨some 94, none, .bin .gtr (.t 91) (.t 93), []⟩]) (.cond (.t 94) (.seq (.reg [⟨some 95,
  none, .bld [.i .i64 (.ofNat 0), .s [], .s [], .sl none 0 0 0, .b false] [], []⟩, ⟨some 96, none, .mv (.t 0), []⟩, ⟨some 97, none, .len false (.t 96), []⟩, ⟨none, none, .st 5 (.t 6) (.t 95), []⟩,
  ⟨some 7, none, .mv (.t 97), []⟩, ⟨some 8, none, .mv (.c (.c (.b false))), []⟩]) .ret) .skip))) .skip)) (.seq (.reg [⟨some 98, none, .fa 3 (.t 10), []⟩, ⟨some 99, none, .ld 1 false (.t 98), []⟩, ⟨some
  100, none, .fa 0 (.t 12), []⟩, ⟨some 101, none, .ld 1 false (.t 100), []⟩, ⟨some 102, none, .call 91 [.t 99, .t 101], []⟩, ⟨some 103, none, .un .not (.t 102), []⟩]) (.cond (.t 103) (.reg [⟨some 104,
  none, .fa 3 (.t 10), []⟩, ⟨some 105, none, .ld 1 false (.t 104), []⟩, ⟨some 106, none, .fa 0 (.t 12), []⟩, ⟨some 107, none, .ld 1 false (.t 106), []⟩, ⟨some 108, none, .fa 1 (.t 12), []⟩, ⟨some 109,
  none, .ld 1 false (.t 108), []⟩, ⟨some 110, none, .call 92 [.t 105, .t 107, .t 109], []⟩, ⟨some 111, none, .fa 3 (.t 10), []⟩, ⟨none, none, .st 1 (.t 111) (.t 110), []⟩]) .skip)))))))))))))), [(6,
  some (5, true)), (7, none), (8, none)]⟩

theorem ok56 : FnR Tryz.prog 0 56 cf56 := fnC_ok Tryz.func56 (by kernel_rfl)

def cf57 : CF := ⟨30, .seq (.reg [⟨some 6, none, .mv (.c (.c (.b false))), []⟩]) (.seq (.reg [⟨some 7, none, .mv (.t 1), []⟩, ⟨some 8, none, .bin .geq (.t 7) (.c (.c (.i .i64 (.ofNat 0)))), []⟩, ⟨some 9, none, .mv
  (.t 8), []⟩, ⟨some 10, some (9, true), .mv (.t 2), []⟩, ⟨some 11, some (9, true), .len false (.t 10), []⟩, ⟨some 12, some (9, true), .mv (.t 0), []⟩, ⟨some 13, some (9, true), .len false (.t 12),
  []⟩, ⟨some 14, some (9, true), .mv (.t 1), []⟩, ⟨some 15, some (9, true), .bin .sub (.t 13) (.t 14), []⟩, ⟨some 16, some (9, true), .bin .leq (.t 11) (.t 15), []⟩, ⟨some 17, none, .pk (.t 9) (.t 16)
  (.c (.c (.b false))), []⟩, ⟨some 18, none, .mv (.t 17), []⟩, ⟨some 19, some (18, true), .mv (.t 0), []⟩, ⟨some 20, some (18, true), .mv (.t 1), []⟩, ⟨some 21, some (18, true), .mv (.t 1), []⟩, ⟨some
  22, some (18, true), .mv (.t 2), []⟩, ⟨some 23, some (18, true), .len false (.t 22), []⟩, ⟨some 24, some (18, true), .bin .add (.t 21) (.t 23), []⟩, ⟨some 25, some (18, true), .sls (.t 19) (some (.t
  20)) (some (.t 24)), []⟩, ⟨some 26, some (18, true), .call 51 [.t 25], []⟩, ⟨some 27, some (18, true), .mv (.t 2), []⟩, ⟨some 28, some (18, true), .bin .eql (.t 26) (.t 27), []⟩, ⟨some 29, none, .pk
  (.t 18) (.t 28) (.c (.c (.b false))), []⟩, ⟨some 6, none, .mv (.t 29), []⟩]) .ret), [(6, none)]⟩

theorem ok57 : FnR Tryz.prog 0 57 cf57 := fnC_ok Tryz.func57 (by kernel_rfl)

def cf62 : CF := ⟨19, .seq (.reg [⟨some 4, none, .mv (.c (.c (.i .i64 (.ofNat 0)))), []⟩]) (.seq (.seq (.reg [⟨some 6, none, .mv (.t 0), []⟩, ⟨some 7, none, .len true (.t 6), []⟩, ⟨some 8, none, .mv (.c (.c (.i .i64
  (.ofNat 0)))), []⟩]) (.blk 0 (.loop [16, 5, 9, 8, 7, 0, 1, 4] (.seq (.reg [⟨some 9, none, .bin .lss (.t 8) (.t 7), []⟩]) (.seq (.cond (.t 9) .skip (.exit 0)) (.seq (.blk 1 (.seq (.reg [⟨some 10,
  none, .mv (.t 8), []⟩, ⟨some 5, none, .mv (.t 10), []⟩]) (.seq (.reg [⟨some 11, none, .mv (.t 1), []⟩, ⟨some 12, none, .mv (.t 0), []⟩, ⟨some 13, none, .mv (.t 5), []⟩, ⟨some 14, none, .ia 2 (.t 12)
  (.t 13), []⟩, ⟨some 15, none, .ld 2 true (.t 14), []⟩, ⟨some 16, none, .callv (.t 11) [.t 15], []⟩]) (.cond (.t 16) (.seq (.reg [⟨some 17, none, .mv (.t 5), []⟩, ⟨some 4, none, .mv (.t 17), []⟩])
  .ret) .skip)))) (.reg [⟨some 18, none, .bin .add (.t 8) (.c (.c (.i .i64 (.ofNat 1)))), []⟩, ⟨some 8, none, .mv (.t 18), []⟩]))))))) (.seq (.reg [⟨some 4, none, .mv (.c (.c (.i .i64 (.negSucc 0)))),
  []⟩]) .ret)), [(4, none)]⟩

theorem ok62 : FnR Tryz.prog 0 62 cf62 := fnC_ok Tryz.func62 (by kernel_rfl)

def cf63 : CF := ⟨25, .seq (.reg [⟨some 2, none, .mv (.c (.c (.p none))), []⟩]) (.seq (.seq (.reg [⟨some 3, none, .mv (.t 0), []⟩, ⟨some 4, none, .nc (.t 3), []⟩, ⟨some 5, none, .fa 3 (.t 4), []⟩, ⟨some 6, none, .ld
  1 false (.t 5), []⟩, ⟨some 7, none, .len true (.t 6), []⟩, ⟨some 8, none, .bin .eql (.t 7) (.c (.c (.i .i64 (.ofNat 0)))), []⟩]) (.cond (.t 8) (.seq (.reg [⟨some 9, none, .mv (.t 0), []⟩, ⟨some 10,
  none, .nc (.t 9), []⟩, ⟨some 11, none, .fa 0 (.t 10), []⟩, ⟨some 12, none, .ld 1 false (.t 11), []⟩, ⟨some 2, none, .mv (.t 12), []⟩]) .ret) .skip)) (.seq (.dreg [⟨some 13, none, .mv (.t 0), []⟩,
  ⟨some 14, none, .nc (.t 13), []⟩, ⟨some 15, none, .fa 3 (.t 14), []⟩, ⟨some 16, none, .ld 1 false (.t 15), []⟩, ⟨some 17, none, .mv (.t 0), []⟩, ⟨some 18, none, .nc (.t 17), []⟩, ⟨some 19, none, .fa
  3 (.t 18), []⟩, ⟨some 20, none, .ld 1 false (.t 19), []⟩, ⟨some 21, none, .len true (.t 20), []⟩, ⟨some 22, none, .bin .sub (.t 21) (.c (.c (.i .i64 (.ofNat 1)))), []⟩, ⟨some 23, none, .ia 1 (.t 16)
  (.t 22), []⟩, ⟨some 24, none, .ld 1 false (.t 23), []⟩, ⟨some 2, none, .mv (.t 24), []⟩]) .ret)), [(2, none)]⟩

theorem ok63 : FnR Tryz.prog 0 63 cf63 := fnC_ok Tryz.func63 (by kernel_rfl)

def cf64 : CF := ⟨13, .seq (.reg [⟨some 2, none, .mv (.c (.c (.b false))), []⟩]) (.seq (.seq (.reg [⟨some 3, none, .mv (.t 0), []⟩]) (.blk 0 (.seq (.seq (.reg [⟨some 5, none, .bin .eql (.t 3) (.c (.c (.s [116, 105,
  116, 108, 101]))), []⟩, ⟨some 4, none, .mv (.t 5), []⟩]) (.cond (.t 4) .skip (.seq (.reg [⟨some 6, none, .bin .eql (.t 3) (.c (.c (.s [116, 101, 120, 116, 97, 114, 101, 97]))), []⟩, ⟨some 4, none,
  .mv (.t 6), []⟩]) (.cond (.t 4) .skip (.seq (.reg [⟨some 7, none, .bin .eql (.t 3) (.c (.c (.s [115, 116, 121, 108, 101]))), []⟩, ⟨some 4, none, .mv (.t 7), []⟩]) (.cond (.t 4) .skip (.seq (.reg
  [⟨some 8, none, .bin .eql (.t 3) (.c (.c (.s [115, 99, 114, 105, 112, 116]))), []⟩, ⟨some 4, none, .mv (.t 8), []⟩]) (.cond (.t 4) .skip (.seq (.reg [⟨some 9, none, .bin .eql (.t 3) (.c (.c (.s [120,
  109, 112]))), []⟩, ⟨some 4, none, .mv (.t 9), []⟩]) (.cond (.t 4) .skip (.seq (.reg [⟨some 10, none, .bin .eql (.t 3) (.c (.c (.s [105, 102, 114, 97, 109, 101]))), []⟩, ⟨some 4, none, .mv (.t 10),
  []⟩]) (.cond (.t 4) .skip (.seq (.reg [⟨some 11, none, .bin .eql (.t 3) (.c (.c (.s [110, 111, 101, 109, 98, 101, 100]))), []⟩, ⟨some 4, none, .mv (.t 11), []⟩]) (.cond (.t 4) .skip (.reg [⟨some 12,
  none, .bin .eql (.t 3) (.c (.c (.s [110, 111, 102, 114, 97, 109, 101, 115]))), []⟩, ⟨some 4, none, .mv (.t 12), []⟩]))))))))))))))) (.cond (.t 4) (.seq (.reg [⟨some 2, none, .mv (.c (.c (.b true))),
  []⟩]) .ret) .skip)))) (.seq (.reg [⟨some 2, none, .mv (.c (.c (.b false))), []⟩]) .ret)), [(2, none)]⟩

theorem ok64 : FnR Tryz.prog 0 64 cf64 := fnC_ok Tryz.func64 (by kernel_rfl)

def cf65 : CF := ⟨56, .seq (.reg [⟨some 7, none, .mv (.t 0), []⟩, ⟨some 8, none, .call 95 [.t 7], []⟩, ⟨some 6, none, .mv (.t 8), []⟩, ⟨some 9, none, .ext 0 (.t 6), []⟩, ⟨some 10, none, .ext 1 (.t 6), []⟩, ⟨some 4,
  none, .mv (.t 9), []⟩, ⟨some 5, none, .mv (.t 10), []⟩]) (.blk 0 (.seq (.reg [⟨some 18, none, .mv (.t 4), []⟩, ⟨some 19, none, .mv (.t 0), []⟩, ⟨some 20, none, .nc (.t 19), []⟩, ⟨some 21, none, .fa 0
  (.t 20), []⟩, ⟨some 22, none, .ld 1 false (.t 21), []⟩, ⟨some 23, none, .pq false (.t 18) (.t 22), []⟩, ⟨some 17, none, .mv (.t 23), []⟩]) (.cond (.t 17) .skip (.seq (.reg [⟨some 25, none, .mv (.t
  5), []⟩, ⟨some 26, none, .bin .gtr (.t 25) (.c (.c (.i .i64 (.ofNat 0)))), []⟩, ⟨some 27, none, .mv (.t 26), []⟩, ⟨some 28, some (27, true), .mv (.t 4), []⟩, ⟨some 29, some (27, true), .nc (.t 28),
  []⟩, ⟨some 30, some (27, true), .fa 6 (.t 29), []⟩, ⟨some 31, some (27, true), .ld 1 false (.t 30), []⟩, ⟨some 32, some (27, true), .mv (.t 5), []⟩, ⟨some 33, some (27, true), .bin .sub (.t 32) (.c
  (.c (.i .i64 (.ofNat 1)))), []⟩, ⟨some 34, some (27, true), .ia 1 (.t 31) (.t 33), []⟩, ⟨some 35, some (27, true), .ld 1 false (.t 34), []⟩, ⟨some 36, some (27, true), .nc (.t 35), []⟩, ⟨some 37,
  some (27, true), .fa 1 (.t 36), []⟩, ⟨some 38, some (27, true), .ld 1 false (.t 37), []⟩, ⟨some 39, some (27, true), .bin .eql (.t 38) (.c (.c (.i .i64 (.ofNat 3)))), []⟩, ⟨some 40, none, .pk (.t 27)
  (.t 39) (.c (.c (.b false))), []⟩, ⟨some 24, none, .mv (.t 40), []⟩]) (.cond (.t 24) (.reg [⟨some 41, none, .mv (.t 4), []⟩, ⟨some 42, none, .nc (.t 41), []⟩, ⟨some 43, none, .fa 6 (.t 42), []⟩,
  ⟨some 44, none, .ld 1 false (.t 43), []⟩, ⟨some 45, none, .mv (.t 5), []⟩, ⟨some 46, none, .bin .sub (.t 45) (.c (.c (.i .i64 (.ofNat 1)))), []⟩, ⟨some 47, none, .ia 1 (.t 44) (.t 46), []⟩, ⟨some 48,
  none, .ld 1 false (.t 47), []⟩, ⟨some 49, none, .nc (.t 48), []⟩, ⟨some 50, none, .fa 3 (.t 49), []⟩, ⟨some 51, none, .ld 1 false (.t 50), []⟩, ⟨some 52, none, .mv (.t 1), []⟩, ⟨some 53, none, .bin
  .add (.t 51) (.t 52), []⟩, ⟨some 54, none, .nc (.t 48), []⟩, ⟨some 55, none, .fa 3 (.t 54), []⟩, ⟨none, none, .st 1 (.t 55) (.t 53), []⟩]) (.reg [⟨some 11, none, .mv (.t 4), []⟩, ⟨some 12, none, .mv
  (.t 0), []⟩, ⟨some 13, none, .mv (.t 1), []⟩, ⟨some 14, none, .call 97 [.t 12, .c (.c (.i .i64 (.ofNat 3))), .c (.c (.s [])), .t 13, .c (.c (.sl none 0 0 0))], []⟩, ⟨some 15, none, .mv (.t 5), []⟩,
  ⟨some 16, none, .call 96 [.t 11, .t 14, .t 15], []⟩])))))), []⟩

theorem ok65 : FnR Tryz.prog 0 65 cf65 := fnC_ok Tryz.func65 (by kernel_rfl)

def cf66 : CF := ⟨14, .seq (.reg [⟨some 2, none, .new 56 (.t 0), []⟩, ⟨some 4, none, .mv (.c (.c (.b false))), []⟩]) (.seq (.reg [⟨some 5, none, .fa 0 (.t 2), []⟩, ⟨some 6, none, .ld 1 false (.t 5), []⟩, ⟨some 7,
  none, .bin .eql (.t 6) (.c (.c (.i .i64 (.ofNat 2)))), []⟩, ⟨some 8, none, .mv (.t 7), []⟩, ⟨some 9, some (8, true), .fa 1 (.t 2), []⟩, ⟨some 10, some (8, true), .ld 1 false (.t 9), []⟩, ⟨some 11,
  some (8, true), .mv (.t 1), []⟩, ⟨some 12, some (8, true), .call 38 [.t 10, .t 11], []⟩, ⟨some 13, none, .pk (.t 8) (.t 12) (.c (.c (.b false))), []⟩, ⟨some 4, none, .mv (.t 13), []⟩]) .ret), [(4,
  none)]⟩

theorem ok66 : FnR Tryz.prog 0 66 cf66 := fnC_ok Tryz.func66 (by kernel_rfl)

def cf67 : CF := ⟨20, .dreg [⟨some 4, none, .mv (.t 0), []⟩, ⟨some 5, none, .mv (.t 0), []⟩, ⟨some 6, none, .nc (.t 5), []⟩, ⟨some 7, none, .fa 3 (.t 6), []⟩, ⟨some 8, none, .ld 1 false (.t 7), []⟩, ⟨some 9, none,
  .mv (.t 0), []⟩, ⟨some 10, none, .nc (.t 9), []⟩, ⟨some 11, none, .fa 3 (.t 10), []⟩, ⟨some 12, none, .ld 1 false (.t 11), []⟩, ⟨some 13, none, .len true (.t 12), []⟩, ⟨some 14, none, .mv (.t 1),
  []⟩, ⟨some 15, none, .bin .sub (.t 13) (.t 14), []⟩, ⟨some 16, none, .mx (.c (.c (.i .i64 (.ofNat 0)))) (.t 15), []⟩, ⟨some 17, none, .slc 1 (.t 8) none (some (.t 16)) none, []⟩, ⟨some 18, none, .nc
  (.t 4), []⟩, ⟨some 19, none, .fa 3 (.t 18), []⟩, ⟨none, none, .st 1 (.t 19) (.t 17), []⟩], []⟩

theorem ok67 : FnR Tryz.prog 0 67 cf67 := fnC_ok Tryz.func67 (by kernel_rfl)

def cf68 : CF := ⟨34, .seq (.reg [⟨some 3, none, .new 56 (.t 1), []⟩, ⟨some 4, none, .mv (.c (.c (.b false))), []⟩]) (.seq (.blk 0 (.seq (.reg [⟨some 9, none, .fa 0 (.t 3), []⟩, ⟨some 10, none, .ld 1 false (.t 9),
  []⟩, ⟨some 11, none, .bin .eql (.t 10) (.c (.c (.i .i64 (.ofNat 4)))), []⟩, ⟨some 8, none, .mv (.t 11), []⟩]) (.cond (.t 8) (.reg [⟨some 12, none, .mv (.t 0), []⟩, ⟨some 13, none, .mv (.t 0), []⟩,
  ⟨some 14, none, .fa 2 (.t 3), []⟩, ⟨some 15, none, .ld 1 false (.t 14), []⟩, ⟨some 16, none, .call 97 [.t 13, .c (.c (.i .i64 (.ofNat 4))), .c (.c (.s [])), .t 15, .c (.c (.sl none 0 0 0))], []⟩,
  ⟨some 17, none, .call 98 [.t 12, .t 16], []⟩]) (.seq (.reg [⟨some 19, none, .fa 0 (.t 3), []⟩, ⟨some 20, none, .ld 1 false (.t 19), []⟩, ⟨some 21, none, .bin .eql (.t 20) (.c (.c (.i .i64 (.ofNat
  5)))), []⟩, ⟨some 18, none, .mv (.t 21), []⟩]) (.cond (.t 18) (.seq (.reg [⟨some 22, none, .mv (.t 0), []⟩, ⟨some 23, none, .mv (.t 0), []⟩, ⟨some 24, none, .fa 1 (.t 3), []⟩, ⟨some 25, none, .ld 1
  false (.t 24), []⟩, ⟨some 26, none, .call 97 [.t 23, .c (.c (.i .i64 (.ofNat 5))), .t 25, .c (.c (.s [])), .c (.c (.sl none 0 0 0))], []⟩, ⟨some 27, none, .call 98 [.t 22, .t 26], []⟩]) (.reg [⟨some
  28, none, .mv (.t 0), []⟩, ⟨some 29, none, .nc (.t 28), []⟩, ⟨some 30, none, .fa 5 (.t 29), []⟩, ⟨none, none, .st 1 (.t 30) (.c (.c (.i .i64 (.ofNat 1)))), []⟩])) (.seq (.reg [⟨some 32, none, .ld 5
  true (.t 3), []⟩, ⟨some 33, none, .call 99 [.t 32], []⟩, ⟨some 31, none, .mv (.t 33), []⟩]) (.cond (.t 31) .skip (.seq (.reg [⟨some 5, none, .mv (.t 0), []⟩, ⟨some 6, none, .nc (.t 5), []⟩, ⟨some 7,
  none, .fa 5 (.t 6), []⟩, ⟨none, none, .st 1 (.t 7) (.c (.c (.i .i64 (.ofNat 1)))), []⟩]) (.seq (.reg [⟨some 4, none, .mv (.c (.c (.b true))), []⟩]) .ret))))))))) (.seq (.reg [⟨some 4, none, .mv (.c
  (.c (.b false))), []⟩]) .ret)), [(4, none)]⟩

theorem ok68 : FnR Tryz.prog 0 68 cf68 := fnC_ok Tryz.func68 (by kernel_rfl)

def cf69 : CF := ⟨50, .seq (.reg [⟨some 3, none, .new 56 (.t 1), []⟩, ⟨some 4, none, .mv (.c (.c (.b false))), []⟩]) (.seq (.blk 0 (.seq (.reg [⟨some 11, none, .fa 0 (.t 3), []⟩, ⟨some 12, none, .ld 1 false (.t 11),
  []⟩, ⟨some 13, none, .bin .eql (.t 12) (.c (.c (.i .i64 (.ofNat 4)))), []⟩, ⟨some 10, none, .mv (.t 13), []⟩]) (.cond (.t 10) (.reg [⟨some 14, none, .mv (.t 0), []⟩, ⟨some 15, none, .mv (.t 0), []⟩,
  ⟨some 16, none, .fa 2 (.t 3), []⟩, ⟨some 17, none, .ld 1 false (.t 16), []⟩, ⟨some 18, none, .call 97 [.t 15, .c (.c (.i .i64 (.ofNat 4))), .c (.c (.s [])), .t 17, .c (.c (.sl none 0 0 0))], []⟩,
  ⟨some 19, none, .call 98 [.t 14, .t 18], []⟩]) (.seq (.reg [⟨some 21, none, .fa 0 (.t 3), []⟩, ⟨some 22, none, .ld 1 false (.t 21), []⟩, ⟨some 23, none, .bin .eql (.t 22) (.c (.c (.i .i64 (.ofNat
  5)))), []⟩, ⟨some 24, none, .mv (.t 23), []⟩, ⟨some 25, some (24, false), .ld 5 true (.t 3), []⟩, ⟨some 26, some (24, false), .call 99 [.t 25], []⟩, ⟨some 27, none, .pk (.t 24) (.c (.c (.b true)))
  (.t 26), []⟩, ⟨some 20, none, .mv (.t 27), []⟩]) (.cond (.t 20) .skip (.seq (.reg [⟨some 29, none, .ld 5 true (.t 3), []⟩, ⟨some 30, none, .bsl 9 1 1 [.s []] [(0, (1, .c (.c (.s [104, 116, 109,
  108]))))], []⟩, ⟨some 31, none, .call 100 [.t 29, .t 30], []⟩, ⟨some 28, none, .mv (.t 31), []⟩]) (.cond (.t 28) (.seq (.reg [⟨some 32, none, .mv (.t 0), []⟩, ⟨some 33, none, .fa 3 (.t 3), []⟩, ⟨some
  34, none, .ld 1 false (.t 33), []⟩, ⟨some 35, none, .call 101 [.t 32, .c (.c (.s [104, 116, 109, 108])), .t 34], []⟩]) (.reg [⟨some 36, none, .mv (.t 0), []⟩, ⟨some 37, none, .nc (.t 36), []⟩, ⟨some
  38, none, .fa 5 (.t 37), []⟩, ⟨none, none, .st 1 (.t 38) (.c (.c (.i .i64 (.ofNat 2)))), []⟩])) (.seq (.reg [⟨some 40, none, .fa 0 (.t 3), []⟩, ⟨some 41, none, .ld 1 false (.t 40), []⟩, ⟨some 42,
  none, .bin .eql (.t 41) (.c (.c (.i .i64 (.ofNat 2)))), []⟩, ⟨some 43, none, .mv (.t 42), []⟩, ⟨some 44, some (43, true), .fa 1 (.t 3), []⟩, ⟨some 45, some (43, true), .ld 1 false (.t 44), []⟩, ⟨some
  46, some (43, true), .bsl 9 1 4 [.s [], .s [], .s [], .s []] [(0, (1, .c (.c (.s [104, 101, 97, 100])))), (1, (1, .c (.c (.s [98, 111, 100, 121])))), (2, (1, .c (.c (.s [104, 116, 109, 108])))), (3,
  (1, .c (.c (.s [98, 114]))))], []⟩, ⟨some 47, some (43, true), .call 38 [.t 45, .t 46], []⟩, ⟨some 48, some (43, true), .un .not (.t 47), []⟩, ⟨some 49, none, .pk (.t 43) (.t 48) (.c (.c (.b
  false))), []⟩, ⟨some 39, none, .mv (.t 49), []⟩]) (.cond (.t 39) .skip (.seq (.reg [⟨some 5, none, .mv (.t 0), []⟩, ⟨some 6, none, .call 101 [.t 5, .c (.c (.s [104, 116, 109, 108])), .c (.c (.sl none
  0 0 0))], []⟩]) (.seq (.reg [⟨some 7, none, .mv (.t 0), []⟩, ⟨some 8, none, .nc (.t 7), []⟩, ⟨some 9, none, .fa 5 (.t 8), []⟩, ⟨none, none, .st 1 (.t 9) (.c (.c (.i .i64 (.ofNat 2)))), []⟩]) (.seq
  (.reg [⟨some 4, none, .mv (.c (.c (.b true))), []⟩]) .ret)))))))))))) (.seq (.reg [⟨some 4, none, .mv (.c (.c (.b false))), []⟩]) .ret)), [(4, none)]⟩

theorem ok69 : FnR Tryz.prog 0 69 cf69 := fnC_ok Tryz.func69 (by kernel_rfl)

def cf70 : CF := ⟨60, .seq (.reg [⟨some 3, none, .new 56 (.t 1), []⟩, ⟨some 4, none, .mv (.c (.c (.b false))), []⟩]) (.seq (.blk 0 (.seq (.reg [⟨some 14, none, .fa 0 (.t 3), []⟩, ⟨some 15, none, .ld 1 false (.t 14),
  []⟩, ⟨some 16, none, .bin .eql (.t 15) (.c (.c (.i .i64 (.ofNat 4)))), []⟩, ⟨some 13, none, .mv (.t 16), []⟩]) (.cond (.t 13) (.reg [⟨some 17, none, .mv (.t 0), []⟩, ⟨some 18, none, .ld 5 true (.t
  3), []⟩, ⟨some 19, none, .call 102 [.t 17, .t 18], []⟩]) (.seq (.reg [⟨some 21, none, .fa 0 (.t 3), []⟩, ⟨some 22, none, .ld 1 false (.t 21), []⟩, ⟨some 23, none, .bin .eql (.t 22) (.c (.c (.i .i64
  (.ofNat 5)))), []⟩, ⟨some 24, none, .mv (.t 23), []⟩, ⟨some 25, some (24, false), .ld 5 true (.t 3), []⟩, ⟨some 26, some (24, false), .call 99 [.t 25], []⟩, ⟨some 27, none, .pk (.t 24) (.c (.c (.b
  true))) (.t 26), []⟩, ⟨some 20, none, .mv (.t 27), []⟩]) (.cond (.t 20) .skip (.seq (.reg [⟨some 29, none, .ld 5 true (.t 3), []⟩, ⟨some 30, none, .bsl 9 1 1 [.s []] [(0, (1, .c (.c (.s [104, 116,
  109, 108]))))], []⟩, ⟨some 31, none, .call 100 [.t 29, .t 30], []⟩, ⟨some 28, none, .mv (.t 31), []⟩]) (.cond (.t 28) (.seq (.reg [⟨some 32, none, .mv (.t 0), []⟩, ⟨some 33, none, .ld 5 true (.t 3),
  []⟩, ⟨some 34, none, .call 80 [.t 32, .t 33], []⟩, ⟨some 4, none, .mv (.t 34), []⟩]) .ret) (.seq (.reg [⟨some 36, none, .ld 5 true (.t 3), []⟩, ⟨some 37, none, .bsl 9 1 1 [.s []] [(0, (1, .c (.c (.s
  [104, 101, 97, 100]))))], []⟩, ⟨some 38, none, .call 100 [.t 36, .t 37], []⟩, ⟨some 35, none, .mv (.t 38), []⟩]) (.cond (.t 35) (.seq (.reg [⟨some 39, none, .mv (.t 0), []⟩, ⟨some 40, none, .mv (.t
  0), []⟩, ⟨some 41, none, .fa 3 (.t 3), []⟩, ⟨some 42, none, .ld 1 false (.t 41), []⟩, ⟨some 43, none, .call 101 [.t 40, .c (.c (.s [104, 101, 97, 100])), .t 42], []⟩, ⟨some 44, none, .nc (.t 39),
  []⟩, ⟨some 45, none, .fa 1 (.t 44), []⟩, ⟨none, none, .st 1 (.t 45) (.t 43), []⟩]) (.reg [⟨some 46, none, .mv (.t 0), []⟩, ⟨some 47, none, .nc (.t 46), []⟩, ⟨some 48, none, .fa 5 (.t 47), []⟩, ⟨none,
  none, .st 1 (.t 48) (.c (.c (.i .i64 (.ofNat 3)))), []⟩])) (.seq (.reg [⟨some 50, none, .fa 0 (.t 3), []⟩, ⟨some 51, none, .ld 1 false (.t 50), []⟩, ⟨some 52, none, .bin .eql (.t 51) (.c (.c (.i .i64
  (.ofNat 2)))), []⟩, ⟨some 53, none, .mv (.t 52), []⟩, ⟨some 54, some (53, true), .fa 1 (.t 3), []⟩, ⟨some 55, some (53, true), .ld 1 false (.t 54), []⟩, ⟨some 56, some (53, true), .bsl 9 1 4 [.s [],
  .s [], .s [], .s []] [(0, (1, .c (.c (.s [104, 101, 97, 100])))), (1, (1, .c (.c (.s [98, 111, 100, 121])))), (2, (1, .c (.c (.s [104, 116, 109, 108])))), (3, (1, .c (.c (.s [98, 114]))))], []⟩,
  ⟨some 57, some (53, true), .call 38 [.t 55, .t 56], []⟩, ⟨some 58, some (53, true), .un .not (.t 57), []⟩, ⟨some 59, none, .pk (.t 53) (.t 58) (.c (.c (.b false))), []⟩, ⟨some 49, none, .mv (.t 59),
  []⟩]) (.cond (.t 49) .skip (.seq (.reg [⟨some 5, none, .mv (.t 0), []⟩, ⟨some 6, none, .mv (.t 0), []⟩, ⟨some 7, none, .call 101 [.t 6, .c (.c (.s [104, 101, 97, 100])), .c (.c (.sl none 0 0 0))],
  []⟩, ⟨some 8, none, .nc (.t 5), []⟩, ⟨some 9, none, .fa 1 (.t 8), []⟩, ⟨none, none, .st 1 (.t 9) (.t 7), []⟩]) (.seq (.reg [⟨some 10, none, .mv (.t 0), []⟩, ⟨some 11, none, .nc (.t 10), []⟩, ⟨some
  12, none, .fa 5 (.t 11), []⟩, ⟨none, none, .st 1 (.t 12) (.c (.c (.i .i64 (.ofNat 3)))), []⟩]) (.seq (.reg [⟨some 4, none, .mv (.c (.c (.b true))), []⟩]) .ret)))))))))))))) (.seq (.reg [⟨some 4,
  none, .mv (.c (.c (.b false))), []⟩]) .ret)), [(4, none)]⟩

theorem ok70 : FnR Tryz.prog 0 70 cf70 := fnC_ok Tryz.func70 (by kernel_rfl)

def cf71 : CF := ⟨81, .seq (.reg [⟨some 3, none, .new 56 (.t 1), []⟩, ⟨some 4, none, .mv (.c (.c (.b false))), []⟩]) (.seq (.blk 0 (.seq (.reg [⟨some 12, none, .ld 5 true (.t 3), []⟩, ⟨some 13, none, .call 99 [.t
  12], []⟩, ⟨some 11, none, .mv (.t 13), []⟩]) (.cond (.t 11) (.reg [⟨some 14, none, .mv (.t 0), []⟩, ⟨some 15, none, .fa 2 (.t 3), []⟩, ⟨some 16, none, .ld 1 false (.t 15), []⟩, ⟨some 17, none, .call
  65 [.t 14, .t 16], []⟩]) (.seq (.reg [⟨some 19, none, .fa 0 (.t 3), []⟩, ⟨some 20, none, .ld 1 false (.t 19), []⟩, ⟨some 21, none, .bin .eql (.t 20) (.c (.c (.i .i64 (.ofNat 4)))), []⟩, ⟨some 18,
  none, .mv (.t 21), []⟩]) (.cond (.t 18) (.reg [⟨some 22, none, .mv (.t 0), []⟩, ⟨some 23, none, .ld 5 true (.t 3), []⟩, ⟨some 24, none, .call 102 [.t 22, .t 23], []⟩]) (.seq (.reg [⟨some 26, none,
  .fa 0 (.t 3), []⟩, ⟨some 27, none, .ld 1 false (.t 26), []⟩, ⟨some 28, none, .bin .eql (.t 27) (.c (.c (.i .i64 (.ofNat 5)))), []⟩, ⟨some 29, none, .mv (.t 28), []⟩, ⟨some 30, some (29, false), .ld 5
  true (.t 3), []⟩, ⟨some 31, some (29, false), .bsl 9 1 1 [.s []] [(0, (1, .c (.c (.s [104, 101, 97, 100]))))], []⟩, ⟨some 32, some (29, false), .call 100 [.t 30, .t 31], []⟩, ⟨some 33, none, .pk (.t
  29) (.c (.c (.b true))) (.t 32), []⟩, ⟨some 25, none, .mv (.t 33), []⟩]) (.cond (.t 25) .skip (.seq (.reg [⟨some 35, none, .ld 5 true (.t 3), []⟩, ⟨some 36, none, .bsl 9 1 1 [.s []] [(0, (1, .c (.c
  (.s [104, 116, 109, 108]))))], []⟩, ⟨some 37, none, .call 100 [.t 35, .t 36], []⟩, ⟨some 34, none, .mv (.t 37), []⟩]) (.cond (.t 34) (.seq (.reg [⟨some 38, none, .mv (.t 0), []⟩, ⟨some 39, none, .ld
  5 true (.t 3), []⟩, ⟨some 40, none, .call 80 [.t 38, .t 39], []⟩, ⟨some 4, none, .mv (.t 40), []⟩]) .ret) (.seq (.reg [⟨some 42, none, .ld 5 true (.t 3), []⟩, ⟨some 43, none, .bsl 9 1 3 [.s [], .s
  [], .s []] [(0, (1, .c (.c (.s [98, 97, 115, 101])))), (1, (1, .c (.c (.s [108, 105, 110, 107])))), (2, (1, .c (.c (.s [109, 101, 116, 97]))))], []⟩, ⟨some 44, none, .call 100 [.t 42, .t 43], []⟩,
  ⟨some 41, none, .mv (.t 44), []⟩]) (.cond (.t 41) (.reg [⟨some 45, none, .mv (.t 0), []⟩, ⟨some 46, none, .fa 1 (.t 3), []⟩, ⟨some 47, none, .ld 1 false (.t 46), []⟩, ⟨some 48, none, .fa 3 (.t 3),
  []⟩, ⟨some 49, none, .ld 1 false (.t 48), []⟩, ⟨some 50, none, .call 103 [.t 45, .t 47, .t 49], []⟩]) (.seq (.reg [⟨some 52, none, .ld 5 true (.t 3), []⟩, ⟨some 53, none, .bsl 9 1 4 [.s [], .s [], .s
  [], .s []] [(0, (1, .c (.c (.s [116, 105, 116, 108, 101])))), (1, (1, .c (.c (.s [115, 116, 121, 108, 101])))), (2, (1, .c (.c (.s [115, 99, 114, 105, 112, 116])))), (3, (1, .c (.c (.s [110, 111,
  102, 114, 97, 109, 101, 115]))))], []⟩, ⟨some 54, none, .call 100 [.t 52, .t 53], []⟩, ⟨some 51, none, .mv (.t 54), []⟩]) (.cond (.t 51) (.reg [⟨some 55, none, .mv (.t 0), []⟩, ⟨some 56, none, .fa 1
  (.t 3), []⟩, ⟨some 57, none, .ld 1 false (.t 56), []⟩, ⟨some 58, none, .fa 3 (.t 3), []⟩, ⟨some 59, none, .ld 1 false (.t 58), []⟩, ⟨some 60, none, .call 101 [.t 55, .t 57, .t 59], []⟩]) (.seq (.reg
  [⟨some 62, none, .ld 5 true (.t 3), []⟩, ⟨some 63, none, .bsl 9 1 1 [.s []] [(0, (1, .c (.c (.s [104, 101, 97, 100]))))], []⟩, ⟨some 64, none, .call 66 [.t 62, .t 63], []⟩, ⟨some 61, none, .mv (.t
  64), []⟩]) (.cond (.t 61) (.seq (.reg [⟨some 65, none, .mv (.t 0), []⟩, ⟨some 66, none, .call 67 [.t 65, .c (.c (.i .i64 (.ofNat 1)))], []⟩]) (.reg [⟨some 67, none, .mv (.t 0), []⟩, ⟨some 68, none,
  .nc (.t 67), []⟩, ⟨some 69, none, .fa 5 (.t 68), []⟩, ⟨none, none, .st 1 (.t 69) (.c (.c (.i .i64 (.ofNat 4)))), []⟩])) (.seq (.reg [⟨some 71, none, .fa 0 (.t 3), []⟩, ⟨some 72, none, .ld 1 false (.t
  71), []⟩, ⟨some 73, none, .bin .eql (.t 72) (.c (.c (.i .i64 (.ofNat 2)))), []⟩, ⟨some 74, none, .mv (.t 73), []⟩, ⟨some 75, some (74, true), .fa 1 (.t 3), []⟩, ⟨some 76, some (74, true), .ld 1 false
  (.t 75), []⟩, ⟨some 77, some (74, true), .bsl 9 1 3 [.s [], .s [], .s []] [(0, (1, .c (.c (.s [98, 111, 100, 121])))), (1, (1, .c (.c (.s [104, 116, 109, 108])))), (2, (1, .c (.c (.s [98, 114]))))],
  []⟩, ⟨some 78, some (74, true), .call 38 [.t 76, .t 77], []⟩, ⟨some 79, some (74, true), .un .not (.t 78), []⟩, ⟨some 80, none, .pk (.t 74) (.t 79) (.c (.c (.b false))), []⟩, ⟨some 70, none, .mv (.t
  80), []⟩]) (.cond (.t 70) .skip (.seq (.reg [⟨some 5, none, .mv (.t 0), []⟩, ⟨some 6, none, .bsl 9 1 1 [.s []] [(0, (1, .c (.c (.s [104, 101, 97, 100]))))], []⟩, ⟨some 7, none, .call 104 [.t 5, .t
  6], []⟩]) (.seq (.reg [⟨some 8, none, .mv (.t 0), []⟩, ⟨some 9, none, .nc (.t 8), []⟩, ⟨some 10, none, .fa 5 (.t 9), []⟩, ⟨none, none, .st 1 (.t 10) (.c (.c (.i .i64 (.ofNat 4)))), []⟩]) (.seq (.reg
  [⟨some 4, none, .mv (.c (.c (.b true))), []⟩]) .ret)))))))))))))))))))) (.seq (.reg [⟨some 4, none, .mv (.c (.c (.b false))), []⟩]) .ret)), [(4, none)]⟩

theorem ok71 : FnR Tryz.prog 0 71 cf71 := fnC_ok Tryz.func71 (by kernel_rfl)

end

end Ev
end

section
namespace Ev

set_option autoImplicit false

noncomputable section

def cf72 : CF := ⟨119, .seq (.reg [⟨some 3, none, .new 56 (.t 1), []⟩, ⟨some 4, none, .mv (.c (.c (.b false))), []⟩]) (.seq (.blk 0 (.seq (.reg [⟨some 13, none, .ld 5 true (.t 3), []⟩, ⟨some 14, none, .call 99 [.t
  13], []⟩, ⟨some 12, none, .mv (.t 14), []⟩]) (.cond (.t 12) (.reg [⟨some 15, none, .mv (.t 0), []⟩, ⟨some 16, none, .fa 2 (.t 3), []⟩, ⟨some 17, none, .ld 1 false (.t 16), []⟩, ⟨some 18, none, .call
  65 [.t 15, .t 17], []⟩]) (.seq (.reg [⟨some 20, none, .fa 0 (.t 3), []⟩, ⟨some 21, none, .ld 1 false (.t 20), []⟩, ⟨some 22, none, .bin .eql (.t 21) (.c (.c (.i .i64 (.ofNat 4)))), []⟩, ⟨some 19,
  none, .mv (.t 22), []⟩]) (.cond (.t 19) (.reg [⟨some 23, none, .mv (.t 0), []⟩, ⟨some 24, none, .ld 5 true (.t 3), []⟩, ⟨some 25, none, .call 102 [.t 23, .t 24], []⟩]) (.seq (.reg [⟨some 27, none,
  .fa 0 (.t 3), []⟩, ⟨some 28, none, .ld 1 false (.t 27), []⟩, ⟨some 29, none, .bin .eql (.t 28) (.c (.c (.i .i64 (.ofNat 5)))), []⟩, ⟨some 30, none, .mv (.t 29), []⟩, ⟨some 31, some (30, false), .ld 5
  true (.t 3), []⟩, ⟨some 32, some (30, false), .bsl 9 1 1 [.s []] [(0, (1, .c (.c (.s [104, 101, 97, 100]))))], []⟩, ⟨some 33, some (30, false), .call 100 [.t 31, .t 32], []⟩, ⟨some 34, none, .pk (.t
  30) (.c (.c (.b true))) (.t 33), []⟩, ⟨some 26, none, .mv (.t 34), []⟩]) (.cond (.t 26) .skip (.seq (.reg [⟨some 36, none, .ld 5 true (.t 3), []⟩, ⟨some 37, none, .bsl 9 1 1 [.s []] [(0, (1, .c (.c
  (.s [104, 116, 109, 108]))))], []⟩, ⟨some 38, none, .call 100 [.t 36, .t 37], []⟩, ⟨some 35, none, .mv (.t 38), []⟩]) (.cond (.t 35) (.seq (.reg [⟨some 39, none, .mv (.t 0), []⟩, ⟨some 40, none, .ld
  5 true (.t 3), []⟩, ⟨some 41, none, .call 80 [.t 39, .t 40], []⟩, ⟨some 4, none, .mv (.t 41), []⟩]) .ret) (.seq (.reg [⟨some 43, none, .ld 5 true (.t 3), []⟩, ⟨some 44, none, .bsl 9 1 1 [.s []] [(0,
  (1, .c (.c (.s [98, 111, 100, 121]))))], []⟩, ⟨some 45, none, .call 100 [.t 43, .t 44], []⟩, ⟨some 42, none, .mv (.t 45), []⟩]) (.cond (.t 42) (.seq (.reg [⟨some 46, none, .mv (.t 0), []⟩, ⟨some 47,
  none, .fa 3 (.t 3), []⟩, ⟨some 48, none, .ld 1 false (.t 47), []⟩, ⟨some 49, none, .call 101 [.t 46, .c (.c (.s [98, 111, 100, 121])), .t 48], []⟩]) (.reg [⟨some 50, none, .mv (.t 0), []⟩, ⟨some 51,
  none, .nc (.t 50), []⟩, ⟨some 52, none, .fa 5 (.t 51), []⟩, ⟨none, none, .st 1 (.t 52) (.c (.c (.i .i64 (.ofNat 5)))), []⟩])) (.seq (.reg [⟨some 54, none, .fa 0 (.t 3), []⟩, ⟨some 55, none, .ld 1
  false (.t 54), []⟩, ⟨some 56, none, .bin .eql (.t 55) (.c (.c (.i .i64 (.ofNat 1)))), []⟩, ⟨some 57, none, .mv (.t 56), []⟩, ⟨some 58, some (57, true), .fa 1 (.t 3), []⟩, ⟨some 59, some (57, true),
  .ld 1 false (.t 58), []⟩, ⟨some 60, some (57, true), .call 105 [.t 59, .c (.c (.i .i64 (.ofNat 8)))], []⟩, ⟨some 61, none, .pk (.t 57) (.t 60) (.c (.c (.b false))), []⟩, ⟨some 53, none, .mv (.t 61),
  []⟩]) (.cond (.t 53) (.seq (.dreg [⟨some 62, none, .mv (.t 0), []⟩, ⟨some 63, none, .mv (.t 0), []⟩, ⟨some 64, none, .nc (.t 63), []⟩, ⟨some 65, none, .fa 3 (.t 64), []⟩, ⟨some 66, none, .ld 1 false
  (.t 65), []⟩, ⟨some 67, none, .mv (.t 0), []⟩, ⟨some 68, none, .nc (.t 67), []⟩, ⟨some 69, none, .fa 1 (.t 68), []⟩, ⟨some 70, none, .ld 1 false (.t 69), []⟩, ⟨some 71, none, .bsl 58 1 1 [.p none]
  [(0, (1, .t 70))], []⟩, ⟨some 72, none, .app 58 1 false (.t 66) (.t 71), []⟩, ⟨some 73, none, .nc (.t 62), []⟩, ⟨some 74, none, .fa 3 (.t 73), []⟩, ⟨none, none, .st 1 (.t 74) (.t 72), []⟩]) (.seq
  (.reg [⟨some 75, none, .mv (.t 0), []⟩, ⟨some 76, none, .ld 5 true (.t 3), []⟩, ⟨some 77, none, .call 71 [.t 75, .t 76], []⟩, ⟨some 5, none, .mv (.t 77), []⟩]) (.seq (.seq (.reg [⟨some 78, none, .mv
  (.t 0), []⟩, ⟨some 79, none, .mv (.t 0), []⟩, ⟨some 80, none, .nc (.t 79), []⟩, ⟨some 81, none, .fa 1 (.t 80), []⟩, ⟨some 82, none, .ld 1 false (.t 81), []⟩, ⟨some 83, none, .nc (.t 82), []⟩, ⟨some
  84, none, .fa 0 (.t 83), []⟩, ⟨some 85, none, .ld 1 false (.t 84), []⟩, ⟨some 86, none, .call 106 [.t 78, .t 85], []⟩, ⟨some 6, none, .mv (.t 86), []⟩]) (.seq (.reg [⟨some 87, none, .mv (.t 6), []⟩,
  ⟨some 88, none, .bin .geq (.t 87) (.c (.c (.i .i64 (.ofNat 0)))), []⟩]) (.cond (.t 88) (.dreg [⟨some 89, none, .mv (.t 0), []⟩, ⟨some 90, none, .mv (.t 0), []⟩, ⟨some 91, none, .nc (.t 90), []⟩,
  ⟨some 92, none, .fa 3 (.t 91), []⟩, ⟨some 93, none, .ld 1 false (.t 92), []⟩, ⟨some 94, none, .mv (.t 6), []⟩, ⟨some 95, none, .mv (.t 6), []⟩, ⟨some 96, none, .slc 1 (.t 93) none (some (.t 94))
  (some (.t 95)), []⟩, ⟨some 97, none, .mv (.t 0), []⟩, ⟨some 98, none, .nc (.t 97), []⟩, ⟨some 99, none, .fa 3 (.t 98), []⟩, ⟨some 100, none, .ld 1 false (.t 99), []⟩, ⟨some 101, none, .mv (.t 6),
  []⟩, ⟨some 102, none, .bin .add (.t 101) (.c (.c (.i .i64 (.ofNat 1)))), []⟩, ⟨some 103, none, .slc 1 (.t 100) (some (.t 102)) none none, []⟩, ⟨some 104, none, .app 58 1 false (.t 96) (.t 103), []⟩,
  ⟨some 105, none, .nc (.t 89), []⟩, ⟨some 106, none, .fa 3 (.t 105), []⟩, ⟨none, none, .st 1 (.t 106) (.t 104), []⟩]) .skip))) (.seq (.reg [⟨some 107, none, .mv (.t 5), []⟩, ⟨some 4, none, .mv (.t
  107), []⟩]) .ret)))) (.seq (.reg [⟨some 109, none, .fa 0 (.t 3), []⟩, ⟨some 110, none, .ld 1 false (.t 109), []⟩, ⟨some 111, none, .bin .eql (.t 110) (.c (.c (.i .i64 (.ofNat 2)))), []⟩, ⟨some 112,
  none, .mv (.t 111), []⟩, ⟨some 113, some (112, true), .fa 1 (.t 3), []⟩, ⟨some 114, some (112, true), .ld 1 false (.t 113), []⟩, ⟨some 115, some (112, true), .bsl 9 1 3 [.s [], .s [], .s []] [(0, (1,
  .c (.c (.s [98, 111, 100, 121])))), (1, (1, .c (.c (.s [104, 116, 109, 108])))), (2, (1, .c (.c (.s [98, 114]))))], []⟩, ⟨some 116, some (112, true), .call 38 [.t 114, .t 115], []⟩, ⟨some 117, some
  (112, true), .un .not (.t 116), []⟩, ⟨some 118, none, .pk (.t 112) (.t 117) (.c (.c (.b false))), []⟩, ⟨some 108, none, .mv (.t 118), []⟩]) (.cond (.t 108) .skip (.seq (.reg [⟨some 7, none, .mv (.t
  0), []⟩, ⟨some 8, none, .call 101 [.t 7, .c (.c (.s [98, 111, 100, 121])), .c (.c (.sl none 0 0 0))], []⟩]) (.seq (.reg [⟨some 9, none, .mv (.t 0), []⟩, ⟨some 10, none, .nc (.t 9), []⟩, ⟨some 11,
  none, .fa 5 (.t 10), []⟩, ⟨none, none, .st 1 (.t 11) (.c (.c (.i .i64 (.ofNat 5)))), []⟩]) (.seq (.reg [⟨some 4, none, .mv (.c (.c (.b true))), []⟩]) .ret)))))))))))))))))) (.seq (.reg [⟨some 4,
  none, .mv (.c (.c (.b false))), []⟩]) .ret)), [(4, none)]⟩

theorem ok72 : FnR Tryz.prog 0 72 cf72 := fnC_ok Tryz.func72 (by kernel_rfl)

def cf74 : CF := ⟨142, .seq (.reg [⟨some 2, none, .new 57 (.t 0), []⟩, ⟨some 3, none, .new 56 (.t 1), []⟩, ⟨some 4, none, .mv (.c (.c (.b false))), []⟩]) (.seq (.reg [⟨some 7, none, .mkf 107 [.t 2], []⟩, ⟨some 5,
  none, .mv (.t 7), []⟩]) (.seq (.blk 0 (.seq (.reg [⟨some 19, none, .ld 5 true (.t 3), []⟩, ⟨some 20, none, .call 99 [.t 19], []⟩, ⟨some 18, none, .mv (.t 20), []⟩]) (.cond (.t 18) (.reg [⟨some 21,
  none, .ld 1 false (.t 2), []⟩, ⟨some 22, none, .fa 2 (.t 3), []⟩, ⟨some 23, none, .ld 1 false (.t 22), []⟩, ⟨some 24, none, .call 65 [.t 21, .t 23], []⟩]) (.seq (.reg [⟨some 26, none, .fa 0 (.t 3),
  []⟩, ⟨some 27, none, .ld 1 false (.t 26), []⟩, ⟨some 28, none, .bin .eql (.t 27) (.c (.c (.i .i64 (.ofNat 4)))), []⟩, ⟨some 25, none, .mv (.t 28), []⟩]) (.cond (.t 25) (.reg [⟨some 29, none, .ld 1
  false (.t 2), []⟩, ⟨some 30, none, .ld 5 true (.t 3), []⟩, ⟨some 31, none, .call 102 [.t 29, .t 30], []⟩]) (.seq (.reg [⟨some 33, none, .fa 0 (.t 3), []⟩, ⟨some 34, none, .ld 1 false (.t 33), []⟩,
  ⟨some 35, none, .bin .eql (.t 34) (.c (.c (.i .i64 (.ofNat 5)))), []⟩, ⟨some 36, none, .mv (.t 35), []⟩, ⟨some 37, some (36, false), .fa 0 (.t 3), []⟩, ⟨some 38, some (36, false), .ld 1 false (.t
  37), []⟩, ⟨some 39, some (36, false), .bin .eql (.t 38) (.c (.c (.i .i64 (.ofNat 6)))), []⟩, ⟨some 40, none, .pk (.t 36) (.c (.c (.b true))) (.t 39), []⟩, ⟨some 32, none, .mv (.t 40), []⟩]) (.cond
  (.t 32) .skip (.seq (.reg [⟨some 42, none, .ld 5 true (.t 3), []⟩, ⟨some 43, none, .bsl 9 1 1 [.s []] [(0, (1, .c (.c (.s [99, 97, 112, 116, 105, 111, 110]))))], []⟩, ⟨some 44, none, .call 100 [.t
  42, .t 43], []⟩, ⟨some 41, none, .mv (.t 44), []⟩]) (.cond (.t 41) (.seq (.reg [⟨some 45, none, .mv (.t 5), []⟩, ⟨some 46, none, .callv (.t 45) [], []⟩]) (.seq (.reg [⟨some 47, none, .ld 1 false (.t
  2), []⟩, ⟨some 48, none, .nc (.t 47), []⟩, ⟨some 49, none, .fa 4 (.t 48), []⟩, ⟨some 50, none, .ld 1 false (.t 49), []⟩, ⟨some 51, none, .call 109 [.t 50], []⟩]) (.seq (.reg [⟨some 52, none, .ld 1
  false (.t 2), []⟩, ⟨some 53, none, .fa 1 (.t 3), []⟩, ⟨some 54, none, .ld 1 false (.t 53), []⟩, ⟨some 55, none, .fa 3 (.t 3), []⟩, ⟨some 56, none, .ld 1 false (.t 55), []⟩, ⟨some 57, none, .call 101
  [.t 52, .t 54, .t 56], []⟩]) (.reg [⟨some 58, none, .ld 1 false (.t 2), []⟩, ⟨some 59, none, .nc (.t 58), []⟩, ⟨some 60, none, .fa 5 (.t 59), []⟩, ⟨none, none, .st 1 (.t 60) (.c (.c (.i .i64 (.ofNat
  8)))), []⟩])))) (.seq (.reg [⟨some 62, none, .ld 5 true (.t 3), []⟩, ⟨some 63, none, .bsl 9 1 1 [.s []] [(0, (1, .c (.c (.s [99, 111, 108, 103, 114, 111, 117, 112]))))], []⟩, ⟨some 64, none, .call
  100 [.t 62, .t 63], []⟩, ⟨some 61, none, .mv (.t 64), []⟩]) (.cond (.t 61) (.seq (.reg [⟨some 65, none, .mv (.t 5), []⟩, ⟨some 66, none, .callv (.t 65) [], []⟩]) (.seq (.reg [⟨some 67, none, .ld 1
  false (.t 2), []⟩, ⟨some 68, none, .fa 1 (.t 3), []⟩, ⟨some 69, none, .ld 1 false (.t 68), []⟩, ⟨some 70, none, .fa 3 (.t 3), []⟩, ⟨some 71, none, .ld 1 false (.t 70), []⟩, ⟨some 72, none, .call 101
  [.t 67, .t 69, .t 71], []⟩]) (.reg [⟨some 73, none, .ld 1 false (.t 2), []⟩, ⟨some 74, none, .nc (.t 73), []⟩, ⟨some 75, none, .fa 5 (.t 74), []⟩, ⟨none, none, .st 1 (.t 75) (.c (.c (.i .i64 (.ofNat
  9)))), []⟩]))) (.seq (.reg [⟨some 77, none, .ld 5 true (.t 3), []⟩, ⟨some 78, none, .bsl 9 1 1 [.s []] [(0, (1, .c (.c (.s [99, 111, 108]))))], []⟩, ⟨some 79, none, .call 100 [.t 77, .t 78], []⟩,
  ⟨some 76, none, .mv (.t 79), []⟩]) (.cond (.t 76) (.seq (.reg [⟨some 80, none, .mv (.t 5), []⟩, ⟨some 81, none, .callv (.t 80) [], []⟩]) (.seq (.reg [⟨some 82, none, .ld 1 false (.t 2), []⟩, ⟨some
  83, none, .call 101 [.t 82, .c (.c (.s [99, 111, 108, 103, 114, 111, 117, 112])), .c (.c (.sl none 0 0 0))], []⟩]) (.seq (.reg [⟨some 84, none, .ld 1 false (.t 2), []⟩, ⟨some 85, none, .nc (.t 84),
  []⟩, ⟨some 86, none, .fa 5 (.t 85), []⟩, ⟨none, none, .st 1 (.t 86) (.c (.c (.i .i64 (.ofNat 9)))), []⟩]) (.seq (.reg [⟨some 4, none, .mv (.c (.c (.b true))), []⟩]) .ret)))) (.seq (.dreg [⟨some 88,
  none, .ld 5 true (.t 3), []⟩, ⟨some 89, none, .call 110 [], [⟨some 88, none, .ld 5 true (.t 3)⟩]⟩, ⟨some 90, none, .call 100 [.t 88, .t 89], []⟩, ⟨some 87, none, .mv (.t 90), []⟩]) (.cond (.t 87)
  (.seq (.reg [⟨some 91, none, .mv (.t 5), []⟩, ⟨some 92, none, .callv (.t 91) [], []⟩]) (.seq (.reg [⟨some 93, none, .ld 1 false (.t 2), []⟩, ⟨some 94, none, .fa 1 (.t 3), []⟩, ⟨some 95, none, .ld 1
  false (.t 94), []⟩, ⟨some 96, none, .fa 3 (.t 3), []⟩, ⟨some 97, none, .ld 1 false (.t 96), []⟩, ⟨some 98, none, .call 101 [.t 93, .t 95, .t 97], []⟩]) (.reg [⟨some 99, none, .ld 1 false (.t 2), []⟩,
  ⟨some 100, none, .nc (.t 99), []⟩, ⟨some 101, none, .fa 5 (.t 100), []⟩, ⟨none, none, .st 1 (.t 101) (.c (.c (.i .i64 (.ofNat 10)))), []⟩]))) (.seq (.reg [⟨some 103, none, .ld 5 true (.t 3), []⟩,
  ⟨some 104, none, .bsl 9 1 3 [.s [], .s [], .s []] [(0, (1, .c (.c (.s [116, 100])))), (1, (1, .c (.c (.s [116, 104])))), (2, (1, .c (.c (.s [116, 114]))))], []⟩, ⟨some 105, none, .call 100 [.t 103,
  .t 104], []⟩, ⟨some 102, none, .mv (.t 105), []⟩]) (.cond (.t 102) (.seq (.reg [⟨some 106, none, .mv (.t 5), []⟩, ⟨some 107, none, .callv (.t 106) [], []⟩]) (.seq (.reg [⟨some 108, none, .ld 1 false
  (.t 2), []⟩, ⟨some 109, none, .call 101 [.t 108, .c (.c (.s [116, 98, 111, 100, 121])), .c (.c (.sl none 0 0 0))], []⟩]) (.seq (.reg [⟨some 110, none, .ld 1 false (.t 2), []⟩, ⟨some 111, none, .nc
  (.t 110), []⟩, ⟨some 112, none, .fa 5 (.t 111), []⟩, ⟨none, none, .st 1 (.t 112) (.c (.c (.i .i64 (.ofNat 10)))), []⟩]) (.seq (.reg [⟨some 4, none, .mv (.c (.c (.b true))), []⟩]) .ret)))) (.seq (.seq
  (.reg [⟨some 114, none, .ld 5 true (.t 3), []⟩, ⟨some 115, none, .bsl 9 1 1 [.s []] [(0, (1, .c (.c (.s [116, 97, 98, 108, 101]))))], []⟩, ⟨some 116, none, .call 100 [.t 114, .t 115], []⟩, ⟨some 113,
  none, .mv (.t 116), []⟩]) (.cond (.t 113) .skip (.reg [⟨some 117, none, .ld 5 true (.t 3), []⟩, ⟨some 118, none, .bsl 9 1 1 [.s []] [(0, (1, .c (.c (.s [116, 97, 98, 108, 101]))))], []⟩, ⟨some 119,
  none, .call 66 [.t 117, .t 118], []⟩, ⟨some 113, none, .mv (.t 119), []⟩]))) (.cond (.t 113) (.seq (.seq (.reg [⟨some 120, none, .ld 1 false (.t 2), []⟩, ⟨some 121, none, .call 111 [.t 120, .c (.c
  (.s [116, 97, 98, 108, 101])), .c (.c (.i .i64 (.ofNat 4)))], []⟩, ⟨some 122, none, .un .not (.t 121), []⟩]) (.cond (.t 122) (.seq (.reg [⟨some 4, none, .mv (.c (.c (.b false))), []⟩]) .ret) .skip))
  (.seq (.reg [⟨some 123, none, .ld 1 false (.t 2), []⟩, ⟨some 124, none, .bsl 9 1 1 [.s []] [(0, (1, .c (.c (.s [116, 97, 98, 108, 101]))))], []⟩, ⟨some 125, none, .call 104 [.t 123, .t 124], []⟩])
  (.seq (.reg [⟨some 126, none, .ld 1 false (.t 2), []⟩, ⟨some 127, none, .call 112 [.t 126], []⟩]) (.seq (.reg [⟨some 128, none, .fa 0 (.t 3), []⟩, ⟨some 129, none, .ld 1 false (.t 128), []⟩, ⟨some
  130, none, .bin .eql (.t 129) (.c (.c (.i .i64 (.ofNat 1)))), []⟩, ⟨some 4, none, .mv (.t 130), []⟩]) .ret)))) (.seq (.reg [⟨some 132, none, .ld 5 true (.t 3), []⟩, ⟨some 133, none, .bsl 9 1 11 [.s
  [], .s [], .s [], .s [], .s [], .s [], .s [], .s [], .s [], .s [], .s []] [(0, (1, .c (.c (.s [98, 111, 100, 121])))), (1, (1, .c (.c (.s [99, 97, 112, 116, 105, 111, 110])))), (2, (1, .c (.c (.s
  [99, 111, 108])))), (3, (1, .c (.c (.s [99, 111, 108, 103, 114, 111, 117, 112])))), (4, (1, .c (.c (.s [104, 116, 109, 108])))), (5, (1, .c (.c (.s [116, 98, 111, 100, 121])))), (6, (1, .c (.c (.s
  [116, 100])))), (7, (1, .c (.c (.s [116, 102, 111, 111, 116])))), (8, (1, .c (.c (.s [116, 104])))), (9, (1, .c (.c (.s [116, 104, 101, 97, 100])))), (10, (1, .c (.c (.s [116, 114]))))], []⟩, ⟨some
  134, none, .call 66 [.t 132, .t 133], []⟩, ⟨some 131, none, .mv (.t 134), []⟩]) (.cond (.t 131) .skip (.seq (.reg [⟨some 136, none, .ld 5 true (.t 3), []⟩, ⟨some 137, none, .bsl 9 1 2 [.s [], .s []]
  [(0, (1, .c (.c (.s [115, 116, 121, 108, 101])))), (1, (1, .c (.c (.s [115, 99, 114, 105, 112, 116]))))], []⟩, ⟨some 138, none, .call 100 [.t 136, .t 137], []⟩, ⟨some 135, none, .mv (.t 138), []⟩])
  (.cond (.t 135) (.seq (.reg [⟨some 139, none, .ld 1 false (.t 2), []⟩, ⟨some 140, none, .ld 5 true (.t 3), []⟩, ⟨some 141, none, .call 71 [.t 139, .t 140], []⟩, ⟨some 4, none, .mv (.t 141), []⟩])
  .ret) (.seq (.reg [⟨some 8, none, .ld 1 false (.t 2), []⟩, ⟨some 9, none, .nc (.t 8), []⟩, ⟨some 10, none, .fa 6 (.t 9), []⟩, ⟨none, none, .st 1 (.t 10) (.c (.c (.b true))), []⟩]) (.seq (.reg [⟨some
  11, none, .ld 1 false (.t 2), []⟩, ⟨some 12, none, .ld 5 true (.t 3), []⟩, ⟨some 13, none, .call 80 [.t 11, .t 12], []⟩, ⟨some 6, none, .mv (.t 13), []⟩]) (.seq (.reg [⟨some 14, none, .ld 1 false (.t
  2), []⟩, ⟨some 15, none, .nc (.t 14), []⟩, ⟨some 16, none, .fa 6 (.t 15), []⟩, ⟨none, none, .st 1 (.t 16) (.c (.c (.b false))), []⟩]) (.seq (.reg [⟨some 17, none, .mv (.t 6), []⟩, ⟨some 4, none, .mv
  (.t 17), []⟩]) .ret))))))))))))))))))))))))))) (.seq (.reg [⟨some 4, none, .mv (.c (.c (.b false))), []⟩]) .ret))), [(4, none)]⟩

theorem ok74 : FnR Tryz.prog 0 74 cf74 := fnC_ok Tryz.func74 (by kernel_rfl)

def cf77 : CF := ⟨79, .seq (.reg [⟨some 2, none, .new 57 (.t 0), []⟩, ⟨some 3, none, .new 56 (.t 1), []⟩, ⟨some 4, none, .mv (.c (.c (.b false))), []⟩]) (.seq (.reg [⟨some 6, none, .mkf 116 [.t 2], []⟩, ⟨some 5,
  none, .mv (.t 6), []⟩]) (.seq (.blk 0 (.seq (.reg [⟨some 11, none, .ld 5 true (.t 3), []⟩, ⟨some 12, none, .bsl 9 1 1 [.s []] [(0, (1, .c (.c (.s [116, 114]))))], []⟩, ⟨some 13, none, .call 100 [.t
  11, .t 12], []⟩, ⟨some 10, none, .mv (.t 13), []⟩]) (.cond (.t 10) (.seq (.reg [⟨some 14, none, .mv (.t 5), []⟩, ⟨some 15, none, .callv (.t 14) [], []⟩]) (.seq (.reg [⟨some 16, none, .ld 1 false (.t
  2), []⟩, ⟨some 17, none, .fa 1 (.t 3), []⟩, ⟨some 18, none, .ld 1 false (.t 17), []⟩, ⟨some 19, none, .fa 3 (.t 3), []⟩, ⟨some 20, none, .ld 1 false (.t 19), []⟩, ⟨some 21, none, .call 101 [.t 16, .t
  18, .t 20], []⟩]) (.reg [⟨some 22, none, .ld 1 false (.t 2), []⟩, ⟨some 23, none, .nc (.t 22), []⟩, ⟨some 24, none, .fa 5 (.t 23), []⟩, ⟨none, none, .st 1 (.t 24) (.c (.c (.i .i64 (.ofNat 11)))),
  []⟩]))) (.seq (.reg [⟨some 26, none, .ld 5 true (.t 3), []⟩, ⟨some 27, none, .bsl 9 1 2 [.s [], .s []] [(0, (1, .c (.c (.s [116, 100])))), (1, (1, .c (.c (.s [116, 104]))))], []⟩, ⟨some 28, none,
  .call 100 [.t 26, .t 27], []⟩, ⟨some 25, none, .mv (.t 28), []⟩]) (.cond (.t 25) (.seq (.reg [⟨some 29, none, .mv (.t 5), []⟩, ⟨some 30, none, .callv (.t 29) [], []⟩]) (.seq (.reg [⟨some 31, none,
  .ld 1 false (.t 2), []⟩, ⟨some 32, none, .call 101 [.t 31, .c (.c (.s [116, 114])), .c (.c (.sl none 0 0 0))], []⟩]) (.seq (.reg [⟨some 33, none, .ld 1 false (.t 2), []⟩, ⟨some 34, none, .nc (.t 33),
  []⟩, ⟨some 35, none, .fa 5 (.t 34), []⟩, ⟨none, none, .st 1 (.t 35) (.c (.c (.i .i64 (.ofNat 11)))), []⟩]) (.seq (.reg [⟨some 4, none, .mv (.c (.c (.b true))), []⟩]) .ret)))) (.seq (.dreg [⟨some 37,
  none, .ld 5 true (.t 3), []⟩, ⟨some 38, none, .call 110 [], [⟨some 37, none, .ld 5 true (.t 3)⟩]⟩, ⟨some 39, none, .call 66 [.t 37, .t 38], []⟩, ⟨some 36, none, .mv (.t 39), []⟩]) (.cond (.t 36)
  (.seq (.reg [⟨some 40, none, .ld 1 false (.t 2), []⟩, ⟨some 41, none, .fa 1 (.t 3), []⟩, ⟨some 42, none, .ld 1 false (.t 41), []⟩, ⟨some 43, none, .call 111 [.t 40, .t 42, .c (.c (.i .i64 (.ofNat
  4)))], []⟩]) (.cond (.t 43) (.seq (.reg [⟨some 44, none, .mv (.t 5), []⟩, ⟨some 45, none, .callv (.t 44) [], []⟩]) (.seq (.reg [⟨some 46, none, .ld 1 false (.t 2), []⟩, ⟨some 47, none, .call 67 [.t
  46, .c (.c (.i .i64 (.ofNat 1)))], []⟩]) (.reg [⟨some 48, none, .ld 1 false (.t 2), []⟩, ⟨some 49, none, .nc (.t 48), []⟩, ⟨some 50, none, .fa 5 (.t 49), []⟩, ⟨none, none, .st 1 (.t 50) (.c (.c (.i
  .i64 (.ofNat 7)))), []⟩]))) .skip)) (.seq (.seq (.reg [⟨some 52, none, .ld 5 true (.t 3), []⟩, ⟨some 53, none, .bsl 9 1 6 [.s [], .s [], .s [], .s [], .s [], .s []] [(0, (1, .c (.c (.s [99, 97, 112,
  116, 105, 111, 110])))), (1, (1, .c (.c (.s [99, 111, 108])))), (2, (1, .c (.c (.s [99, 111, 108, 103, 114, 111, 117, 112])))), (3, (1, .c (.c (.s [116, 98, 111, 100, 121])))), (4, (1, .c (.c (.s
  [116, 102, 111, 111, 116])))), (5, (1, .c (.c (.s [116, 104, 101, 97, 100]))))], []⟩, ⟨some 54, none, .call 100 [.t 52, .t 53], []⟩, ⟨some 51, none, .mv (.t 54), []⟩]) (.cond (.t 51) .skip (.reg
  [⟨some 55, none, .ld 5 true (.t 3), []⟩, ⟨some 56, none, .bsl 9 1 1 [.s []] [(0, (1, .c (.c (.s [116, 97, 98, 108, 101]))))], []⟩, ⟨some 57, none, .call 66 [.t 55, .t 56], []⟩, ⟨some 51, none, .mv
  (.t 57), []⟩]))) (.cond (.t 51) (.seq (.reg [⟨some 58, none, .ld 1 false (.t 2), []⟩, ⟨some 59, none, .call 111 [.t 58, .c (.c (.s [116, 98, 111, 100, 121])), .c (.c (.i .i64 (.ofNat 4)))], []⟩,
  ⟨some 60, none, .mv (.t 59), []⟩, ⟨some 61, some (60, false), .ld 1 false (.t 2), []⟩, ⟨some 62, some (60, false), .call 111 [.t 61, .c (.c (.s [116, 102, 111, 111, 116])), .c (.c (.i .i64 (.ofNat
  4)))], []⟩, ⟨some 63, none, .pk (.t 60) (.c (.c (.b true))) (.t 62), []⟩, ⟨some 64, none, .mv (.t 63), []⟩, ⟨some 65, some (64, false), .ld 1 false (.t 2), []⟩, ⟨some 66, some (64, false), .call 111
  [.t 65, .c (.c (.s [116, 104, 101, 97, 100])), .c (.c (.i .i64 (.ofNat 4)))], []⟩, ⟨some 67, none, .pk (.t 64) (.c (.c (.b true))) (.t 66), []⟩]) (.cond (.t 67) (.seq (.reg [⟨some 68, none, .mv (.t
  5), []⟩, ⟨some 69, none, .callv (.t 68) [], []⟩]) (.seq (.reg [⟨some 70, none, .ld 1 false (.t 2), []⟩, ⟨some 71, none, .call 67 [.t 70, .c (.c (.i .i64 (.ofNat 1)))], []⟩]) (.seq (.reg [⟨some 72,
  none, .ld 1 false (.t 2), []⟩, ⟨some 73, none, .nc (.t 72), []⟩, ⟨some 74, none, .fa 5 (.t 73), []⟩, ⟨none, none, .st 1 (.t 74) (.c (.c (.i .i64 (.ofNat 7)))), []⟩]) (.seq (.reg [⟨some 4, none, .mv
  (.c (.c (.b true))), []⟩]) .ret)))) .skip)) (.seq (.reg [⟨some 76, none, .ld 5 true (.t 3), []⟩, ⟨some 77, none, .bsl 9 1 8 [.s [], .s [], .s [], .s [], .s [], .s [], .s [], .s []] [(0, (1, .c (.c
  (.s [98, 111, 100, 121])))), (1, (1, .c (.c (.s [99, 97, 112, 116, 105, 111, 110])))), (2, (1, .c (.c (.s [99, 111, 108])))), (3, (1, .c (.c (.s [99, 111, 108, 103, 114, 111, 117, 112])))), (4, (1,
  .c (.c (.s [104, 116, 109, 108])))), (5, (1, .c (.c (.s [116, 100])))), (6, (1, .c (.c (.s [116, 104])))), (7, (1, .c (.c (.s [116, 114]))))], []⟩, ⟨some 78, none, .call 66 [.t 76, .t 77], []⟩, ⟨some
  75, none, .mv (.t 78), []⟩]) (.cond (.t 75) .skip (.seq (.reg [⟨some 7, none, .ld 1 false (.t 2), []⟩, ⟨some 8, none, .ld 5 true (.t 3), []⟩, ⟨some 9, none, .call 74 [.t 7, .t 8], []⟩, ⟨some 4, none,
  .mv (.t 9), []⟩]) .ret)))))))))))) (.seq (.reg [⟨some 4, none, .mv (.c (.c (.b false))), []⟩]) .ret))), [(4, none)]⟩

theorem ok77 : FnR Tryz.prog 0 77 cf77 := fnC_ok Tryz.func77 (by kernel_rfl)

def cf78 : CF := ⟨64, .seq (.reg [⟨some 2, none, .new 57 (.t 0), []⟩, ⟨some 3, none, .new 56 (.t 1), []⟩, ⟨some 4, none, .mv (.c (.c (.b false))), []⟩]) (.seq (.reg [⟨some 6, none, .mkf 117 [.t 2], []⟩, ⟨some 5,
  none, .mv (.t 6), []⟩]) (.seq (.blk 0 (.seq (.reg [⟨some 11, none, .ld 5 true (.t 3), []⟩, ⟨some 12, none, .bsl 9 1 2 [.s [], .s []] [(0, (1, .c (.c (.s [116, 100])))), (1, (1, .c (.c (.s [116,
  104]))))], []⟩, ⟨some 13, none, .call 100 [.t 11, .t 12], []⟩, ⟨some 10, none, .mv (.t 13), []⟩]) (.cond (.t 10) (.seq (.reg [⟨some 14, none, .ld 1 false (.t 2), []⟩, ⟨some 15, none, .bsl 9 1 2 [.s
  [], .s []] [(0, (1, .c (.c (.s [116, 114])))), (1, (1, .c (.c (.s [104, 116, 109, 108]))))], []⟩, ⟨some 16, none, .call 108 [.t 14, .t 15], []⟩]) (.seq (.reg [⟨some 17, none, .ld 1 false (.t 2), []⟩,
  ⟨some 18, none, .fa 1 (.t 3), []⟩, ⟨some 19, none, .ld 1 false (.t 18), []⟩, ⟨some 20, none, .fa 3 (.t 3), []⟩, ⟨some 21, none, .ld 1 false (.t 20), []⟩, ⟨some 22, none, .call 101 [.t 17, .t 19, .t
  21], []⟩]) (.seq (.reg [⟨some 23, none, .ld 1 false (.t 2), []⟩, ⟨some 24, none, .nc (.t 23), []⟩, ⟨some 25, none, .fa 4 (.t 24), []⟩, ⟨some 26, none, .ld 1 false (.t 25), []⟩, ⟨some 27, none, .call
  109 [.t 26], []⟩]) (.reg [⟨some 28, none, .ld 1 false (.t 2), []⟩, ⟨some 29, none, .nc (.t 28), []⟩, ⟨some 30, none, .fa 5 (.t 29), []⟩, ⟨none, none, .st 1 (.t 30) (.c (.c (.i .i64 (.ofNat 12)))),
  []⟩])))) (.seq (.seq (.reg [⟨some 32, none, .ld 5 true (.t 3), []⟩, ⟨some 33, none, .bsl 9 1 2 [.s [], .s []] [(0, (1, .c (.c (.s [116, 114])))), (1, (1, .c (.c (.s [116, 97, 98, 108, 101]))))], []⟩,
  ⟨some 34, none, .call 66 [.t 32, .t 33], []⟩, ⟨some 31, none, .mv (.t 34), []⟩]) (.cond (.t 31) .skip (.reg [⟨some 35, none, .ld 5 true (.t 3), []⟩, ⟨some 36, none, .bsl 9 1 7 [.s [], .s [], .s [],
  .s [], .s [], .s [], .s []] [(0, (1, .c (.c (.s [99, 97, 112, 116, 105, 111, 110])))), (1, (1, .c (.c (.s [99, 111, 108])))), (2, (1, .c (.c (.s [99, 111, 108, 103, 114, 111, 117, 112])))), (3, (1,
  .c (.c (.s [116, 98, 111, 100, 121])))), (4, (1, .c (.c (.s [116, 102, 111, 111, 116])))), (5, (1, .c (.c (.s [116, 104, 101, 97, 100])))), (6, (1, .c (.c (.s [116, 114]))))], []⟩, ⟨some 37, none,
  .call 100 [.t 35, .t 36], []⟩, ⟨some 31, none, .mv (.t 37), []⟩]))) (.cond (.t 31) (.seq (.reg [⟨some 38, none, .ld 1 false (.t 2), []⟩, ⟨some 39, none, .call 111 [.t 38, .c (.c (.s [116, 114])), .c
  (.c (.i .i64 (.ofNat 4)))], []⟩]) (.cond (.t 39) (.seq (.reg [⟨some 40, none, .mv (.t 5), []⟩, ⟨some 41, none, .callv (.t 40) [], []⟩]) (.seq (.reg [⟨some 42, none, .ld 5 true (.t 3), []⟩, ⟨some 43,
  none, .bsl 9 1 1 [.s []] [(0, (1, .c (.c (.s [116, 114]))))], []⟩, ⟨some 44, none, .call 66 [.t 42, .t 43], []⟩, ⟨some 45, none, .un .not (.t 44), []⟩, ⟨some 4, none, .mv (.t 45), []⟩]) .ret))
  .skip)) (.seq (.dreg [⟨some 47, none, .ld 5 true (.t 3), []⟩, ⟨some 48, none, .call 110 [], [⟨some 47, none, .ld 5 true (.t 3)⟩]⟩, ⟨some 49, none, .call 66 [.t 47, .t 48], []⟩, ⟨some 46, none, .mv
  (.t 49), []⟩]) (.cond (.t 46) (.seq (.reg [⟨some 50, none, .ld 1 false (.t 2), []⟩, ⟨some 51, none, .fa 1 (.t 3), []⟩, ⟨some 52, none, .ld 1 false (.t 51), []⟩, ⟨some 53, none, .call 111 [.t 50, .t
  52, .c (.c (.i .i64 (.ofNat 4)))], []⟩, ⟨some 54, none, .mv (.t 53), []⟩, ⟨some 55, some (54, true), .ld 1 false (.t 2), []⟩, ⟨some 56, some (54, true), .call 111 [.t 55, .c (.c (.s [116, 114])), .c
  (.c (.i .i64 (.ofNat 4)))], []⟩, ⟨some 57, none, .pk (.t 54) (.t 56) (.c (.c (.b false))), []⟩]) (.cond (.t 57) (.seq (.reg [⟨some 58, none, .mv (.t 5), []⟩, ⟨some 59, none, .callv (.t 58) [], []⟩])
  (.seq (.reg [⟨some 4, none, .mv (.c (.c (.b true))), []⟩]) .ret)) .skip)) (.seq (.reg [⟨some 61, none, .ld 5 true (.t 3), []⟩, ⟨some 62, none, .bsl 9 1 7 [.s [], .s [], .s [], .s [], .s [], .s [], .s
  []] [(0, (1, .c (.c (.s [98, 111, 100, 121])))), (1, (1, .c (.c (.s [99, 97, 112, 116, 105, 111, 110])))), (2, (1, .c (.c (.s [99, 111, 108])))), (3, (1, .c (.c (.s [99, 111, 108, 103, 114, 111, 117,
  112])))), (4, (1, .c (.c (.s [104, 116, 109, 108])))), (5, (1, .c (.c (.s [116, 100])))), (6, (1, .c (.c (.s [116, 104]))))], []⟩, ⟨some 63, none, .call 66 [.t 61, .t 62], []⟩, ⟨some 60, none, .mv
  (.t 63), []⟩]) (.cond (.t 60) .skip (.seq (.reg [⟨some 7, none, .ld 1 false (.t 2), []⟩, ⟨some 8, none, .ld 5 true (.t 3), []⟩, ⟨some 9, none, .call 74 [.t 7, .t 8], []⟩, ⟨some 4, none, .mv (.t 9),
  []⟩]) .ret)))))))))) (.seq (.reg [⟨some 4, none, .mv (.c (.c (.b false))), []⟩]) .ret))), [(4, none)]⟩

theorem ok78 : FnR Tryz.prog 0 78 cf78 := fnC_ok Tryz.func78 (by kernel_rfl)

def cf79 : CF := ⟨62, .seq (.reg [⟨some 2, none, .new 57 (.t 0), []⟩, ⟨some 3, none, .new 56 (.t 1), []⟩, ⟨some 4, none, .mv (.c (.c (.b false))), []⟩]) (.seq (.reg [⟨some 6, none, .mkf 118 [.t 2], []⟩, ⟨some 5,
  none, .mv (.t 6), []⟩]) (.seq (.blk 0 (.seq (.reg [⟨some 11, none, .ld 5 true (.t 3), []⟩, ⟨some 12, none, .bsl 9 1 2 [.s [], .s []] [(0, (1, .c (.c (.s [116, 100])))), (1, (1, .c (.c (.s [116,
  104]))))], []⟩, ⟨some 13, none, .call 66 [.t 11, .t 12], []⟩, ⟨some 10, none, .mv (.t 13), []⟩]) (.cond (.t 10) (.seq (.reg [⟨some 14, none, .ld 1 false (.t 2), []⟩, ⟨some 15, none, .fa 1 (.t 3),
  []⟩, ⟨some 16, none, .ld 1 false (.t 15), []⟩, ⟨some 17, none, .call 111 [.t 14, .t 16, .c (.c (.i .i64 (.ofNat 4)))], []⟩]) (.cond (.t 17) (.seq (.reg [⟨some 18, none, .ld 1 false (.t 2), []⟩, ⟨some
  19, none, .call 114 [.t 18, .c (.c (.s []))], []⟩]) (.seq (.reg [⟨some 20, none, .ld 1 false (.t 2), []⟩, ⟨some 21, none, .fa 1 (.t 3), []⟩, ⟨some 22, none, .ld 1 false (.t 21), []⟩, ⟨some 23, none,
  .bsl 9 1 1 [.s []] [(0, (1, .t 22))], []⟩, ⟨some 24, none, .call 104 [.t 20, .t 23], []⟩]) (.seq (.reg [⟨some 25, none, .ld 1 false (.t 2), []⟩, ⟨some 26, none, .nc (.t 25), []⟩, ⟨some 27, none, .fa
  4 (.t 26), []⟩, ⟨some 28, none, .ld 1 false (.t 27), []⟩, ⟨some 29, none, .call 115 [.t 28], []⟩]) (.reg [⟨some 30, none, .ld 1 false (.t 2), []⟩, ⟨some 31, none, .nc (.t 30), []⟩, ⟨some 32, none,
  .fa 5 (.t 31), []⟩, ⟨none, none, .st 1 (.t 32) (.c (.c (.i .i64 (.ofNat 11)))), []⟩])))) .skip)) (.seq (.reg [⟨some 34, none, .ld 5 true (.t 3), []⟩, ⟨some 35, none, .call 113 [.t 34], []⟩, ⟨some 33,
  none, .mv (.t 35), []⟩]) (.cond (.t 33) (.seq (.reg [⟨some 36, none, .ld 1 false (.t 2), []⟩, ⟨some 37, none, .call 111 [.t 36, .c (.c (.s [116, 100])), .c (.c (.i .i64 (.ofNat 4)))], []⟩, ⟨some 38,
  none, .mv (.t 37), []⟩, ⟨some 39, some (38, false), .ld 1 false (.t 2), []⟩, ⟨some 40, some (38, false), .call 111 [.t 39, .c (.c (.s [116, 104])), .c (.c (.i .i64 (.ofNat 4)))], []⟩, ⟨some 41, none,
  .pk (.t 38) (.c (.c (.b true))) (.t 40), []⟩, ⟨some 42, none, .mv (.t 41), []⟩, ⟨some 43, some (42, true), .mv (.t 5), []⟩, ⟨some 44, some (42, true), .callv (.t 43) [], []⟩, ⟨some 45, none, .pk (.t
  42) (.t 44) (.c (.c (.b false))), []⟩, ⟨some 4, none, .mv (.t 45), []⟩]) .ret) (.seq (.reg [⟨some 47, none, .ld 5 true (.t 3), []⟩, ⟨some 48, none, .bsl 9 1 5 [.s [], .s [], .s [], .s [], .s []] [(0,
  (1, .c (.c (.s [98, 111, 100, 121])))), (1, (1, .c (.c (.s [99, 97, 112, 116, 105, 111, 110])))), (2, (1, .c (.c (.s [99, 111, 108])))), (3, (1, .c (.c (.s [99, 111, 108, 103, 114, 111, 117,
  112])))), (4, (1, .c (.c (.s [104, 116, 109, 108]))))], []⟩, ⟨some 49, none, .call 66 [.t 47, .t 48], []⟩, ⟨some 46, none, .mv (.t 49), []⟩]) (.cond (.t 46) .skip (.seq (.reg [⟨some 51, none, .ld 5
  true (.t 3), []⟩, ⟨some 52, none, .bsl 9 1 5 [.s [], .s [], .s [], .s [], .s []] [(0, (1, .c (.c (.s [116, 97, 98, 108, 101])))), (1, (1, .c (.c (.s [116, 98, 111, 100, 121])))), (2, (1, .c (.c (.s
  [116, 102, 111, 111, 116])))), (3, (1, .c (.c (.s [116, 104, 101, 97, 100])))), (4, (1, .c (.c (.s [116, 114]))))], []⟩, ⟨some 53, none, .call 66 [.t 51, .t 52], []⟩, ⟨some 50, none, .mv (.t 53),
  []⟩]) (.cond (.t 50) (.seq (.reg [⟨some 54, none, .ld 1 false (.t 2), []⟩, ⟨some 55, none, .fa 1 (.t 3), []⟩, ⟨some 56, none, .ld 1 false (.t 55), []⟩, ⟨some 57, none, .call 111 [.t 54, .t 56, .c (.c
  (.i .i64 (.ofNat 4)))], []⟩, ⟨some 58, none, .mv (.t 57), []⟩, ⟨some 59, some (58, true), .mv (.t 5), []⟩, ⟨some 60, some (58, true), .callv (.t 59) [], []⟩, ⟨some 61, none, .pk (.t 58) (.t 60) (.c
  (.c (.b false))), []⟩, ⟨some 4, none, .mv (.t 61), []⟩]) .ret) (.seq (.reg [⟨some 7, none, .ld 1 false (.t 2), []⟩, ⟨some 8, none, .ld 5 true (.t 3), []⟩, ⟨some 9, none, .call 80 [.t 7, .t 8], []⟩,
  ⟨some 4, none, .mv (.t 9), []⟩]) .ret)))))))))) (.seq (.reg [⟨some 4, none, .mv (.c (.c (.b false))), []⟩]) .ret))), [(4, none)]⟩

theorem ok79 : FnR Tryz.prog 0 79 cf79 := fnC_ok Tryz.func79 (by kernel_rfl)

def cf80 : CF := ⟨30, .seq (.reg [⟨some 3, none, .new 56 (.t 1), []⟩, ⟨some 4, none, .mv (.c (.c (.b false))), []⟩]) (.seq (.seq (.reg [⟨some 5, none, .fa 0 (.t 3), []⟩, ⟨some 6, none, .ld 1 false (.t 5), []⟩]) (.blk
  0 (.seq (.reg [⟨some 8, none, .bin .eql (.t 6) (.c (.c (.i .i64 (.ofNat 3)))), []⟩, ⟨some 7, none, .mv (.t 8), []⟩]) (.cond (.t 7) (.seq (.reg [⟨some 9, none, .mv (.t 0), []⟩, ⟨some 10, none, .call
  119 [.t 9], []⟩]) (.reg [⟨some 11, none, .mv (.t 0), []⟩, ⟨some 12, none, .fa 2 (.t 3), []⟩, ⟨some 13, none, .ld 1 false (.t 12), []⟩, ⟨some 14, none, .call 65 [.t 11, .t 13], []⟩])) (.seq (.reg
  [⟨some 16, none, .bin .eql (.t 6) (.c (.c (.i .i64 (.ofNat 4)))), []⟩, ⟨some 15, none, .mv (.t 16), []⟩]) (.cond (.t 15) (.reg [⟨some 17, none, .mv (.t 0), []⟩, ⟨some 18, none, .ld 5 true (.t 3),
  []⟩, ⟨some 19, none, .call 102 [.t 17, .t 18], []⟩]) (.seq (.reg [⟨some 21, none, .bin .eql (.t 6) (.c (.c (.i .i64 (.ofNat 1)))), []⟩, ⟨some 20, none, .mv (.t 21), []⟩]) (.cond (.t 20) (.seq (.reg
  [⟨some 22, none, .mv (.t 0), []⟩, ⟨some 23, none, .ld 5 true (.t 3), []⟩, ⟨some 24, none, .call 120 [.t 22, .t 23], []⟩, ⟨some 4, none, .mv (.t 24), []⟩]) .ret) (.seq (.reg [⟨some 26, none, .bin .eql
  (.t 6) (.c (.c (.i .i64 (.ofNat 2)))), []⟩, ⟨some 25, none, .mv (.t 26), []⟩]) (.cond (.t 25) (.seq (.reg [⟨some 27, none, .mv (.t 0), []⟩, ⟨some 28, none, .ld 5 true (.t 3), []⟩, ⟨some 29, none,
  .call 121 [.t 27, .t 28], []⟩, ⟨some 4, none, .mv (.t 29), []⟩]) .ret) .skip)))))))))) (.seq (.reg [⟨some 4, none, .mv (.c (.c (.b false))), []⟩]) .ret)), [(4, none)]⟩

theorem ok80 : FnR Tryz.prog 0 80 cf80 := fnC_ok Tryz.func80 (by kernel_rfl)

def cf81 : CF := ⟨73, .seq (.reg [⟨some 1, none, .new 28 (.t 0), []⟩, ⟨some 2, none, .mv (.c (.c (.b false))), []⟩]) (.seq (.seq (.reg [⟨some 3, none, .fa 0 (.t 1), []⟩, ⟨some 4, none, .ld 1 false (.t 3), []⟩, ⟨some
  5, none, .bin .eql (.t 4) (.c (.c (.i .i64 (.ofNat 2)))), []⟩]) (.cond (.t 5) (.seq (.reg [⟨some 6, none, .fa 1 (.t 1), []⟩, ⟨some 7, none, .ld 1 false (.t 6), []⟩, ⟨some 8, none, .call 36 [.t 7],
  []⟩, ⟨some 9, none, .mv (.t 8), []⟩, ⟨some 10, some (9, true), .fa 2 (.t 1), []⟩, ⟨some 11, some (9, true), .ld 1 false (.t 10), []⟩, ⟨some 12, some (9, true), .bin .eql (.t 11) (.c (.c (.s []))),
  []⟩, ⟨some 13, none, .pk (.t 9) (.t 12) (.c (.c (.b false))), []⟩, ⟨some 14, none, .mv (.t 13), []⟩, ⟨some 15, some (14, true), .fa 3 (.t 1), []⟩, ⟨some 16, some (14, true), .ld 1 false (.t 15), []⟩,
  ⟨some 17, some (14, true), .call 122 [.t 16], []⟩, ⟨some 18, none, .pk (.t 14) (.t 17) (.c (.c (.b false))), []⟩, ⟨some 19, none, .mv (.t 18), []⟩, ⟨some 20, some (19, true), .ld 5 true (.t 1), []⟩,
  ⟨some 21, some (19, true), .call 46 [.t 20], []⟩, ⟨some 22, none, .pk (.t 19) (.t 21) (.c (.c (.b false))), []⟩, ⟨some 2, none, .mv (.t 22), []⟩]) .ret) .skip)) (.seq (.seq (.reg [⟨some 23, none, .fa
  3 (.t 1), []⟩, ⟨some 24, none, .ld 1 false (.t 23), []⟩, ⟨some 25, none, .len true (.t 24), []⟩, ⟨some 26, none, .bin .gtr (.t 25) (.c (.c (.i .i64 (.ofNat 0)))), []⟩, ⟨some 27, none, .mv (.t 26),
  []⟩, ⟨some 28, some (27, false), .fa 4 (.t 1), []⟩, ⟨some 29, some (27, false), .ld 1 false (.t 28), []⟩, ⟨some 30, some (27, false), .len true (.t 29), []⟩, ⟨some 31, some (27, false), .bin .gtr (.t
  30) (.c (.c (.i .i64 (.ofNat 0)))), []⟩, ⟨some 32, none, .pk (.t 27) (.c (.c (.b true))) (.t 31), []⟩]) (.cond (.t 32) (.seq (.reg [⟨some 2, none, .mv (.c (.c (.b false))), []⟩]) .ret) .skip)) (.seq
  (.seq (.reg [⟨some 33, none, .fa 0 (.t 1), []⟩, ⟨some 34, none, .ld 1 false (.t 33), []⟩]) (.blk 0 (.seq (.reg [⟨some 36, none, .bin .eql (.t 34) (.c (.c (.i .i64 (.ofNat 3)))), []⟩, ⟨some 35, none,
  .mv (.t 36), []⟩]) (.cond (.t 35) (.seq (.reg [⟨some 37, none, .fa 1 (.t 1), []⟩, ⟨some 38, none, .ld 1 false (.t 37), []⟩, ⟨some 39, none, .bin .eql (.t 38) (.c (.c (.s []))), []⟩, ⟨some 40, none,
  .mv (.t 39), []⟩, ⟨some 41, some (40, true), .fa 2 (.t 1), []⟩, ⟨some 42, some (40, true), .ld 1 false (.t 41), []⟩, ⟨some 43, some (40, true), .bin .neq (.t 42) (.c (.c (.s []))), []⟩, ⟨some 44,
  none, .pk (.t 40) (.t 43) (.c (.c (.b false))), []⟩, ⟨some 45, none, .mv (.t 44), []⟩, ⟨some 46, some (45, true), .fa 2 (.t 1), []⟩, ⟨some 47, some (45, true), .ld 1 false (.t 46), []⟩, ⟨some 48,
  some (45, true), .len false (.t 47), []⟩, ⟨some 49, some (45, true), .bin .leq (.t 48) (.c (.c (.i .i64 (.ofNat 4096)))), []⟩, ⟨some 50, none, .pk (.t 45) (.t 49) (.c (.c (.b false))), []⟩, ⟨some 2,
  none, .mv (.t 50), []⟩]) .ret) (.seq (.reg [⟨some 52, none, .bin .eql (.t 34) (.c (.c (.i .i64 (.ofNat 4)))), []⟩, ⟨some 51, none, .mv (.t 52), []⟩]) (.cond (.t 51) (.seq (.reg [⟨some 53, none, .fa 1
  (.t 1), []⟩, ⟨some 54, none, .ld 1 false (.t 53), []⟩, ⟨some 55, none, .bin .eql (.t 54) (.c (.c (.s []))), []⟩, ⟨some 56, none, .mv (.t 55), []⟩, ⟨some 57, some (56, true), .fa 2 (.t 1), []⟩, ⟨some
  58, some (56, true), .ld 1 false (.t 57), []⟩, ⟨some 59, some (56, true), .len false (.t 58), []⟩, ⟨some 60, some (56, true), .bin .leq (.t 59) (.c (.c (.i .i64 (.ofNat 4096)))), []⟩, ⟨some 61, none,
  .pk (.t 56) (.t 60) (.c (.c (.b false))), []⟩, ⟨some 2, none, .mv (.t 61), []⟩]) .ret) (.seq (.reg [⟨some 63, none, .bin .eql (.t 34) (.c (.c (.i .i64 (.ofNat 5)))), []⟩, ⟨some 62, none, .mv (.t 63),
  []⟩]) (.cond (.t 62) (.seq (.reg [⟨some 64, none, .fa 2 (.t 1), []⟩, ⟨some 65, none, .ld 1 false (.t 64), []⟩, ⟨some 66, none, .bin .eql (.t 65) (.c (.c (.s []))), []⟩, ⟨some 67, none, .mv (.t 66),
  []⟩, ⟨some 68, some (67, true), .fa 1 (.t 1), []⟩, ⟨some 69, some (67, true), .ld 1 false (.t 68), []⟩, ⟨some 70, some (67, true), .len false (.t 69), []⟩, ⟨some 71, some (67, true), .bin .leq (.t
  70) (.c (.c (.i .i64 (.ofNat 32)))), []⟩, ⟨some 72, none, .pk (.t 67) (.t 71) (.c (.c (.b false))), []⟩, ⟨some 2, none, .mv (.t 72), []⟩]) .ret) .skip)))))))) (.seq (.reg [⟨some 2, none, .mv (.c (.c
  (.b false))), []⟩]) .ret)))), [(2, none)]⟩

theorem ok81 : FnR Tryz.prog 0 81 cf81 := fnC_ok Tryz.func81 (by kernel_rfl)

def cf84 : CF := ⟨17, .seq (.reg [⟨some 2, none, .mv (.c (.c (.b false))), []⟩]) (.seq (.reg [⟨some 3, none, .mv (.t 0), []⟩, ⟨some 4, none, .bin .eql (.t 3) (.c (.c (.i .u8 (.ofNat 9)))), []⟩, ⟨some 5, none, .mv (.t
  4), []⟩, ⟨some 6, some (5, false), .mv (.t 0), []⟩, ⟨some 7, some (5, false), .bin .eql (.t 6) (.c (.c (.i .u8 (.ofNat 10)))), []⟩, ⟨some 8, none, .pk (.t 5) (.c (.c (.b true))) (.t 7), []⟩, ⟨some 9,
  none, .mv (.t 8), []⟩, ⟨some 10, some (9, false), .mv (.t 0), []⟩, ⟨some 11, some (9, false), .bin .eql (.t 10) (.c (.c (.i .u8 (.ofNat 12)))), []⟩, ⟨some 12, none, .pk (.t 9) (.c (.c (.b true))) (.t
  11), []⟩, ⟨some 13, none, .mv (.t 12), []⟩, ⟨some 14, some (13, false), .mv (.t 0), []⟩, ⟨some 15, some (13, false), .bin .eql (.t 14) (.c (.c (.i .u8 (.ofNat 32)))), []⟩, ⟨some 16, none, .pk (.t 13)
  (.c (.c (.b true))) (.t 15), []⟩, ⟨some 2, none, .mv (.t 16), []⟩]) .ret), [(2, none)]⟩

theorem ok84 : FnR Tryz.prog 0 84 cf84 := fnC_ok Tryz.func84 (by kernel_rfl)

def cf86 : CF := ⟨17, .seq (.reg [⟨some 2, none, .mv (.c (.c (.b false))), []⟩]) (.seq (.reg [⟨some 3, none, .mv (.t 0), []⟩, ⟨some 4, none, .bin .geq (.t 3) (.c (.c (.i .u8 (.ofNat 97)))), []⟩, ⟨some 5, none, .mv
  (.t 4), []⟩, ⟨some 6, some (5, true), .mv (.t 0), []⟩, ⟨some 7, some (5, true), .bin .leq (.t 6) (.c (.c (.i .u8 (.ofNat 122)))), []⟩, ⟨some 8, none, .pk (.t 5) (.t 7) (.c (.c (.b false))), []⟩,
  ⟨some 9, none, .mv (.t 8), []⟩, ⟨some 10, some (9, false), .mv (.t 0), []⟩, ⟨some 11, some (9, false), .bin .geq (.t 10) (.c (.c (.i .u8 (.ofNat 65)))), []⟩, ⟨some 12, some (9, false), .mv (.t 11),
  []⟩, ⟨some 13, some (12, true), .mv (.t 0), []⟩, ⟨some 14, some (12, true), .bin .leq (.t 13) (.c (.c (.i .u8 (.ofNat 90)))), []⟩, ⟨some 15, some (9, false), .pk (.t 12) (.t 14) (.c (.c (.b false))),
  []⟩, ⟨some 16, none, .pk (.t 9) (.c (.c (.b true))) (.t 15), []⟩, ⟨some 2, none, .mv (.t 16), []⟩]) .ret), [(2, none)]⟩

theorem ok86 : FnR Tryz.prog 0 86 cf86 := fnC_ok Tryz.func86 (by kernel_rfl)

def cf87 : CF := ⟨36, .seq (.reg [⟨some 6, none, .mv (.c (.c (.i .i64 (.ofNat 0)))), []⟩]) (.seq (.blk 0 (.loop [31, 22, 7, 18, 0, 1, 2, 6] (.seq (.seq (.reg [⟨some 8, none, .mv (.t 1), []⟩, ⟨some 9, none, .mv (.t
  0), []⟩, ⟨some 10, none, .len false (.t 9), []⟩, ⟨some 11, none, .bin .lss (.t 8) (.t 10), []⟩, ⟨some 12, none, .mv (.t 11), []⟩, ⟨some 13, some (12, true), .mv (.t 0), []⟩, ⟨some 14, some (12,
  true), .mv (.t 1), []⟩, ⟨some 15, some (12, true), .sx (.t 13) (.t 14), []⟩, ⟨some 16, some (12, true), .call 84 [.t 15], []⟩, ⟨some 17, some (12, true), .un .not (.t 16), []⟩, ⟨some 18, none, .pk
  (.t 12) (.t 17) (.c (.c (.b false))), []⟩]) (.cond (.t 18) .skip (.exit 0))) (.blk 1 (.seq (.seq (.reg [⟨some 7, none, .mv (.c (.c (.i .i64 (.ofNat 0)))), []⟩]) (.blk 2 (.loop [31, 22, 7, 18, 0, 1,
  2, 6] (.seq (.seq (.reg [⟨some 19, none, .mv (.t 7), []⟩, ⟨some 20, none, .mv (.t 2), []⟩, ⟨some 21, none, .len false (.t 20), []⟩, ⟨some 22, none, .bin .lss (.t 19) (.t 21), []⟩]) (.cond (.t 22)
  .skip (.exit 2))) (.seq (.blk 3 (.seq (.dreg [⟨some 25, none, .mv (.t 0), []⟩, ⟨some 26, none, .mv (.t 1), []⟩, ⟨some 27, none, .sx (.t 25) (.t 26), []⟩, ⟨some 28, none, .mv (.t 2), []⟩, ⟨some 29,
  none, .mv (.t 7), []⟩, ⟨some 30, none, .sx (.t 28) (.t 29), []⟩, ⟨some 31, none, .bin .eql (.t 27) (.t 30), []⟩]) (.cond (.t 31) (.seq (.reg [⟨some 32, none, .mv (.t 1), []⟩, ⟨some 6, none, .mv (.t
  32), []⟩]) .ret) .skip))) (.reg [⟨some 23, none, .mv (.t 7), []⟩, ⟨some 24, none, .bin .add (.t 23) (.c (.c (.i .i64 (.ofNat 1)))), []⟩, ⟨some 7, none, .mv (.t 24), []⟩])))))) (.reg [⟨some 33, none,
  .mv (.t 1), []⟩, ⟨some 34, none, .bin .add (.t 33) (.c (.c (.i .i64 (.ofNat 1)))), []⟩, ⟨some 1, none, .mv (.t 34), []⟩])))))) (.seq (.reg [⟨some 35, none, .mv (.t 1), []⟩, ⟨some 6, none, .mv (.t
  35), []⟩]) .ret)), [(6, none)]⟩

theorem ok87 : FnR Tryz.prog 0 87 cf87 := fnC_ok Tryz.func87 (by kernel_rfl)

def cf88 : CF := ⟨45, .seq (.reg [⟨some 2, none, .mv (.c (.c (.s []))), []⟩]) (.seq (.reg [⟨some 5, none, .mv (.t 0), []⟩, ⟨some 6, none, .call 51 [.t 5], []⟩, ⟨some 7, none, .s2b 5 (.t 6), []⟩, ⟨some 3, none, .mv
  (.t 7), []⟩]) (.seq (.seq (.reg [⟨some 4, none, .mv (.c (.c (.i .i64 (.ofNat 0)))), []⟩]) (.blk 0 (.loop [39, 11, 3, 4, 0, 2] (.seq (.seq (.reg [⟨some 8, none, .mv (.t 4), []⟩, ⟨some 9, none, .mv (.t
  3), []⟩, ⟨some 10, none, .len true (.t 9), []⟩, ⟨some 11, none, .bin .lss (.t 8) (.t 10), []⟩]) (.cond (.t 11) .skip (.exit 0))) (.seq (.blk 1 (.seq (.reg [⟨some 14, none, .mv (.t 3), []⟩, ⟨some 15,
  none, .mv (.t 4), []⟩, ⟨some 16, none, .ia 1 (.t 14) (.t 15), []⟩, ⟨some 17, none, .ld 1 false (.t 16), []⟩, ⟨some 18, none, .bin .eql (.t 17) (.c (.c (.i .u8 (.ofNat 34)))), []⟩, ⟨some 19, none, .mv
  (.t 18), []⟩, ⟨some 20, some (19, false), .mv (.t 3), []⟩, ⟨some 21, some (19, false), .mv (.t 4), []⟩, ⟨some 22, some (19, false), .ia 1 (.t 20) (.t 21), []⟩, ⟨some 23, some (19, false), .ld 1 false
  (.t 22), []⟩, ⟨some 24, some (19, false), .bin .eql (.t 23) (.c (.c (.i .u8 (.ofNat 39)))), []⟩, ⟨some 25, none, .pk (.t 19) (.c (.c (.b true))) (.t 24), []⟩, ⟨some 26, none, .mv (.t 25), []⟩, ⟨some
  27, some (26, false), .mv (.t 3), []⟩, ⟨some 28, some (26, false), .mv (.t 4), []⟩, ⟨some 29, some (26, false), .ia 1 (.t 27) (.t 28), []⟩, ⟨some 30, some (26, false), .ld 1 false (.t 29), []⟩, ⟨some
  31, some (26, false), .bin .eql (.t 30) (.c (.c (.i .u8 (.ofNat 60)))), []⟩, ⟨some 32, none, .pk (.t 26) (.c (.c (.b true))) (.t 31), []⟩, ⟨some 33, none, .mv (.t 32), []⟩, ⟨some 34, some (33,
  false), .mv (.t 3), []⟩, ⟨some 35, some (33, false), .mv (.t 4), []⟩, ⟨some 36, some (33, false), .ia 1 (.t 34) (.t 35), []⟩, ⟨some 37, some (33, false), .ld 1 false (.t 36), []⟩, ⟨some 38, some (33,
  false), .bin .eql (.t 37) (.c (.c (.i .u8 (.ofNat 61)))), []⟩, ⟨some 39, none, .pk (.t 33) (.c (.c (.b true))) (.t 38), []⟩]) (.cond (.t 39) (.reg [⟨some 40, none, .mv (.t 3), []⟩, ⟨some 41, none,
  .mv (.t 4), []⟩, ⟨some 42, none, .ia 1 (.t 40) (.t 41), []⟩, ⟨none, none, .st 1 (.t 42) (.c (.c (.i .u8 (.ofNat 95)))), []⟩]) .skip))) (.reg [⟨some 12, none, .mv (.t 4), []⟩, ⟨some 13, none, .bin
  .add (.t 12) (.c (.c (.i .i64 (.ofNat 1)))), []⟩, ⟨some 4, none, .mv (.t 13), []⟩])))))) (.seq (.reg [⟨some 43, none, .mv (.t 3), []⟩, ⟨some 44, none, .b2s (.t 43), []⟩, ⟨some 2, none, .mv (.t 44),
  []⟩]) .ret))), [(2, none)]⟩

theorem ok88 : FnR Tryz.prog 0 88 cf88 := fnC_ok Tryz.func88 (by kernel_rfl)

def cf95 : CF := ⟨28, .seq (.reg [⟨some 2, none, .mv (.c (.c (.p none))), []⟩, ⟨some 3, none, .mv (.c (.c (.i .i64 (.ofNat 0)))), []⟩]) (.seq (.reg [⟨some 5, none, .mv (.t 0), []⟩, ⟨some 6, none, .call 63 [.t 5],
  []⟩, ⟨some 4, none, .mv (.t 6), []⟩]) (.seq (.seq (.reg [⟨some 7, none, .mv (.t 0), []⟩, ⟨some 8, none, .nc (.t 7), []⟩, ⟨some 9, none, .fa 6 (.t 8), []⟩, ⟨some 10, none, .ld 1 false (.t 9), []⟩,
  ⟨some 11, none, .mv (.t 10), []⟩, ⟨some 12, some (11, true), .mv (.t 4), []⟩, ⟨some 13, some (11, true), .nc (.t 12), []⟩, ⟨some 14, some (11, true), .fa 2 (.t 13), []⟩, ⟨some 15, some (11, true),
  .ld 1 false (.t 14), []⟩, ⟨some 16, some (11, true), .call 126 [.t 15], []⟩, ⟨some 17, none, .pk (.t 11) (.t 16) (.c (.c (.b false))), []⟩]) (.cond (.t 17) (.seq (.reg [⟨some 18, none, .mv (.t 0),
  []⟩, ⟨some 19, none, .call 127 [.t 18], []⟩, ⟨some 20, none, .ext 0 (.t 19), []⟩, ⟨some 21, none, .ext 1 (.t 19), []⟩, ⟨some 2, none, .mv (.t 20), []⟩, ⟨some 3, none, .mv (.t 21), []⟩]) .ret) .skip))
  (.seq (.dreg [⟨some 22, none, .mv (.t 4), []⟩, ⟨some 23, none, .mv (.t 4), []⟩, ⟨some 24, none, .nc (.t 23), []⟩, ⟨some 25, none, .fa 6 (.t 24), []⟩, ⟨some 26, none, .ld 1 false (.t 25), []⟩, ⟨some
  27, none, .len true (.t 26), []⟩, ⟨some 2, none, .mv (.t 22), []⟩, ⟨some 3, none, .mv (.t 27), []⟩]) .ret))), [(2, none), (3, none)]⟩

theorem ok95 : FnR Tryz.prog 0 95 cf95 := fnC_ok Tryz.func95 (by kernel_rfl)

def cf96 : CF := ⟨21, .seq (.reg [⟨some 6, none, .mv (.t 1), []⟩, ⟨some 7, none, .mv (.t 0), []⟩, ⟨some 8, none, .nc (.t 6), []⟩, ⟨some 9, none, .fa 5 (.t 8), []⟩, ⟨none, none, .st 1 (.t 9) (.t 7), []⟩]) (.reg [⟨some
  10, none, .mv (.t 0), []⟩, ⟨some 11, none, .mv (.t 0), []⟩, ⟨some 12, none, .nc (.t 11), []⟩, ⟨some 13, none, .fa 6 (.t 12), []⟩, ⟨some 14, none, .ld 1 false (.t 13), []⟩, ⟨some 15, none, .mv (.t 2),
  []⟩, ⟨some 16, none, .mv (.t 1), []⟩, ⟨some 17, none, .bsl 58 1 1 [.p none] [(0, (1, .t 16))], []⟩, ⟨some 18, none, .call 128 [.t 14, .t 15, .t 17], []⟩, ⟨some 19, none, .nc (.t 10), []⟩, ⟨some 20,
  none, .fa 6 (.t 19), []⟩, ⟨none, none, .st 1 (.t 20) (.t 18), []⟩]), []⟩

theorem ok96 : FnR Tryz.prog 0 96 cf96 := fnC_ok Tryz.func96 (by kernel_rfl)

def cf97 : CF := ⟨29, .seq (.reg [⟨some 10, none, .mv (.c (.c (.p none))), []⟩]) (.seq (.reg [⟨some 11, none, .mv (.t 0), []⟩, ⟨some 12, none, .nc (.t 11), []⟩, ⟨some 13, none, .fa 2 (.t 12), []⟩, ⟨some 14, none, .ld
  1 false (.t 13), []⟩, ⟨some 15, none, .bin .add (.t 14) (.c (.c (.i .i64 (.ofNat 1)))), []⟩, ⟨some 16, none, .nc (.t 11), []⟩, ⟨some 17, none, .fa 2 (.t 16), []⟩, ⟨none, none, .st 1 (.t 17) (.t 15),
  []⟩]) (.seq (.dreg [⟨some 18, none, .mv (.t 0), []⟩, ⟨some 19, none, .nc (.t 18), []⟩, ⟨some 20, none, .fa 2 (.t 19), []⟩, ⟨some 21, none, .ld 1 false (.t 20), []⟩, ⟨some 22, none, .mv (.t 1), []⟩,
  ⟨some 23, none, .mv (.t 2), []⟩, ⟨some 24, none, .mv (.t 3), []⟩, ⟨some 25, none, .mv (.t 4), []⟩, ⟨some 26, none, .call 40 [.t 25], [⟨some 21, none, .ld 1 false (.t 20)⟩]⟩, ⟨some 27, none, .bld [.i
  .i64 (.ofNat 0), .i .i64 (.ofNat 0), .s [], .s [], .sl none 0 0 0, .p none, .sl none 0 0 0] [(0, (1, .t 21)), (1, (1, .t 22)), (2, (1, .t 23)), (3, (1, .t 24)), (4, (1, .t 26))], []⟩, ⟨some 28, none,
  .new 61 (.t 27), []⟩, ⟨some 10, none, .mv (.t 28), []⟩]) .ret)), [(10, none)]⟩

theorem ok97 : FnR Tryz.prog 0 97 cf97 := fnC_ok Tryz.func97 (by kernel_rfl)

def cf99 : CF := ⟨20, .seq (.reg [⟨some 1, none, .new 56 (.t 0), []⟩, ⟨some 2, none, .mv (.c (.c (.b false))), []⟩]) (.seq (.seq (.reg [⟨some 4, none, .fa 0 (.t 1), []⟩, ⟨some 5, none, .ld 1 false (.t 4), []⟩, ⟨some
  6, none, .bin .neq (.t 5) (.c (.c (.i .i64 (.ofNat 3)))), []⟩]) (.cond (.t 6) (.seq (.reg [⟨some 2, none, .mv (.c (.c (.b false))), []⟩]) .ret) .skip)) (.seq (.seq (.reg [⟨some 7, none, .fa 2 (.t 1),
  []⟩, ⟨some 8, none, .ld 1 false (.t 7), []⟩, ⟨some 9, none, .len false (.t 8), []⟩, ⟨some 10, none, .mv (.c (.c (.i .i64 (.ofNat 0)))), []⟩]) (.blk 0 (.loop [18, 3, 11, 10, 9, 6, 1, 0, 2] (.seq (.reg
  [⟨some 11, none, .bin .lss (.t 10) (.t 9), []⟩]) (.seq (.cond (.t 11) .skip (.exit 0)) (.seq (.blk 1 (.seq (.reg [⟨some 12, none, .mv (.t 10), []⟩, ⟨some 3, none, .mv (.t 12), []⟩]) (.seq (.reg
  [⟨some 13, none, .fa 2 (.t 1), []⟩, ⟨some 14, none, .ld 1 false (.t 13), []⟩, ⟨some 15, none, .mv (.t 3), []⟩, ⟨some 16, none, .sx (.t 14) (.t 15), []⟩, ⟨some 17, none, .call 129 [.t 16], []⟩, ⟨some
  18, none, .un .not (.t 17), []⟩]) (.cond (.t 18) (.seq (.reg [⟨some 2, none, .mv (.c (.c (.b false))), []⟩]) .ret) .skip)))) (.reg [⟨some 19, none, .bin .add (.t 10) (.c (.c (.i .i64 (.ofNat 1)))),
  []⟩, ⟨some 10, none, .mv (.t 19), []⟩]))))))) (.seq (.reg [⟨some 2, none, .mv (.c (.c (.b true))), []⟩]) .ret))), [(2, none)]⟩

theorem ok99 : FnR Tryz.prog 0 99 cf99 := fnC_ok Tryz.func99 (by kernel_rfl)

def cf100 : CF := ⟨14, .seq (.reg [⟨some 2, none, .new 56 (.t 0), []⟩, ⟨some 4, none, .mv (.c (.c (.b false))), []⟩]) (.seq (.reg [⟨some 5, none, .fa 0 (.t 2), []⟩, ⟨some 6, none, .ld 1 false (.t 5), []⟩, ⟨some 7,
  none, .bin .eql (.t 6) (.c (.c (.i .i64 (.ofNat 1)))), []⟩, ⟨some 8, none, .mv (.t 7), []⟩, ⟨some 9, some (8, true), .fa 1 (.t 2), []⟩, ⟨some 10, some (8, true), .ld 1 false (.t 9), []⟩, ⟨some 11,
  some (8, true), .mv (.t 1), []⟩, ⟨some 12, some (8, true), .call 38 [.t 10, .t 11], []⟩, ⟨some 13, none, .pk (.t 8) (.t 12) (.c (.c (.b false))), []⟩, ⟨some 4, none, .mv (.t 13), []⟩]) .ret), [(4,
  none)]⟩

theorem ok100 : FnR Tryz.prog 0 100 cf100 := fnC_ok Tryz.func100 (by kernel_rfl)

def cf101 : CF := ⟨23, .seq (.reg [⟨some 6, none, .mv (.c (.c (.p none))), []⟩]) (.seq (.reg [⟨some 8, none, .mv (.t 0), []⟩, ⟨some 9, none, .mv (.t 1), []⟩, ⟨some 10, none, .mv (.t 2), []⟩, ⟨some 11, none, .call 103
  [.t 8, .t 9, .t 10], []⟩, ⟨some 7, none, .mv (.t 11), []⟩]) (.seq (.reg [⟨some 12, none, .mv (.t 0), []⟩, ⟨some 13, none, .mv (.t 0), []⟩, ⟨some 14, none, .nc (.t 13), []⟩, ⟨some 15, none, .fa 3 (.t
  14), []⟩, ⟨some 16, none, .ld 1 false (.t 15), []⟩, ⟨some 17, none, .mv (.t 7), []⟩, ⟨some 18, none, .bsl 58 1 1 [.p none] [(0, (1, .t 17))], []⟩, ⟨some 19, none, .app 58 1 false (.t 16) (.t 18),
  []⟩, ⟨some 20, none, .nc (.t 12), []⟩, ⟨some 21, none, .fa 3 (.t 20), []⟩, ⟨none, none, .st 1 (.t 21) (.t 19), []⟩]) (.seq (.reg [⟨some 22, none, .mv (.t 7), []⟩, ⟨some 6, none, .mv (.t 22), []⟩])
  .ret))), [(6, none)]⟩

theorem ok101 : FnR Tryz.prog 0 101 cf101 := fnC_ok Tryz.func101 (by kernel_rfl)

def cf103 : CF := ⟨16, .seq (.reg [⟨some 6, none, .mv (.c (.c (.p none))), []⟩]) (.seq (.reg [⟨some 8, none, .mv (.t 0), []⟩, ⟨some 9, none, .mv (.t 1), []⟩, ⟨some 10, none, .mv (.t 2), []⟩, ⟨some 11, none, .call 97
  [.t 8, .c (.c (.i .i64 (.ofNat 2))), .t 9, .c (.c (.s [])), .t 10], []⟩, ⟨some 7, none, .mv (.t 11), []⟩]) (.seq (.reg [⟨some 12, none, .mv (.t 0), []⟩, ⟨some 13, none, .mv (.t 7), []⟩, ⟨some 14,
  none, .call 130 [.t 12, .t 13], []⟩]) (.seq (.reg [⟨some 15, none, .mv (.t 7), []⟩, ⟨some 6, none, .mv (.t 15), []⟩]) .ret))), [(6, none)]⟩

theorem ok103 : FnR Tryz.prog 0 103 cf103 := fnC_ok Tryz.func103 (by kernel_rfl)

def cf104 : CF := ⟨10, .reg [⟨some 4, none, .mv (.t 0), []⟩, ⟨some 5, none, .mv (.t 0), []⟩, ⟨some 6, none, .call 132 [.t 5], []⟩, ⟨some 7, none, .mv (.t 1), []⟩, ⟨some 8, none, .call 131 [.t 6, .t 7], []⟩, ⟨some 9,
  none, .call 67 [.t 4, .t 8], []⟩], []⟩

theorem ok104 : FnR Tryz.prog 0 104 cf104 := fnC_ok Tryz.func104 (by kernel_rfl)

def cf105 : CF := ⟨9, .seq (.reg [⟨some 4, none, .mv (.c (.c (.b false))), []⟩]) (.seq (.reg [⟨some 5, none, .mv (.t 1), []⟩, ⟨some 6, none, .call 134 [.t 5], []⟩, ⟨some 7, none, .mv (.t 0), []⟩, ⟨some 8, none, .call
  133 [.t 6, .t 7], []⟩, ⟨some 4, none, .mv (.t 8), []⟩]) .ret), [(4, none)]⟩

theorem ok105 : FnR Tryz.prog 0 105 cf105 := fnC_ok Tryz.func105 (by kernel_rfl)

def cf106 : CF := ⟨11, .seq (.reg [⟨some 3, none, .new 3 (.t 1), []⟩, ⟨some 4, none, .mv (.c (.c (.i .i64 (.ofNat 0)))), []⟩]) (.seq (.reg [⟨some 5, none, .mv (.t 0), []⟩, ⟨some 6, none, .nc (.t 5), []⟩, ⟨some 7,
  none, .fa 3 (.t 6), []⟩, ⟨some 8, none, .ld 1 false (.t 7), []⟩, ⟨some 9, none, .mkf 136 [.t 3], []⟩, ⟨some 10, none, .call 135 [.t 8, .t 9], []⟩, ⟨some 4, none, .mv (.t 10), []⟩]) .ret), [(4, none)]⟩

theorem ok106 : FnR Tryz.prog 0 106 cf106 := fnC_ok Tryz.func106 (by kernel_rfl)

def cf107 : CF := ⟨4, .reg [⟨some 1, none, .ld 1 false (.t 0), []⟩, ⟨some 2, none, .bsl 9 1 2 [.s [], .s []] [(0, (1, .c (.c (.s [116, 97, 98, 108, 101])))), (1, (1, .c (.c (.s [104, 116, 109, 108]))))], []⟩, ⟨some 3,
  none, .call 108 [.t 1, .t 2], []⟩], []⟩

theorem ok107 : FnR Tryz.prog 0 107 cf107 := fnC_ok Tryz.func107 (by kernel_rfl)

def cf108 : CF := ⟨12, .reg [⟨some 4, none, .mv (.t 0), []⟩, ⟨some 5, none, .mv (.t 0), []⟩, ⟨some 6, none, .call 132 [.t 5], []⟩, ⟨some 7, none, .mv (.t 1), []⟩, ⟨some 8, none, .call 131 [.t 6, .t 7], []⟩, ⟨some 9,
  none, .bin .sub (.t 8) (.c (.c (.i .i64 (.ofNat 1)))), []⟩, ⟨some 10, none, .mx (.c (.c (.i .i64 (.ofNat 0)))) (.t 9), []⟩, ⟨some 11, none, .call 67 [.t 4, .t 10], []⟩], []⟩

theorem ok108 : FnR Tryz.prog 0 108 cf108 := fnC_ok Tryz.func108 (by kernel_rfl)

def cf109 : CF := ⟨12, .reg [⟨some 2, none, .mv (.t 0), []⟩, ⟨some 3, none, .mv (.t 0), []⟩, ⟨some 4, none, .nc (.t 3), []⟩, ⟨some 5, none, .fa 0 (.t 4), []⟩, ⟨some 6, none, .ld 1 false (.t 5), []⟩, ⟨some 7, none,
  .bld [.i .i64 (.ofNat 0), .s [], .sl none 0 0 0, .b false] [(3, (1, .c (.c (.b true))))], []⟩, ⟨some 8, none, .bsl 130 4 1 [.i .i64 (.ofNat 0), .s [], .sl none 0 0 0, .b false] [(0, (4, .t 7))], []⟩,
  ⟨some 9, none, .app 130 4 false (.t 6) (.t 8), []⟩, ⟨some 10, none, .nc (.t 2), []⟩, ⟨some 11, none, .fa 0 (.t 10), []⟩, ⟨none, none, .st 1 (.t 11) (.t 9), []⟩], []⟩

theorem ok109 : FnR Tryz.prog 0 109 cf109 := fnC_ok Tryz.func109 (by kernel_rfl)

def cf110 : CF := ⟨2, .seq (.reg [⟨some 0, none, .mv (.c (.c (.sl none 0 0 0))), []⟩]) (.seq (.reg [⟨some 1, none, .bsl 9 1 3 [.s [], .s [], .s []] [(0, (1, .c (.c (.s [116, 98, 111, 100, 121])))), (1, (1, .c (.c (.s
  [116, 102, 111, 111, 116])))), (2, (1, .c (.c (.s [116, 104, 101, 97, 100]))))], []⟩, ⟨some 0, none, .mv (.t 1), []⟩]) .ret), [(0, none)]⟩

theorem ok110 : FnR Tryz.prog 0 110 cf110 := fnC_ok Tryz.func110 (by kernel_rfl)

def cf111 : CF := ⟨12, .seq (.reg [⟨some 6, none, .mv (.c (.c (.b false))), []⟩]) (.seq (.reg [⟨some 7, none, .mv (.t 0), []⟩, ⟨some 8, none, .call 132 [.t 7], []⟩, ⟨some 9, none, .mv (.t 1), []⟩, ⟨some 10, none, .mv
  (.t 2), []⟩, ⟨some 11, none, .call 137 [.t 8, .t 9, .t 10], []⟩, ⟨some 6, none, .mv (.t 11), []⟩]) .ret), [(6, none)]⟩

theorem ok111 : FnR Tryz.prog 0 111 cf111 := fnC_ok Tryz.func111 (by kernel_rfl)

def cf113 : CF := ⟨6, .seq (.reg [⟨some 1, none, .new 56 (.t 0), []⟩, ⟨some 2, none, .mv (.c (.c (.b false))), []⟩]) (.seq (.reg [⟨some 3, none, .ld 5 true (.t 1), []⟩, ⟨some 4, none, .bsl 9 1 9 [.s [], .s [], .s [],
  .s [], .s [], .s [], .s [], .s [], .s []] [(0, (1, .c (.c (.s [99, 97, 112, 116, 105, 111, 110])))), (1, (1, .c (.c (.s [99, 111, 108])))), (2, (1, .c (.c (.s [99, 111, 108, 103, 114, 111, 117,
  112])))), (3, (1, .c (.c (.s [116, 98, 111, 100, 121])))), (4, (1, .c (.c (.s [116, 100])))), (5, (1, .c (.c (.s [116, 102, 111, 111, 116])))), (6, (1, .c (.c (.s [116, 104])))), (7, (1, .c (.c (.s
  [116, 104, 101, 97, 100])))), (8, (1, .c (.c (.s [116, 114]))))], []⟩, ⟨some 5, none, .call 100 [.t 3, .t 4], []⟩, ⟨some 2, none, .mv (.t 5), []⟩]) .ret), [(2, none)]⟩

theorem ok113 : FnR Tryz.prog 0 113 cf113 := fnC_ok Tryz.func113 (by kernel_rfl)

def cf114 : CF := ⟨10, .reg [⟨some 4, none, .mv (.t 0), []⟩, ⟨some 5, none, .mv (.t 0), []⟩, ⟨some 6, none, .call 132 [.t 5], []⟩, ⟨some 7, none, .mv (.t 1), []⟩, ⟨some 8, none, .call 139 [.t 6, .t 7], []⟩, ⟨some 9,
  none, .call 67 [.t 4, .t 8], []⟩], []⟩

theorem ok114 : FnR Tryz.prog 0 114 cf114 := fnC_ok Tryz.func114 (by kernel_rfl)

def cf115 : CF := ⟨14, .dreg [⟨some 2, none, .mv (.t 0), []⟩, ⟨some 3, none, .mv (.t 0), []⟩, ⟨some 4, none, .nc (.t 3), []⟩, ⟨some 5, none, .fa 0 (.t 4), []⟩, ⟨some 6, none, .ld 1 false (.t 5), []⟩, ⟨some 7, none,
  .mv (.t 0), []⟩, ⟨some 8, none, .call 140 [.t 7], [⟨some 6, none, .ld 1 false (.t 5)⟩]⟩, ⟨some 9, none, .bin .sub (.t 8) (.c (.c (.i .i64 (.ofNat 1)))), []⟩, ⟨some 10, none, .mx (.c (.c (.i .i64
  (.ofNat 0)))) (.t 9), []⟩, ⟨some 11, none, .slc 4 (.t 6) none (some (.t 10)) none, []⟩, ⟨some 12, none, .nc (.t 2), []⟩, ⟨some 13, none, .fa 0 (.t 12), []⟩, ⟨none, none, .st 1 (.t 13) (.t 11), []⟩],
  []⟩

theorem ok115 : FnR Tryz.prog 0 115 cf115 := fnC_ok Tryz.func115 (by kernel_rfl)

def cf116 : CF := ⟨6, .dreg [⟨some 1, none, .ld 1 false (.t 0), []⟩, ⟨some 3, none, .bsl 9 1 1 [.s []] [(0, (1, .c (.c (.s [104, 116, 109, 108]))))], []⟩, ⟨some 2, none, .call 110 [], [⟨some 1, none, .ld 1 false (.t
  0)⟩]⟩, ⟨some 4, none, .app 9 1 false (.t 2) (.t 3), [⟨some 1, none, .ld 1 false (.t 0)⟩]⟩, ⟨some 5, none, .call 108 [.t 1, .t 4], []⟩], []⟩

theorem ok116 : FnR Tryz.prog 0 116 cf116 := fnC_ok Tryz.func116 (by kernel_rfl)

def cf117 : CF := ⟨9, .seq (.reg [⟨some 1, none, .ld 1 false (.t 0), []⟩, ⟨some 2, none, .bsl 9 1 2 [.s [], .s []] [(0, (1, .c (.c (.s [116, 114])))), (1, (1, .c (.c (.s [104, 116, 109, 108]))))], []⟩, ⟨some 3, none,
  .call 108 [.t 1, .t 2], []⟩]) (.seq (.reg [⟨some 4, none, .ld 1 false (.t 0), []⟩, ⟨some 5, none, .call 67 [.t 4, .c (.c (.i .i64 (.ofNat 1)))], []⟩]) (.reg [⟨some 6, none, .ld 1 false (.t 0), []⟩,
  ⟨some 7, none, .nc (.t 6), []⟩, ⟨some 8, none, .fa 5 (.t 7), []⟩, ⟨none, none, .st 1 (.t 8) (.c (.c (.i .i64 (.ofNat 10)))), []⟩])), []⟩

theorem ok117 : FnR Tryz.prog 0 117 cf117 := fnC_ok Tryz.func117 (by kernel_rfl)

def cf118 : CF := ⟨15, .seq (.reg [⟨some 1, none, .mv (.c (.c (.b false))), []⟩]) (.seq (.reg [⟨some 2, none, .ld 1 false (.t 0), []⟩, ⟨some 3, none, .call 114 [.t 2, .c (.c (.s []))], []⟩]) (.seq (.reg [⟨some 4,
  none, .ld 1 false (.t 0), []⟩, ⟨some 5, none, .bsl 9 1 2 [.s [], .s []] [(0, (1, .c (.c (.s [116, 100])))), (1, (1, .c (.c (.s [116, 104]))))], []⟩, ⟨some 6, none, .call 104 [.t 4, .t 5], []⟩]) (.seq
  (.reg [⟨some 7, none, .ld 1 false (.t 0), []⟩, ⟨some 8, none, .nc (.t 7), []⟩, ⟨some 9, none, .fa 4 (.t 8), []⟩, ⟨some 10, none, .ld 1 false (.t 9), []⟩, ⟨some 11, none, .call 115 [.t 10], []⟩])
  (.seq (.reg [⟨some 12, none, .ld 1 false (.t 0), []⟩, ⟨some 13, none, .nc (.t 12), []⟩, ⟨some 14, none, .fa 5 (.t 13), []⟩, ⟨none, none, .st 1 (.t 14) (.c (.c (.i .i64 (.ofNat 11)))), []⟩]) (.seq
  (.reg [⟨some 1, none, .mv (.c (.c (.b true))), []⟩]) .ret))))), [(1, none)]⟩

theorem ok118 : FnR Tryz.prog 0 118 cf118 := fnC_ok Tryz.func118 (by kernel_rfl)

def cf119 : CF := ⟨53, .seq (.reg [⟨some 5, none, .mv (.t 0), []⟩, ⟨some 6, none, .nc (.t 5), []⟩, ⟨some 7, none, .fa 4 (.t 6), []⟩, ⟨some 8, none, .ld 1 false (.t 7), []⟩, ⟨some 9, none, .call 141 [.t 8], []⟩, ⟨some
  2, none, .mv (.t 9), []⟩]) (.seq (.blk 0 (.loop [3, 27, 18, 2, 0] (.seq (.seq (.reg [⟨some 10, none, .mv (.t 2), []⟩, ⟨some 11, none, .bin .gtr (.t 10) (.c (.c (.i .i64 (.ofNat 0)))), []⟩, ⟨some 12,
  none, .mv (.t 11), []⟩, ⟨some 13, some (12, true), .mv (.t 0), []⟩, ⟨some 14, some (12, true), .mv (.t 2), []⟩, ⟨some 15, some (12, true), .bin .sub (.t 14) (.c (.c (.i .i64 (.ofNat 1)))), []⟩, ⟨some
  16, some (12, true), .call 142 [.t 13, .t 15], []⟩, ⟨some 17, some (12, true), .un .not (.t 16), []⟩, ⟨some 18, none, .pk (.t 12) (.t 17) (.c (.c (.b false))), []⟩]) (.cond (.t 18) .skip (.exit 0)))
  (.blk 1 (.reg [⟨some 19, none, .mv (.t 2), []⟩, ⟨some 20, none, .bin .sub (.t 19) (.c (.c (.i .i64 (.ofNat 1)))), []⟩, ⟨some 2, none, .mv (.t 20), []⟩]))))) (.blk 2 (.loop [3, 27, 18, 2, 0] (.seq
  (.seq (.reg [⟨some 21, none, .mv (.t 2), []⟩, ⟨some 22, none, .mv (.t 0), []⟩, ⟨some 23, none, .nc (.t 22), []⟩, ⟨some 24, none, .fa 4 (.t 23), []⟩, ⟨some 25, none, .ld 1 false (.t 24), []⟩, ⟨some
  26, none, .call 141 [.t 25], []⟩, ⟨some 27, none, .bin .lss (.t 21) (.t 26), []⟩]) (.cond (.t 27) .skip (.exit 2))) (.seq (.blk 3 (.seq (.reg [⟨some 31, none, .mv (.t 0), []⟩, ⟨some 32, none, .nc (.t
  31), []⟩, ⟨some 33, none, .fa 4 (.t 32), []⟩, ⟨some 34, none, .ld 1 false (.t 33), []⟩, ⟨some 35, none, .mv (.t 2), []⟩, ⟨some 36, none, .call 143 [.t 34, .t 35], []⟩, ⟨some 30, none, .mv (.t 36),
  []⟩, ⟨some 37, none, .ext 0 (.t 30), []⟩, ⟨some 38, none, .ext 1 (.t 30), []⟩, ⟨some 3, none, .new 128 (.c (.a [.i .i64 (.ofNat 0), .s [], .sl none 0 0 0])), []⟩, ⟨none, none, .st 3 (.t 3) (.t 37),
  []⟩, ⟨some 4, none, .mv (.t 38), []⟩]) (.dreg [⟨some 39, none, .mv (.t 0), []⟩, ⟨some 40, none, .nc (.t 39), []⟩, ⟨some 41, none, .fa 4 (.t 40), []⟩, ⟨some 42, none, .ld 1 false (.t 41), []⟩, ⟨some
  43, none, .fa 0 (.t 3), []⟩, ⟨some 44, none, .ld 1 false (.t 43), []⟩, ⟨some 45, none, .mv (.t 0), []⟩, ⟨some 46, none, .fa 1 (.t 3), []⟩, ⟨some 47, none, .ld 1 false (.t 46), []⟩, ⟨some 48, none,
  .fa 2 (.t 3), []⟩, ⟨some 49, none, .ld 1 false (.t 48), []⟩, ⟨some 50, none, .call 101 [.t 45, .t 47, .t 49], [⟨some 42, none, .ld 1 false (.t 41)⟩, ⟨some 44, none, .ld 1 false (.t 43)⟩]⟩, ⟨some 51,
  none, .call 145 [.t 50], [⟨some 42, none, .ld 1 false (.t 41)⟩, ⟨some 44, none, .ld 1 false (.t 43)⟩]⟩, ⟨some 52, none, .call 144 [.t 42, .t 44, .t 51], []⟩]))) (.reg [⟨some 28, none, .mv (.t 2),
  []⟩, ⟨some 29, none, .bin .add (.t 28) (.c (.c (.i .i64 (.ofNat 1)))), []⟩, ⟨some 2, none, .mv (.t 29), []⟩])))))), []⟩

theorem ok119 : FnR Tryz.prog 0 119 cf119 := fnC_ok Tryz.func119 (by kernel_rfl)

def cf120 : CF := ⟨186, .seq (.reg [⟨some 3, none, .new 56 (.t 1), []⟩, ⟨some 4, none, .mv (.c (.c (.b false))), []⟩]) (.seq (.reg [⟨some 6, none, .fa 1 (.t 3), []⟩, ⟨some 7, none, .ld 1 false (.t 6), []⟩, ⟨some 5,
  none, .mv (.t 7), []⟩]) (.seq (.blk 0 (.seq (.reg [⟨some 12, none, .mv (.t 5), []⟩, ⟨some 13, none, .bin .eql (.t 12) (.c (.c (.s [104, 116, 109, 108]))), []⟩, ⟨some 11, none, .mv (.t 13), []⟩])
  (.cond (.t 11) (.seq (.seq (.reg [⟨some 14, none, .mv (.t 0), []⟩, ⟨some 15, none, .nc (.t 14), []⟩, ⟨some 16, none, .fa 3 (.t 15), []⟩, ⟨some 17, none, .ld 1 false (.t 16), []⟩, ⟨some 18, none, .len
  true (.t 17), []⟩, ⟨some 19, none, .bin .gtr (.t 18) (.c (.c (.i .i64 (.ofNat 0)))), []⟩]) (.cond (.t 19) (.dreg [⟨some 20, none, .mv (.t 0), []⟩, ⟨some 21, none, .nc (.t 20), []⟩, ⟨some 22, none,
  .fa 3 (.t 21), []⟩, ⟨some 23, none, .ld 1 false (.t 22), []⟩, ⟨some 24, none, .ia 1 (.t 23) (.c (.c (.i .i64 (.ofNat 0)))), []⟩, ⟨some 25, none, .ld 1 false (.t 24), []⟩, ⟨some 26, none, .fa 3 (.t
  3), []⟩, ⟨some 27, none, .ld 1 false (.t 26), []⟩, ⟨some 28, none, .call 146 [.t 25, .t 27], []⟩]) .skip)) (.seq (.reg [⟨some 4, none, .mv (.c (.c (.b false))), []⟩]) .ret)) (.seq (.reg [⟨some 30,
  none, .mv (.t 5), []⟩, ⟨some 31, none, .bin .eql (.t 30) (.c (.c (.s [98, 111, 100, 121]))), []⟩, ⟨some 29, none, .mv (.t 31), []⟩]) (.cond (.t 29) (.seq (.seq (.reg [⟨some 32, none, .mv (.t 0), []⟩,
  ⟨some 33, none, .nc (.t 32), []⟩, ⟨some 34, none, .fa 3 (.t 33), []⟩, ⟨some 35, none, .ld 1 false (.t 34), []⟩, ⟨some 36, none, .len true (.t 35), []⟩, ⟨some 37, none, .bin .gtr (.t 36) (.c (.c (.i
  .i64 (.ofNat 1)))), []⟩, ⟨some 38, none, .mv (.t 37), []⟩, ⟨some 39, some (38, true), .mv (.t 0), []⟩, ⟨some 40, some (38, true), .nc (.t 39), []⟩, ⟨some 41, some (38, true), .fa 3 (.t 40), []⟩,
  ⟨some 42, some (38, true), .ld 1 false (.t 41), []⟩, ⟨some 43, some (38, true), .ia 1 (.t 42) (.c (.c (.i .i64 (.ofNat 1)))), []⟩, ⟨some 44, some (38, true), .ld 1 false (.t 43), []⟩, ⟨some 45, some
  (38, true), .nc (.t 44), []⟩, ⟨some 46, some (38, true), .fa 2 (.t 45), []⟩, ⟨some 47, some (38, true), .ld 1 false (.t 46), []⟩, ⟨some 48, some (38, true), .bin .eql (.t 47) (.c (.c (.s [98, 111,
  100, 121]))), []⟩, ⟨some 49, none, .pk (.t 38) (.t 48) (.c (.c (.b false))), []⟩]) (.cond (.t 49) (.dreg [⟨some 50, none, .mv (.t 0), []⟩, ⟨some 51, none, .nc (.t 50), []⟩, ⟨some 52, none, .fa 3 (.t
  51), []⟩, ⟨some 53, none, .ld 1 false (.t 52), []⟩, ⟨some 54, none, .ia 1 (.t 53) (.c (.c (.i .i64 (.ofNat 1)))), []⟩, ⟨some 55, none, .ld 1 false (.t 54), []⟩, ⟨some 56, none, .fa 3 (.t 3), []⟩,
  ⟨some 57, none, .ld 1 false (.t 56), []⟩, ⟨some 58, none, .call 146 [.t 55, .t 57], []⟩]) .skip)) (.seq (.reg [⟨some 4, none, .mv (.c (.c (.b false))), []⟩]) .ret)) (.seq (.reg [⟨some 60, none, .mv
  (.t 5), []⟩, ⟨some 61, none, .call 105 [.t 60, .c (.c (.i .i64 (.ofNat 8)))], []⟩, ⟨some 59, none, .mv (.t 61), []⟩]) (.cond (.t 59) (.seq (.reg [⟨some 62, none, .mv (.t 0), []⟩, ⟨some 63, none, .ld
  5 true (.t 3), []⟩, ⟨some 64, none, .call 71 [.t 62, .t 63], []⟩, ⟨some 4, none, .mv (.t 64), []⟩]) .ret) (.seq (.reg [⟨some 66, none, .mv (.t 5), []⟩, ⟨some 67, none, .bsl 9 1 12 [.s [], .s [], .s
  [], .s [], .s [], .s [], .s [], .s [], .s [], .s [], .s [], .s []] [(0, (1, .c (.c (.s [102, 114, 97, 109, 101, 115, 101, 116])))), (1, (1, .c (.c (.s [99, 97, 112, 116, 105, 111, 110])))), (2, (1,
  .c (.c (.s [99, 111, 108])))), (3, (1, .c (.c (.s [99, 111, 108, 103, 114, 111, 117, 112])))), (4, (1, .c (.c (.s [102, 114, 97, 109, 101])))), (5, (1, .c (.c (.s [104, 101, 97, 100])))), (6, (1, .c
  (.c (.s [116, 98, 111, 100, 121])))), (7, (1, .c (.c (.s [116, 100])))), (8, (1, .c (.c (.s [116, 102, 111, 111, 116])))), (9, (1, .c (.c (.s [116, 104])))), (10, (1, .c (.c (.s [116, 104, 101, 97,
  100])))), (11, (1, .c (.c (.s [116, 114]))))], []⟩, ⟨some 68, none, .call 38 [.t 66, .t 67], []⟩, ⟨some 65, none, .mv (.t 68), []⟩]) (.cond (.t 65) (.seq (.reg [⟨some 4, none, .mv (.c (.c (.b
  false))), []⟩]) .ret) (.seq (.seq (.reg [⟨some 70, none, .mv (.t 5), []⟩, ⟨some 71, none, .call 105 [.t 70, .c (.c (.i .i64 (.ofNat 6)))], []⟩, ⟨some 69, none, .mv (.t 71), []⟩]) (.cond (.t 69) .skip
  (.reg [⟨some 72, none, .mv (.t 5), []⟩, ⟨some 73, none, .bsl 9 1 3 [.s [], .s [], .s []] [(0, (1, .c (.c (.s [112])))), (1, (1, .c (.c (.s [108, 105, 115, 116, 105, 110, 103])))), (2, (1, .c (.c (.s
  [112, 108, 97, 105, 110, 116, 101, 120, 116]))))], []⟩, ⟨some 74, none, .call 38 [.t 72, .t 73], []⟩, ⟨some 69, none, .mv (.t 74), []⟩]))) (.cond (.t 69) (.reg [⟨some 75, none, .mv (.t 0), []⟩, ⟨some
  76, none, .call 147 [.t 75], []⟩]) (.seq (.reg [⟨some 78, none, .mv (.t 5), []⟩, ⟨some 79, none, .call 105 [.t 78, .c (.c (.i .i64 (.ofNat 5)))], []⟩, ⟨some 77, none, .mv (.t 79), []⟩]) (.cond (.t
  77) (.seq (.reg [⟨some 80, none, .mv (.t 0), []⟩, ⟨some 81, none, .call 147 [.t 80], []⟩]) (.seq (.reg [⟨some 82, none, .mv (.t 0), []⟩, ⟨some 83, none, .call 63 [.t 82], []⟩, ⟨some 84, none, .nc (.t
  83), []⟩, ⟨some 85, none, .fa 2 (.t 84), []⟩, ⟨some 86, none, .ld 1 false (.t 85), []⟩, ⟨some 87, none, .call 105 [.t 86, .c (.c (.i .i64 (.ofNat 5)))], []⟩]) (.cond (.t 87) (.reg [⟨some 88, none,
  .mv (.t 0), []⟩, ⟨some 89, none, .call 67 [.t 88, .c (.c (.i .i64 (.ofNat 1)))], []⟩]) .skip))) (.seq (.reg [⟨some 91, none, .mv (.t 5), []⟩, ⟨some 92, none, .bin .eql (.t 91) (.c (.c (.s [108,
  105]))), []⟩, ⟨some 90, none, .mv (.t 92), []⟩]) (.cond (.t 90) (.reg [⟨some 93, none, .mv (.t 0), []⟩, ⟨some 94, none, .bsl 9 1 1 [.s []] [(0, (1, .c (.c (.s [108, 105]))))], []⟩, ⟨some 95, none,
  .call 148 [.t 93, .t 94], []⟩]) (.seq (.reg [⟨some 97, none, .mv (.t 5), []⟩, ⟨some 98, none, .bin .eql (.t 97) (.c (.c (.s [100, 100]))), []⟩, ⟨some 99, none, .mv (.t 98), []⟩, ⟨some 100, some (99,
  false), .mv (.t 5), []⟩, ⟨some 101, some (99, false), .bin .eql (.t 100) (.c (.c (.s [100, 116]))), []⟩, ⟨some 102, none, .pk (.t 99) (.c (.c (.b true))) (.t 101), []⟩, ⟨some 96, none, .mv (.t 102),
  []⟩]) (.cond (.t 96) (.reg [⟨some 103, none, .mv (.t 0), []⟩, ⟨some 104, none, .bsl 9 1 2 [.s [], .s []] [(0, (1, .c (.c (.s [100, 100])))), (1, (1, .c (.c (.s [100, 116]))))], []⟩, ⟨some 105, none,
  .call 148 [.t 103, .t 104], []⟩]) (.seq (.reg [⟨some 107, none, .mv (.t 5), []⟩, ⟨some 108, none, .bin .eql (.t 107) (.c (.c (.s [97]))), []⟩, ⟨some 109, none, .mv (.t 108), []⟩, ⟨some 110, some
  (109, false), .mv (.t 5), []⟩, ⟨some 111, some (109, false), .bin .eql (.t 110) (.c (.c (.s [110, 111, 98, 114]))), []⟩, ⟨some 112, none, .pk (.t 109) (.c (.c (.b true))) (.t 111), []⟩, ⟨some 113,
  none, .mv (.t 112), []⟩, ⟨some 114, some (113, false), .mv (.t 5), []⟩, ⟨some 115, some (113, false), .call 105 [.t 114, .c (.c (.i .i64 (.ofNat 3)))], []⟩, ⟨some 116, none, .pk (.t 113) (.c (.c (.b
  true))) (.t 115), []⟩, ⟨some 106, none, .mv (.t 116), []⟩]) (.cond (.t 106) (.seq (.reg [⟨some 117, none, .mv (.t 0), []⟩, ⟨some 118, none, .ld 5 true (.t 3), []⟩, ⟨some 119, none, .call 149 [.t 117,
  .t 118], []⟩]) (.seq (.reg [⟨some 4, none, .mv (.c (.c (.b false))), []⟩]) .ret)) (.seq (.reg [⟨some 121, none, .mv (.t 5), []⟩, ⟨some 122, none, .bin .eql (.t 121) (.c (.c (.s [116, 97, 98, 108,
  101]))), []⟩, ⟨some 120, none, .mv (.t 122), []⟩]) (.cond (.t 120) (.seq (.reg [⟨some 123, none, .mv (.t 0), []⟩, ⟨some 124, none, .call 147 [.t 123], []⟩]) (.seq (.reg [⟨some 125, none, .mv (.t 0),
  []⟩, ⟨some 126, none, .mv (.t 5), []⟩, ⟨some 127, none, .fa 3 (.t 3), []⟩, ⟨some 128, none, .ld 1 false (.t 127), []⟩, ⟨some 129, none, .call 101 [.t 125, .t 126, .t 128], []⟩]) (.seq (.reg [⟨some
  130, none, .mv (.t 0), []⟩, ⟨some 131, none, .nc (.t 130), []⟩, ⟨some 132, none, .fa 5 (.t 131), []⟩, ⟨none, none, .st 1 (.t 132) (.c (.c (.i .i64 (.ofNat 7)))), []⟩]) (.seq (.reg [⟨some 4, none, .mv
  (.c (.c (.b false))), []⟩]) .ret)))) (.seq (.reg [⟨some 134, none, .mv (.t 5), []⟩, ⟨some 135, none, .bin .eql (.t 134) (.c (.c (.s [112, 97, 114, 97, 109]))), []⟩, ⟨some 136, none, .mv (.t 135),
  []⟩, ⟨some 137, some (136, false), .mv (.t 5), []⟩, ⟨some 138, some (136, false), .bin .eql (.t 137) (.c (.c (.s [115, 111, 117, 114, 99, 101]))), []⟩, ⟨some 139, none, .pk (.t 136) (.c (.c (.b
  true))) (.t 138), []⟩, ⟨some 140, none, .mv (.t 139), []⟩, ⟨some 141, some (140, false), .mv (.t 5), []⟩, ⟨some 142, some (140, false), .bin .eql (.t 141) (.c (.c (.s [116, 114, 97, 99, 107]))), []⟩,
  ⟨some 143, none, .pk (.t 140) (.c (.c (.b true))) (.t 142), []⟩, ⟨some 133, none, .mv (.t 143), []⟩]) (.cond (.t 133) (.seq (.reg [⟨some 144, none, .mv (.t 0), []⟩, ⟨some 145, none, .mv (.t 5), []⟩,
  ⟨some 146, none, .fa 3 (.t 3), []⟩, ⟨some 147, none, .ld 1 false (.t 146), []⟩, ⟨some 148, none, .call 103 [.t 144, .t 145, .t 147], []⟩]) (.seq (.reg [⟨some 4, none, .mv (.c (.c (.b false))), []⟩])
  .ret)) (.seq (.reg [⟨some 150, none, .mv (.t 5), []⟩, ⟨some 151, none, .bin .eql (.t 150) (.c (.c (.s [104, 114]))), []⟩, ⟨some 149, none, .mv (.t 151), []⟩]) (.cond (.t 149) (.seq (.reg [⟨some 152,
  none, .mv (.t 0), []⟩, ⟨some 153, none, .call 147 [.t 152], []⟩]) (.seq (.reg [⟨some 154, none, .mv (.t 0), []⟩, ⟨some 155, none, .mv (.t 5), []⟩, ⟨some 156, none, .fa 3 (.t 3), []⟩, ⟨some 157, none,
  .ld 1 false (.t 156), []⟩, ⟨some 158, none, .call 103 [.t 154, .t 155, .t 157], []⟩]) (.seq (.reg [⟨some 4, none, .mv (.c (.c (.b false))), []⟩]) .ret))) (.seq (.reg [⟨some 160, none, .mv (.t 5),
  []⟩, ⟨some 161, none, .bin .eql (.t 160) (.c (.c (.s [116, 101, 120, 116, 97, 114, 101, 97]))), []⟩, ⟨some 162, none, .mv (.t 161), []⟩, ⟨some 163, some (162, false), .mv (.t 5), []⟩, ⟨some 164, some
  (162, false), .bin .eql (.t 163) (.c (.c (.s [105, 102, 114, 97, 109, 101]))), []⟩, ⟨some 165, none, .pk (.t 162) (.c (.c (.b true))) (.t 164), []⟩, ⟨some 166, none, .mv (.t 165), []⟩, ⟨some 167,
  some (166, false), .mv (.t 5), []⟩, ⟨some 168, some (166, false), .bin .eql (.t 167) (.c (.c (.s [110, 111, 101, 109, 98, 101, 100]))), []⟩, ⟨some 169, none, .pk (.t 166) (.c (.c (.b true))) (.t
  168), []⟩, ⟨some 159, none, .mv (.t 169), []⟩]) (.cond (.t 159) .skip (.seq (.reg [⟨some 171, none, .mv (.t 5), []⟩, ⟨some 172, none, .bin .eql (.t 171) (.c (.c (.s [114, 112]))), []⟩, ⟨some 173,
  none, .mv (.t 172), []⟩, ⟨some 174, some (173, false), .mv (.t 5), []⟩, ⟨some 175, some (173, false), .bin .eql (.t 174) (.c (.c (.s [114, 116]))), []⟩, ⟨some 176, none, .pk (.t 173) (.c (.c (.b
  true))) (.t 175), []⟩, ⟨some 170, none, .mv (.t 176), []⟩]) (.cond (.t 170) (.seq (.reg [⟨some 177, none, .mv (.t 0), []⟩, ⟨some 178, none, .call 111 [.t 177, .c (.c (.s [114, 117, 98, 121])), .c (.c
  (.i .i64 (.ofNat 1)))], []⟩]) (.cond (.t 178) (.reg [⟨some 179, none, .mv (.t 0), []⟩, ⟨some 180, none, .call 114 [.t 179, .c (.c (.s []))], []⟩]) .skip)) (.seq (.reg [⟨some 8, none, .mv (.t 0), []⟩,
  ⟨some 9, none, .ld 5 true (.t 3), []⟩, ⟨some 10, none, .call 150 [.t 8, .t 9], []⟩, ⟨some 4, none, .mv (.t 10), []⟩]) .ret)))))))))))))))))))))))))))))) (.seq (.reg [⟨some 181, none, .mv (.t 0), []⟩,
  ⟨some 182, none, .mv (.t 5), []⟩, ⟨some 183, none, .fa 3 (.t 3), []⟩, ⟨some 184, none, .ld 1 false (.t 183), []⟩, ⟨some 185, none, .call 101 [.t 181, .t 182, .t 184], []⟩]) (.seq (.reg [⟨some 4,
  none, .mv (.c (.c (.b false))), []⟩]) .ret)))), [(4, none)]⟩

theorem ok120 : FnR Tryz.prog 0 120 cf120 := fnC_ok Tryz.func120 (by kernel_rfl)

def cf121 : CF := ⟨130, .seq (.reg [⟨some 3, none, .new 56 (.t 1), []⟩, ⟨some 4, none, .mv (.c (.c (.b false))), []⟩]) (.seq (.reg [⟨some 8, none, .fa 1 (.t 3), []⟩, ⟨some 9, none, .ld 1 false (.t 8), []⟩, ⟨some 5,
  none, .mv (.t 9), []⟩]) (.seq (.blk 0 (.seq (.reg [⟨some 14, none, .mv (.t 5), []⟩, ⟨some 15, none, .bin .eql (.t 14) (.c (.c (.s [98, 111, 100, 121]))), []⟩, ⟨some 16, none, .mv (.t 15), []⟩, ⟨some
  17, some (16, false), .mv (.t 5), []⟩, ⟨some 18, some (16, false), .bin .eql (.t 17) (.c (.c (.s [104, 116, 109, 108]))), []⟩, ⟨some 19, none, .pk (.t 16) (.c (.c (.b true))) (.t 18), []⟩, ⟨some 13,
  none, .mv (.t 19), []⟩]) (.cond (.t 13) (.seq (.reg [⟨some 20, none, .mv (.t 0), []⟩, ⟨some 21, none, .call 111 [.t 20, .c (.c (.s [98, 111, 100, 121])), .c (.c (.i .i64 (.ofNat 1)))], []⟩]) (.cond
  (.t 21) (.seq (.reg [⟨some 22, none, .mv (.t 0), []⟩, ⟨some 23, none, .nc (.t 22), []⟩, ⟨some 24, none, .fa 5 (.t 23), []⟩, ⟨none, none, .st 1 (.t 24) (.c (.c (.i .i64 (.ofNat 6)))), []⟩]) (.seq
  (.reg [⟨some 25, none, .mv (.t 5), []⟩, ⟨some 26, none, .bin .eql (.t 25) (.c (.c (.s [104, 116, 109, 108]))), []⟩, ⟨some 4, none, .mv (.t 26), []⟩]) .ret)) .skip)) (.seq (.seq (.reg [⟨some 28, none,
  .mv (.t 5), []⟩, ⟨some 29, none, .call 105 [.t 28, .c (.c (.i .i64 (.ofNat 6)))], []⟩, ⟨some 27, none, .mv (.t 29), []⟩]) (.cond (.t 27) .skip (.seq (.reg [⟨some 30, none, .mv (.t 5), []⟩, ⟨some 31,
  none, .bin .eql (.t 30) (.c (.c (.s [98, 117, 116, 116, 111, 110]))), []⟩, ⟨some 27, none, .mv (.t 31), []⟩]) (.cond (.t 27) .skip (.reg [⟨some 32, none, .mv (.t 5), []⟩, ⟨some 33, none, .bin .eql
  (.t 32) (.c (.c (.s [108, 105, 115, 116, 105, 110, 103]))), []⟩, ⟨some 27, none, .mv (.t 33), []⟩]))))) (.cond (.t 27) (.seq (.reg [⟨some 34, none, .mv (.t 0), []⟩, ⟨some 35, none, .mv (.t 5), []⟩,
  ⟨some 36, none, .call 111 [.t 34, .t 35, .c (.c (.i .i64 (.ofNat 1)))], []⟩]) (.cond (.t 36) (.seq (.reg [⟨some 37, none, .mv (.t 0), []⟩, ⟨some 38, none, .call 114 [.t 37, .c (.c (.s []))], []⟩])
  (.reg [⟨some 39, none, .mv (.t 0), []⟩, ⟨some 40, none, .mv (.t 5), []⟩, ⟨some 41, none, .bsl 9 1 1 [.s []] [(0, (1, .t 40))], []⟩, ⟨some 42, none, .call 104 [.t 39, .t 41], []⟩])) .skip)) (.seq
  (.reg [⟨some 44, none, .mv (.t 5), []⟩, ⟨some 45, none, .bin .eql (.t 44) (.c (.c (.s [112]))), []⟩, ⟨some 43, none, .mv (.t 45), []⟩]) (.cond (.t 43) (.seq (.seq (.reg [⟨some 46, none, .mv (.t 0),
  []⟩, ⟨some 47, none, .call 111 [.t 46, .c (.c (.s [112])), .c (.c (.i .i64 (.ofNat 3)))], []⟩, ⟨some 48, none, .un .not (.t 47), []⟩]) (.cond (.t 48) (.reg [⟨some 49, none, .mv (.t 0), []⟩, ⟨some 50,
  none, .call 101 [.t 49, .c (.c (.s [112])), .c (.c (.sl none 0 0 0))], []⟩]) .skip)) (.reg [⟨some 51, none, .mv (.t 0), []⟩, ⟨some 52, none, .call 147 [.t 51], []⟩])) (.seq (.reg [⟨some 54, none, .mv
  (.t 5), []⟩, ⟨some 55, none, .bin .eql (.t 54) (.c (.c (.s [108, 105]))), []⟩, ⟨some 53, none, .mv (.t 55), []⟩]) (.cond (.t 53) (.seq (.reg [⟨some 56, none, .mv (.t 0), []⟩, ⟨some 57, none, .mv (.t
  5), []⟩, ⟨some 58, none, .call 111 [.t 56, .t 57, .c (.c (.i .i64 (.ofNat 2)))], []⟩]) (.cond (.t 58) (.seq (.reg [⟨some 59, none, .mv (.t 0), []⟩, ⟨some 60, none, .mv (.t 5), []⟩, ⟨some 61, none,
  .call 114 [.t 59, .t 60], []⟩]) (.reg [⟨some 62, none, .mv (.t 0), []⟩, ⟨some 63, none, .mv (.t 5), []⟩, ⟨some 64, none, .bsl 9 1 1 [.s []] [(0, (1, .t 63))], []⟩, ⟨some 65, none, .call 104 [.t 62,
  .t 64], []⟩])) .skip)) (.seq (.reg [⟨some 67, none, .mv (.t 5), []⟩, ⟨some 68, none, .bin .eql (.t 67) (.c (.c (.s [100, 100]))), []⟩, ⟨some 69, none, .mv (.t 68), []⟩, ⟨some 70, some (69, false),
  .mv (.t 5), []⟩, ⟨some 71, some (69, false), .bin .eql (.t 70) (.c (.c (.s [100, 116]))), []⟩, ⟨some 72, none, .pk (.t 69) (.c (.c (.b true))) (.t 71), []⟩, ⟨some 66, none, .mv (.t 72), []⟩]) (.cond
  (.t 66) (.seq (.reg [⟨some 73, none, .mv (.t 0), []⟩, ⟨some 74, none, .mv (.t 5), []⟩, ⟨some 75, none, .call 111 [.t 73, .t 74, .c (.c (.i .i64 (.ofNat 1)))], []⟩]) (.cond (.t 75) (.seq (.reg [⟨some
  76, none, .mv (.t 0), []⟩, ⟨some 77, none, .mv (.t 5), []⟩, ⟨some 78, none, .call 114 [.t 76, .t 77], []⟩]) (.reg [⟨some 79, none, .mv (.t 0), []⟩, ⟨some 80, none, .mv (.t 5), []⟩, ⟨some 81, none,
  .bsl 9 1 1 [.s []] [(0, (1, .t 80))], []⟩, ⟨some 82, none, .call 104 [.t 79, .t 81], []⟩])) .skip)) (.seq (.reg [⟨some 84, none, .mv (.t 5), []⟩, ⟨some 85, none, .call 105 [.t 84, .c (.c (.i .i64
  (.ofNat 5)))], []⟩, ⟨some 83, none, .mv (.t 85), []⟩]) (.cond (.t 83) (.seq (.reg [⟨some 86, none, .call 151 [], []⟩, ⟨some 87, none, .len true (.t 86), []⟩, ⟨some 88, none, .mv (.c (.c (.i .i64
  (.ofNat 0)))), []⟩]) (.blk 1 (.loop [124, 112, 107, 101, 94, 7, 86, 89, 88, 87, 83, 75, 66, 58, 53, 48, 43, 36, 27, 21, 13, 5, 3, 0, 1, 4] (.seq (.reg [⟨some 89, none, .bin .lss (.t 88) (.t 87),
  []⟩]) (.seq (.cond (.t 89) .skip (.exit 1)) (.seq (.blk 2 (.seq (.reg [⟨some 90, none, .ia 1 (.t 86) (.t 88), []⟩, ⟨some 91, none, .ld 1 false (.t 90), []⟩, ⟨some 7, none, .mv (.t 91), []⟩]) (.seq
  (.reg [⟨some 92, none, .mv (.t 0), []⟩, ⟨some 93, none, .mv (.t 7), []⟩, ⟨some 94, none, .call 111 [.t 92, .t 93, .c (.c (.i .i64 (.ofNat 1)))], []⟩]) (.cond (.t 94) (.seq (.reg [⟨some 95, none, .mv
  (.t 0), []⟩, ⟨some 96, none, .call 114 [.t 95, .c (.c (.s []))], []⟩]) (.seq (.reg [⟨some 97, none, .mv (.t 0), []⟩, ⟨some 98, none, .call 151 [], []⟩, ⟨some 99, none, .call 104 [.t 97, .t 98], []⟩])
  (.exit 1))) .skip)))) (.reg [⟨some 100, none, .bin .add (.t 88) (.c (.c (.i .i64 (.ofNat 1)))), []⟩, ⟨some 88, none, .mv (.t 100), []⟩]))))))) (.seq (.reg [⟨some 102, none, .mv (.t 5), []⟩, ⟨some
  103, none, .call 105 [.t 102, .c (.c (.i .i64 (.ofNat 3)))], []⟩, ⟨some 101, none, .mv (.t 103), []⟩]) (.cond (.t 101) (.reg [⟨some 104, none, .mv (.t 0), []⟩, ⟨some 105, none, .mv (.t 5), []⟩, ⟨some
  106, none, .call 152 [.t 104, .t 105], []⟩]) (.seq (.reg [⟨some 108, none, .mv (.t 5), []⟩, ⟨some 109, none, .call 105 [.t 108, .c (.c (.i .i64 (.ofNat 7)))], []⟩, ⟨some 107, none, .mv (.t 109),
  []⟩]) (.cond (.t 107) (.seq (.reg [⟨some 110, none, .mv (.t 0), []⟩, ⟨some 111, none, .mv (.t 5), []⟩, ⟨some 112, none, .call 111 [.t 110, .t 111, .c (.c (.i .i64 (.ofNat 1)))], []⟩]) (.cond (.t 112)
  (.seq (.reg [⟨some 113, none, .mv (.t 0), []⟩, ⟨some 114, none, .call 114 [.t 113, .c (.c (.s []))], []⟩]) (.seq (.reg [⟨some 115, none, .mv (.t 0), []⟩, ⟨some 116, none, .mv (.t 5), []⟩, ⟨some 117,
  none, .bsl 9 1 1 [.s []] [(0, (1, .t 116))], []⟩, ⟨some 118, none, .call 104 [.t 115, .t 117], []⟩]) (.reg [⟨some 119, none, .mv (.t 0), []⟩, ⟨some 120, none, .nc (.t 119), []⟩, ⟨some 121, none, .fa
  4 (.t 120), []⟩, ⟨some 122, none, .ld 1 false (.t 121), []⟩, ⟨some 123, none, .call 115 [.t 122], []⟩]))) .skip)) (.seq (.reg [⟨some 125, none, .mv (.t 5), []⟩, ⟨some 126, none, .bin .eql (.t 125)
  (.c (.c (.s [98, 114]))), []⟩, ⟨some 124, none, .mv (.t 126), []⟩]) (.cond (.t 124) (.seq (.reg [⟨some 127, none, .mv (.t 0), []⟩, ⟨some 128, none, .bld [.i .i64 (.ofNat 0), .s [], .s [], .sl none 0
  0 0, .b false] [(0, (1, .c (.c (.i .i64 (.ofNat 1))))), (1, (1, .c (.c (.s [98, 114]))))], []⟩, ⟨some 129, none, .call 120 [.t 127, .t 128], []⟩, ⟨some 4, none, .mv (.t 129), []⟩]) .ret) (.reg [⟨some
  10, none, .mv (.t 0), []⟩, ⟨some 11, none, .mv (.t 5), []⟩, ⟨some 12, none, .call 153 [.t 10, .t 11], []⟩])))))))))))))))))))) (.seq (.reg [⟨some 4, none, .mv (.c (.c (.b false))), []⟩]) .ret))),
  [(4, none)]⟩

theorem ok121 : FnR Tryz.prog 0 121 cf121 := fnC_ok Tryz.func121 (by kernel_rfl)

end

end Ev
end


end Go.Proofs.YtmmikhhklifjhaaGreatDoor
