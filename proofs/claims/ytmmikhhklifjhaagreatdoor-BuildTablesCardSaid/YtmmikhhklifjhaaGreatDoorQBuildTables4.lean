/-
  What the proof of the statement leans on: texts one behind the other.
-/
import Derived.Test.YtmmikhhklifjhaaGreatDoorQBuildTables2
import Derived.Test.YtmmikhhklifjhaaGreatDoorQBuildTables1
import Derived.Test.YtmmikhhklifjhaaGreatDoorQBuildTablesGT
import Derived.Test.YtmmikhhklifjhaaGreatDoorQBuildTablesShelf
import Derived.Test.YtmmikhhklifjhaaGreatDoorQBuildTablesGamg
import Derived.Test.YtmmikhhklifjhaaGreatDoorQBuildTablesGlaw00
namespace Go.Proofs.YtmmikhhklifjhaaGreatDoor
section
open Go.RowKit

/-- A text's cell. -/
def sc (x : Str) : List Value := [.string (Bs x)]

theorem Row.str {A : List Nat} {w : World} {s : Sl} {l : List Str} (h : Row A w s 1 (l.map sc)) {i : Nat} (hi : i < l.length) : ∃ p, s.a = some p ∧ w.cell? (p.add (i * 1)) = some (.string (Bs (l.getD i []))) := by
  obtain ⟨p, hp, _, hc, _⟩ := h.at_ i (by simpa using hi)
  have e : (l.map sc).getD i [] = sc (l.getD i []) := by simp [List.getD_eq_getElem?_getD, hi]
  rw [e] at hc
  have h0 := hc 0 _ rfl
  rw [Addr.add_zero'] at h0
  exact ⟨p, hp, h0⟩

theorem Row.strs {A : List Nat} {w : World} {s : Sl} {l : List Str} (h : Row A w s 1 (l.map sc)) : s.n = l.length ∧ s.n ≤ s.c ∧ s.c ≤ 9223372036854775807 := by
  have h1 := h.len
  have h2 := h.cap
  have h3 := h.most
  simp only [maxLen] at h3
  exact ⟨by simpa using h1, h2, by omega⟩

theorem Box.rowStrL {w : World} {B : Nat} {S : TypeId} {l : List Str} (h : Box w B S (l.map fun x => .string (Bs x))) (hl : l.length ≤ maxLen) {A : List Nat} (hA : B ∉ A) : Row A w (Sl.mk (some ⟨B, 0, none⟩) l.length l.length) 1 (l.map sc) := by
  refine ⟨by simp, Nat.le_refl _, hl, fun i hi => ⟨⟨B, 0, none⟩, rfl, hA, fun j v hj => ?_, ?_⟩⟩
  · simp only [List.length_map] at hi
    have e : (l.map sc).getD i [] = [.string (Bs (l[i]))] := by simp [List.getD_eq_getElem?_getD, hi, sc]
    rw [e] at hj
    cases j with
    | succ j => simp at hj
    | zero =>
      simp only [List.getElem?_cons_zero, Option.some.injEq] at hj
      subst hj
      rw [Addr.add_add, Addr.add_lit, Nat.mul_one, Nat.add_zero, Nat.zero_add]
      exact h.cell i _ (by simp [hi])
  · simp only [List.length_map] at hi
    simp [List.getD_eq_getElem?_getD, hi, sc]
end

section
open Go.RowKit

theorem cntF_le : ∀ (l : List UInt8) (ws : Bool), Lib.cntF ws l ≤ l.length
  | [], _ => Nat.le_refl _
  | b :: t, ws => by
    have := cntF_le t (Lib.isSp b)
    simp only [Lib.cntF, List.length_cons]
    split <;> omega

/-- strings.asciiSpace is as it is laid. -/
def Sp (w : World) : Prop := Lib.TabIs Tryz.prog w "strings.asciiSpace" .u8 Lib.asciiSpaceTab

theorem fieldsC {w : World} (hT : Sp w) (s : Str) (ha : s.all (fun b => decide (b.toNat < 128)) = true) (hl : s.length ≤ 1000000) :
    Calls Tryz.prog 160 #[.string (Bs s)] w (Ret fun v w' => Ext w w' ∧ ∃ r : Sl, v = r.v ∧ Row [] w' r 1 ((Lib.fields s).map sc)) := by
  refine (Tryz.strings_Fields (Bs s) w (by rw [Bs_size]; omega) (fun j b hb => ?_) hT).mono fun e w' ⟨he, hw⟩ => ?_
  · rw [Bs_data] at hb
    have := List.all_eq_true.1 ha b (List.mem_of_getElem? hb)
    simpa using this
  · subst he hw
    rw [Bs_data]
    have hn : (Lib.fields s).length ≤ s.length := by rw [Lib.fields_length]; exact cntF_le s _
    have hb : Box (w.alloc (.cells ((Lib.fields s).map fun l => Value.string ⟨l.toArray⟩).toArray 9)) w.heap.size 9 ((Lib.fields s).map fun x => .string (Bs x)) := Box.alloc _ _ _
    generalize Lib.fields s = l at hb hn
    refine ⟨Ext.alloc _ _, ⟨some ⟨w.heap.size, 0, none⟩, l.length, l.length⟩, rfl, hb.rowStrL (by simp only [maxLen]; omega) (by simp)⟩

theorem Sp.ext {w w' : World} (h : Sp w) (c : Ext w w') : Sp w' := by
  have hg : Tryz.prog.globalNamed "strings.asciiSpace" = some 0 := by kernel_rfl
  unfold Sp Lib.TabIs World.var? at h ⊢
  rw [hg] at h ⊢
  simp only [Option.bind_some] at h ⊢
  have hlt : 0 < w.heap.size := by
    rcases Nat.lt_or_ge 0 w.heap.size with h' | h'
    · exact h'
    · rw [Array.getElem?_eq_none h'] at h; cases h
  rw [c.block _ hlt (by simp)]
  exact h
end

section
open Go.RowKit

theorem amgDrop {l : List Str} {nm : Str} {k : Nat} (h : k < l.length) : has (l.drop k) nm = (decide (l.getD k [] = nm) || has (l.drop (k + 1)) nm) := by
  unfold has
  rw [List.drop_eq_getElem_cons h, List.any_cons, List.getD_eq_getElem?_getD, List.getElem?_eq_getElem h]; rfl

theorem amgC {w : World} (hT : Sp w) (s nm : Str) (ha : s.all (fun b => decide (b.toNat < 128)) = true) (hl : s.length ≤ 1000000) :
    Calls Tryz.prog 133 #[.string (Bs s), .string (Bs nm)] w (Ret fun v w' => Ext w w' ∧ v = .bool (has (Lib.fields s) nm)) := by
  refine stack_among.ok _ _ ?_
  unfold stack_among.vc
  refine CallK.ext (fieldsC hT s ha hl) ?_
  rintro v w0 hE0 ⟨r, rfl, hr⟩
  generalize Lib.fields s = l at hr
  have hs := hr.strs
  refine ⟨r, rfl, fun i w1 => ∃ k : Nat, i = (k : Int) ∧ k ≤ l.length ∧ has l nm = has (l.drop k) nm ∧ Ext w0 w1, fun i _ => l.length - i.toNat, ⟨0, rfl, Nat.zero_le _, rfl, Chg.refl _ _⟩, ?_⟩
  rintro _ w1 ⟨k, rfl, hk, heq, hE⟩
  rw [Int.toNat_natCast]
  refine ⟨fun hi => ?_, fun hi => ⟨hE0.trans hE, ?_⟩⟩
  · have hk' : k < l.length := by omega
    obtain ⟨p, hp, hc⟩ := (hr.ext hE).str hk'
    rw [amgDrop hk'] at heq
    refine ⟨⟨by omega, hi⟩, p, hp, _, hc, fun he => ⟨hE0.trans hE, ?_⟩, fun he => ⟨⟨by omega, by omega⟩, ⟨k + 1, by omega, by omega, ?_, hE⟩, by dsimp only; omega⟩⟩
    · rw [heq, decide_eq_true he]; rfl
    · rw [heq, decide_eq_false he]; rfl
  · have hkl : k = l.length := by omega
    subst hkl
    rw [heq, List.drop_length]; rfl

namespace Ev

noncomputable section

def spM (f : Nat) (vs : List AV) (H : AH) : Option (AV × AH) := cond (Nat.beq f 133) (match vs with
  | [.c (.s l), .c (.s nm)] => cond (inL l asked) (some (.c (.b (inL nm (splitW l))), H)) none
  | _ => none) (spF f vs H)

theorem has_inL {nm : List Nat} (hn : ∀ n ∈ nm, n < 256) : ∀ fl : List Str, has fl (nm.map UInt8.ofNat) = inL nm (fl.map fun l => l.map UInt8.toNat)
  | [] => rfl
  | x :: fl => by
    show (decide (x = nm.map UInt8.ofNat) || has fl (nm.map UInt8.ofNat)) = cond (leqL (x.map UInt8.toNat) nm) true (inL nm (fl.map fun l => l.map UInt8.toNat))
    rw [has_inL hn fl, leqL_eq]
    have e : decide (x = nm.map UInt8.ofNat) = decide (x.map UInt8.toNat = nm) := by
      apply decide_eq_decide.2
      constructor
      · intro h; subst h
        rw [List.map_map]
        conv => rhs; rw [← List.map_id nm]
        exact List.map_congr_left fun n h => by
          have := hn n h
          simp only [Function.comp_apply, id_eq, UInt8.toNat_ofNat']
          omega
      · intro h; rw [← h, List.map_map]
        conv => lhs; rw [← List.map_id x]
        exact List.map_congr_left fun b _ => by simp
    rw [e]
    cases decide (x.map UInt8.toNat = nm) <;> rfl

theorem spM_ok (G : Nat) : RunOk Tryz.prog G spM := by
  intro f vs H H' v h
  replace h : cond (Nat.beq f 133) (match (generalizing := false) vs with
    | [.c (.s l), .c (.s nm)] => cond (inL l asked) (some (AV.c (.b (inL nm (splitW l))), H)) none
    | _ => none) (spF f vs H) = some (v, H') := h
  cases hb : Nat.beq f 133 with
  | false => rw [hb] at h; exact spF_ok G h
  | true =>
    rw [hb] at h
    have hf := Nat.eq_of_beq_eq_true hb
    subst hf
    replace h : (match (generalizing := false) vs with
      | [.c (.s l), .c (.s nm)] => cond (inL l asked) (some (AV.c (.b (inL nm (splitW l))), H)) none
      | _ => none) = some (v, H') := h
    split at h
    · rename_i l nm
      obtain ⟨hin, h⟩ := cond_some h
      injection h with h1 h2; subst h1; subst h2
      refine ⟨⟨_, Tryz.func133, by decide +kernel, rfl⟩, fun {E w0 w args} hG hH hA => ⟨Keeps.refl _ _, ?_⟩⟩
      have hall := List.all_eq_true.1 asked_ok l (inL_mem hin)
      simp only [Bool.and_eq_true, decide_eq_true_eq] at hall
      obtain ⟨⟨a1, a2⟩, a3⟩ := hall
      match args, hA with
      | [u, t], .cons hu (.cons ht .nil) =>
        obtain ⟨rfl, _⟩ := hu
        obtain ⟨rfl, hn⟩ := ht
        refine (amgC hH.table (l.map UInt8.ofNat) (nm.map UInt8.ofNat) a1 (by simpa using a2)).mono fun e w' hr => ?_
        cases e with
        | returned v =>
          obtain ⟨hE, rfl⟩ := hr
          refine ⟨E, En.le_refl _, fun _ _ h => .inl h, hH.ext hE, ?_⟩
          show Value.bool _ = Value.bool _
          rw [has_inL hn, a3]
        | _ => exact hr.elim
    · cases h

end

end Ev
end

section
open Go.RowKit

theorem place {w : World} (v n : Int) (hn : 0 < n) (hn63 : n ≤ 9223372036854775807) : Calls Tryz.prog 20 #[.int .i64 v, .int .i64 n] w (Ret fun u w' => Ext w w' ∧ u = .int .i64 (v.emod n)) := by
  refine law00_Place.ok _ _ ?_
  unfold law00_Place.vc
  have h1 := Int.tmod_eq_emod (a := v) (b := n)
  have h2 := Int.emod_nonneg v (show n ≠ 0 by omega)
  have h3 := Int.emod_lt_of_pos v hn
  have h4 : (((if 0 ≤ v ∨ n ∣ v then 0 else n.natAbs : Nat)) : Int) = 0 ∨ (((if 0 ≤ v ∨ n ∣ v then 0 else n.natAbs : Nat)) : Int) = n := by
    split
    · exact .inl rfl
    · right; omega
  generalize (((if 0 ≤ v ∨ n ∣ v then 0 else n.natAbs : Nat)) : Int) = q at h1 h4
  refine ⟨by omega, fun h => ⟨⟨by omega, by omega⟩, Chg.refl _ _, ?_⟩, fun h => ⟨Chg.refl _ _, ?_⟩⟩
  · show Value.int .i64 _ = Value.int .i64 (v % n)
    rw [show v.tmod n + n = v % n by omega]
  · show Value.int .i64 _ = Value.int .i64 (v % n)
    rw [show v.tmod n = v % n by omega]
end

section
namespace Ev

set_option autoImplicit false

open Go.RowKit

noncomputable section

def H00 : AH := ⟨0, .nil, .nil⟩

def good (r : Option (AV × AH)) : Bool := match r with
  | some (.c (.b true), _) => true
  | _ => false

/-- Where a number that is not known is placed. -/
def spP (f : Nat) (vs : List AV) (H : AH) : Option (AV × AH) := cond (Nat.beq f 20) (match vs with
  | [.c (.qu n r), .c (.i .i64 (.ofNat m))] => cond (Nat.beq n m && Nat.blt 0 n && Nat.ble n 1000) (some (.c (.i .i64 (.ofNat r)), H)) none
  | _ => none) (spM f vs H)

theorem HR.start {w : World} (h : WP w) : HR (fun _ => none) H00 (W0.all w) w := by
  refine ⟨⟨h, id⟩, Kept.refl _, fun b p he => (by cases he), fun b o hg => ?_, fun f p hf => ?_, fun b T c f e hg => ?_, fun b T c f e ha => ?_, fun b T c l B S _ he => (by cases he), fun b es cl B S _ he => (by cases he), fun b b' B S S' _ he => (by cases he)⟩
  · cases hg
  · cases hf
  · cases hg
  · cases ha

theorem names_ok : Tryz.prog.funcs.all (fun fn => !(fn.name == "runtime.NumGoroutine")) = true := by decide +kernel

theorem spP_ok : RunOk Tryz.prog 0 spP := by
  intro f vs H H' v h
  replace h : cond (Nat.beq f 20) (match (generalizing := false) vs with
    | [.c (.qu n r), .c (.i .i64 (.ofNat m))] => cond (Nat.beq n m && Nat.blt 0 n && Nat.ble n 1000) (some (AV.c (.i .i64 (.ofNat r)), H)) none
    | _ => none) (spM f vs H) = some (v, H') := h
  cases hb : Nat.beq f 20 with
  | false => rw [hb] at h; exact spM_ok 0 h
  | true =>
    rw [hb] at h
    have hf := Nat.eq_of_beq_eq_true hb
    subst hf
    replace h : (match (generalizing := false) vs with
      | [.c (.qu n r), .c (.i .i64 (.ofNat m))] => cond (Nat.beq n m && Nat.blt 0 n && Nat.ble n 1000) (some (AV.c (.i .i64 (.ofNat r)), H)) none
      | _ => none) = some (v, H') := h
    split at h
    · rename_i n r m
      obtain ⟨hin, h⟩ := cond_some h
      injection h with h1 h2; subst h1; subst h2
      simp only [Bool.and_eq_true, Nat.ble_eq, Nat.blt_eq] at hin
      obtain ⟨⟨e1, e2⟩, e3⟩ := hin
      have e1 := Nat.eq_of_beq_eq_true e1
      subst e1
      refine ⟨⟨_, Tryz.func20, by decide +kernel, rfl⟩, fun {E w0 w args} hG hH hA => ⟨Keeps.refl _ _, ?_⟩⟩
      match args, hA with
      | [u, t], .cons hu (.cons ht .nil) =>
        obtain ⟨x, rfl, hx⟩ := hu
        have ht : t = .int .i64 ((n : Nat) : Int) := ht
        subst ht
        refine (place x (n : Int) (by omega) (by omega)).mono fun e w' hr => ?_
        cases e with
        | returned v =>
          obtain ⟨hE, rfl⟩ := hr
          exact ⟨E, En.le_refl _, fun _ _ h => .inl h, hH.ext hE, by show Value.int .i64 (x % (n : Int)) = _; rw [hx]; rfl⟩
        | _ => exact hr.elim
    · cases h

theorem fnC_ok {f : Nat} {fn : Func} {cf : CF} (Z : List Nat) (hf : Tryz.prog.funcs[f]? = some fn) (hz : (Nat.ble (fn.params.size + fn.nfree) 256 && Z.all fun t => Nat.ble (fn.params.size + fn.nfree) t) = true) (h : compF Tryz.prog 0 Z fn = some cf) : FnR Tryz.prog 0 f cf := compF_ok (by kernel_rfl) names_ok hf hz h

/-- As deep as calls are. -/
def deep : Nat := 200

def runT (t : FT) : Run := runF spP t.find deep

theorem runT_ok {t : FT} (ht : t.Ok (FnR Tryz.prog 0)) : RunOk Tryz.prog 0 (runT t) := run_sound (fun _ _ h => FT.find_ok ht h) spP_ok deep

theorem closed_true {t : FT} (ht : t.Ok (FnR Tryz.prog 0)) {f : FuncId} {vs : List AV} {args : List Value} {w : World} (hw : WP w) (hvs : All2 (AV.v fun _ => none) vs args) (h : good (runT t f vs H00) = true) : Calls Tryz.prog f args.toArray w (Ret fun v w' => Ext w w' ∧ v = .bool true) := by
  unfold good at h
  split at h
  · rename_i H' hr
    obtain ⟨_, hb⟩ := runT_ok ht hr
    refine (hb (fun g hg => absurd hg (Nat.not_lt_zero g)) (HR.start hw) hvs).2.mono fun e w' hx => ?_
    cases e with
    | returned v =>
      obtain ⟨E', _, _, h3, h4⟩ := hx
      exact ⟨h3.ch.ext, h4⟩
    | _ => exact hx.elim
  · cases h

end

end Ev
end

section
namespace Ev

set_option autoImplicit false

noncomputable section

def cf5 : CF := ⟨157, 3, .seq (.reg [⟨some ⟨.a, .g⟩, none, .mv (.c (.c (.b false))), []⟩]) (.seq (.reg [⟨some ⟨.b, .c⟩, none, .call 20 [.t ⟨.a, .a⟩, .c (.c (.i .i64 (.ofNat 5)))], []⟩, ⟨some ⟨.b, .d⟩, none, .bin
  .add (.c (.c (.i .i64 (.ofNat 1)))) (.t ⟨.b, .c⟩), []⟩, ⟨some ⟨.b, .f⟩, none, .call 20 [.t ⟨.a, .b⟩, .c (.c (.i .i64 (.ofNat 5)))], []⟩, ⟨some ⟨.b, .g⟩, none, .bin .add (.c (.c (.i .i64 (.ofNat 1))))
  (.t ⟨.b, .f⟩), []⟩, ⟨some ⟨.a, .h⟩, none, .mv (.t ⟨.b, .d⟩), []⟩, ⟨some ⟨.a, .i⟩, none, .mv (.t ⟨.b, .g⟩), []⟩]) (.seq (.reg [⟨some ⟨.a, .j⟩, none, .mv (.c (.c (.s [60, 116, 97, 98, 108, 101, 62]))),
  []⟩]) (.seq (.seq (.reg [⟨some ⟨.a, .k⟩, none, .mv (.c (.c (.i .i64 (.ofNat 0)))), []⟩]) (.blk 0 (.loop (.seq (.seq (.reg [⟨some ⟨.b, .j⟩, none, .bin .lss (.t ⟨.a, .k⟩) (.t ⟨.a, .h⟩), []⟩]) (.cond
  (.t ⟨.b, .j⟩) .skip (.exit 0))) (.seq (.blk 1 (.seq (.reg [⟨some ⟨.b, .n⟩, none, .bin .add (.t ⟨.a, .j⟩) (.c (.c (.s [60, 116, 114, 62]))), []⟩, ⟨some ⟨.a, .j⟩, none, .mv (.t ⟨.b, .n⟩), []⟩]) (.seq
  (.reg [⟨some ⟨.a, .l⟩, none, .mv (.c (.c (.i .i64 (.ofNat 0)))), []⟩]) (.blk 2 (.loop (.seq (.seq (.reg [⟨some ⟨.c, .a⟩, none, .bin .lss (.t ⟨.a, .l⟩) (.t ⟨.a, .i⟩), []⟩]) (.cond (.t ⟨.c, .a⟩) .skip
  (.exit 2))) (.seq (.blk 3 (.seq (.reg [⟨some ⟨.c, .e⟩, none, .bin .add (.t ⟨.a, .j⟩) (.c (.c (.s [60, 116, 100, 62, 120]))), []⟩, ⟨some ⟨.a, .j⟩, none, .mv (.t ⟨.c, .e⟩), []⟩]) (.seq (.reg [⟨some
  ⟨.c, .f⟩, none, .mv (.t ⟨.a, .c⟩), []⟩]) (.cond (.t ⟨.c, .f⟩) (.reg [⟨some ⟨.c, .h⟩, none, .bin .add (.t ⟨.a, .j⟩) (.c (.c (.s [60, 47, 116, 100, 62]))), []⟩, ⟨some ⟨.a, .j⟩, none, .mv (.t ⟨.c, .h⟩),
  []⟩]) .skip)))) (.reg [⟨some ⟨.c, .c⟩, none, .bin .add (.t ⟨.a, .l⟩) (.c (.c (.i .i64 (.ofNat 1)))), []⟩, ⟨some ⟨.a, .l⟩, none, .mv (.t ⟨.c, .c⟩), []⟩])))))))) (.reg [⟨some ⟨.b, .l⟩, none, .bin .add
  (.t ⟨.a, .k⟩) (.c (.c (.i .i64 (.ofNat 1)))), []⟩, ⟨some ⟨.a, .k⟩, none, .mv (.t ⟨.b, .l⟩), []⟩])))))) (.seq (.reg [⟨some ⟨.c, .k⟩, none, .call 21 [.t ⟨.a, .j⟩], []⟩, ⟨some ⟨.c, .l⟩, none, .call 16
  [.t ⟨.c, .k⟩], []⟩, ⟨some ⟨.c, .m⟩, none, .ext 0 (.t ⟨.c, .l⟩), []⟩, ⟨some ⟨.c, .n⟩, none, .ext 1 (.t ⟨.c, .l⟩), []⟩, ⟨some ⟨.a, .m⟩, none, .new 28 (.c (.a [.i .i64 (.ofNat 0), .s [], .s [], .sl none
  0 0 0, .sl none 0 0 0])), []⟩, ⟨none, none, .st 5 (.t ⟨.a, .m⟩) (.t ⟨.c, .m⟩), []⟩, ⟨some ⟨.a, .n⟩, none, .mv (.t ⟨.c, .n⟩), []⟩]) (.seq (.seq (.reg [⟨some ⟨.c, .p⟩, none, .bin .neq (.t ⟨.a, .n⟩) (.c
  (.c (.i .i64 (.ofNat 0)))), []⟩, ⟨some ⟨.d, .a⟩, none, .mv (.t ⟨.c, .p⟩), []⟩, ⟨some ⟨.d, .b⟩, some (⟨.d, .a⟩, false), .fa 4 (.t ⟨.a, .m⟩), []⟩, ⟨some ⟨.d, .c⟩, some (⟨.d, .a⟩, false), .ld 1 false
  (.t ⟨.d, .b⟩), []⟩, ⟨some ⟨.d, .d⟩, some (⟨.d, .a⟩, false), .len true (.t ⟨.d, .c⟩), []⟩, ⟨some ⟨.d, .e⟩, some (⟨.d, .a⟩, false), .bin .neq (.t ⟨.d, .d⟩) (.c (.c (.i .i64 (.ofNat 1)))), []⟩, ⟨some
  ⟨.d, .f⟩, none, .pk (.t ⟨.d, .a⟩) (.c (.c (.b true))) (.t ⟨.d, .e⟩), []⟩, ⟨some ⟨.d, .g⟩, none, .mv (.t ⟨.d, .f⟩), []⟩, ⟨some ⟨.d, .h⟩, some (⟨.d, .g⟩, false), .fa 4 (.t ⟨.a, .m⟩), []⟩, ⟨some ⟨.d,
  .i⟩, some (⟨.d, .g⟩, false), .ld 1 false (.t ⟨.d, .h⟩), []⟩, ⟨some ⟨.d, .j⟩, some (⟨.d, .g⟩, false), .ia 5 (.t ⟨.d, .i⟩) (.c (.c (.i .i64 (.ofNat 0)))), []⟩, ⟨some ⟨.d, .k⟩, some (⟨.d, .g⟩, false),
  .fa 4 (.t ⟨.d, .j⟩), []⟩, ⟨some ⟨.d, .l⟩, some (⟨.d, .g⟩, false), .ld 1 false (.t ⟨.d, .k⟩), []⟩, ⟨some ⟨.d, .m⟩, some (⟨.d, .g⟩, false), .len true (.t ⟨.d, .l⟩), []⟩, ⟨some ⟨.d, .n⟩, some (⟨.d, .g⟩,
  false), .bin .neq (.t ⟨.d, .m⟩) (.c (.c (.i .i64 (.ofNat 2)))), []⟩, ⟨some ⟨.d, .o⟩, none, .pk (.t ⟨.d, .g⟩) (.c (.c (.b true))) (.t ⟨.d, .n⟩), []⟩, ⟨some ⟨.d, .p⟩, none, .mv (.t ⟨.d, .o⟩), []⟩,
  ⟨some ⟨.e, .a⟩, some (⟨.d, .p⟩, false), .fa 4 (.t ⟨.a, .m⟩), []⟩, ⟨some ⟨.e, .b⟩, some (⟨.d, .p⟩, false), .ld 1 false (.t ⟨.e, .a⟩), []⟩, ⟨some ⟨.e, .c⟩, some (⟨.d, .p⟩, false), .ia 5 (.t ⟨.e, .b⟩)
  (.c (.c (.i .i64 (.ofNat 0)))), []⟩, ⟨some ⟨.e, .d⟩, some (⟨.d, .p⟩, false), .fa 4 (.t ⟨.e, .c⟩), []⟩, ⟨some ⟨.e, .e⟩, some (⟨.d, .p⟩, false), .ld 1 false (.t ⟨.e, .d⟩), []⟩, ⟨some ⟨.e, .f⟩, some
  (⟨.d, .p⟩, false), .ia 5 (.t ⟨.e, .e⟩) (.c (.c (.i .i64 (.ofNat 1)))), []⟩, ⟨some ⟨.e, .g⟩, some (⟨.d, .p⟩, false), .fa 4 (.t ⟨.e, .f⟩), []⟩, ⟨some ⟨.e, .h⟩, some (⟨.d, .p⟩, false), .ld 1 false (.t
  ⟨.e, .g⟩), []⟩, ⟨some ⟨.e, .i⟩, some (⟨.d, .p⟩, false), .len true (.t ⟨.e, .h⟩), []⟩, ⟨some ⟨.e, .j⟩, some (⟨.d, .p⟩, false), .bin .neq (.t ⟨.e, .i⟩) (.c (.c (.i .i64 (.ofNat 1)))), []⟩, ⟨some ⟨.e,
  .k⟩, none, .pk (.t ⟨.d, .p⟩) (.c (.c (.b true))) (.t ⟨.e, .j⟩), []⟩]) (.cond (.t ⟨.e, .k⟩) (.seq (.reg [⟨some ⟨.a, .g⟩, none, .mv (.c (.c (.b false))), []⟩]) .ret) .skip)) (.seq (.reg [⟨some ⟨.e,
  .l⟩, none, .fa 4 (.t ⟨.a, .m⟩), []⟩, ⟨some ⟨.e, .m⟩, none, .ld 1 false (.t ⟨.e, .l⟩), []⟩, ⟨some ⟨.e, .n⟩, none, .ia 5 (.t ⟨.e, .m⟩) (.c (.c (.i .i64 (.ofNat 0)))), []⟩, ⟨some ⟨.e, .o⟩, none, .fa 4
  (.t ⟨.e, .n⟩), []⟩, ⟨some ⟨.e, .p⟩, none, .ld 1 false (.t ⟨.e, .o⟩), []⟩, ⟨some ⟨.f, .a⟩, none, .ia 5 (.t ⟨.e, .p⟩) (.c (.c (.i .i64 (.ofNat 1)))), []⟩, ⟨some ⟨.f, .b⟩, none, .fa 4 (.t ⟨.f, .a⟩),
  []⟩, ⟨some ⟨.f, .c⟩, none, .ld 1 false (.t ⟨.f, .b⟩), []⟩, ⟨some ⟨.f, .d⟩, none, .ia 5 (.t ⟨.f, .c⟩) (.c (.c (.i .i64 (.ofNat 0)))), []⟩, ⟨some ⟨.f, .e⟩, none, .ld 5 true (.t ⟨.f, .d⟩), []⟩, ⟨some
  ⟨.a, .o⟩, none, .new 28 (.c (.a [.i .i64 (.ofNat 0), .s [], .s [], .sl none 0 0 0, .sl none 0 0 0])), []⟩, ⟨none, none, .st 5 (.t ⟨.a, .o⟩) (.t ⟨.f, .e⟩), []⟩]) (.seq (.seq (.reg [⟨some ⟨.f, .f⟩,
  none, .fa 1 (.t ⟨.a, .o⟩), []⟩, ⟨some ⟨.f, .g⟩, none, .ld 1 false (.t ⟨.f, .f⟩), []⟩, ⟨some ⟨.f, .h⟩, none, .bin .neq (.t ⟨.f, .g⟩) (.c (.c (.s [116, 97, 98, 108, 101]))), []⟩, ⟨some ⟨.f, .i⟩, none,
  .mv (.t ⟨.f, .h⟩), []⟩, ⟨some ⟨.f, .j⟩, some (⟨.f, .i⟩, false), .fa 4 (.t ⟨.a, .o⟩), []⟩, ⟨some ⟨.f, .k⟩, some (⟨.f, .i⟩, false), .ld 1 false (.t ⟨.f, .j⟩), []⟩, ⟨some ⟨.f, .l⟩, some (⟨.f, .i⟩,
  false), .len true (.t ⟨.f, .k⟩), []⟩, ⟨some ⟨.f, .m⟩, some (⟨.f, .i⟩, false), .bin .neq (.t ⟨.f, .l⟩) (.c (.c (.i .i64 (.ofNat 1)))), []⟩, ⟨some ⟨.f, .n⟩, none, .pk (.t ⟨.f, .i⟩) (.c (.c (.b true)))
  (.t ⟨.f, .m⟩), []⟩, ⟨some ⟨.f, .o⟩, none, .mv (.t ⟨.f, .n⟩), []⟩, ⟨some ⟨.f, .p⟩, some (⟨.f, .o⟩, false), .fa 4 (.t ⟨.a, .o⟩), []⟩, ⟨some ⟨.g, .a⟩, some (⟨.f, .o⟩, false), .ld 1 false (.t ⟨.f, .p⟩),
  []⟩, ⟨some ⟨.g, .b⟩, some (⟨.f, .o⟩, false), .ia 5 (.t ⟨.g, .a⟩) (.c (.c (.i .i64 (.ofNat 0)))), []⟩, ⟨some ⟨.g, .c⟩, some (⟨.f, .o⟩, false), .fa 1 (.t ⟨.g, .b⟩), []⟩, ⟨some ⟨.g, .d⟩, some (⟨.f, .o⟩,
  false), .ld 1 false (.t ⟨.g, .c⟩), []⟩, ⟨some ⟨.g, .e⟩, some (⟨.f, .o⟩, false), .bin .neq (.t ⟨.g, .d⟩) (.c (.c (.s [116, 98, 111, 100, 121]))), []⟩, ⟨some ⟨.g, .f⟩, none, .pk (.t ⟨.f, .o⟩) (.c (.c
  (.b true))) (.t ⟨.g, .e⟩), []⟩, ⟨some ⟨.g, .g⟩, none, .mv (.t ⟨.g, .f⟩), []⟩, ⟨some ⟨.g, .h⟩, some (⟨.g, .g⟩, false), .fa 4 (.t ⟨.a, .o⟩), []⟩, ⟨some ⟨.g, .i⟩, some (⟨.g, .g⟩, false), .ld 1 false (.t
  ⟨.g, .h⟩), []⟩, ⟨some ⟨.g, .j⟩, some (⟨.g, .g⟩, false), .ia 5 (.t ⟨.g, .i⟩) (.c (.c (.i .i64 (.ofNat 0)))), []⟩, ⟨some ⟨.g, .k⟩, some (⟨.g, .g⟩, false), .fa 4 (.t ⟨.g, .j⟩), []⟩, ⟨some ⟨.g, .l⟩, some
  (⟨.g, .g⟩, false), .ld 1 false (.t ⟨.g, .k⟩), []⟩, ⟨some ⟨.g, .m⟩, some (⟨.g, .g⟩, false), .len true (.t ⟨.g, .l⟩), []⟩, ⟨some ⟨.g, .n⟩, some (⟨.g, .g⟩, false), .mv (.t ⟨.a, .h⟩), []⟩, ⟨some ⟨.g,
  .o⟩, some (⟨.g, .g⟩, false), .bin .neq (.t ⟨.g, .m⟩) (.t ⟨.g, .n⟩), []⟩, ⟨some ⟨.g, .p⟩, none, .pk (.t ⟨.g, .g⟩) (.c (.c (.b true))) (.t ⟨.g, .o⟩), []⟩]) (.cond (.t ⟨.g, .p⟩) (.seq (.reg [⟨some ⟨.a,
  .g⟩, none, .mv (.c (.c (.b false))), []⟩]) .ret) .skip)) (.seq (.seq (.reg [⟨some ⟨.a, .p⟩, none, .mv (.c (.c (.i .i64 (.ofNat 0)))), []⟩]) (.blk 4 (.loop (.seq (.seq (.reg [⟨some ⟨.h, .c⟩, none,
  .bin .lss (.t ⟨.a, .p⟩) (.t ⟨.a, .h⟩), []⟩]) (.cond (.t ⟨.h, .c⟩) .skip (.exit 4))) (.seq (.blk 5 (.seq (.reg [⟨some ⟨.h, .f⟩, none, .fa 4 (.t ⟨.a, .o⟩), []⟩, ⟨some ⟨.h, .g⟩, none, .ld 1 false (.t
  ⟨.h, .f⟩), []⟩, ⟨some ⟨.h, .h⟩, none, .ia 5 (.t ⟨.h, .g⟩) (.c (.c (.i .i64 (.ofNat 0)))), []⟩, ⟨some ⟨.h, .i⟩, none, .fa 4 (.t ⟨.h, .h⟩), []⟩, ⟨some ⟨.h, .j⟩, none, .ld 1 false (.t ⟨.h, .i⟩), []⟩,
  ⟨some ⟨.h, .l⟩, none, .ia 5 (.t ⟨.h, .j⟩) (.t ⟨.a, .p⟩), []⟩, ⟨some ⟨.h, .m⟩, none, .ld 5 true (.t ⟨.h, .l⟩), []⟩, ⟨some ⟨.b, .a⟩, none, .new 28 (.c (.a [.i .i64 (.ofNat 0), .s [], .s [], .sl none 0
  0 0, .sl none 0 0 0])), []⟩, ⟨none, none, .st 5 (.t ⟨.b, .a⟩) (.t ⟨.h, .m⟩), []⟩]) (.seq (.reg [⟨some ⟨.h, .n⟩, none, .fa 1 (.t ⟨.b, .a⟩), []⟩, ⟨some ⟨.h, .o⟩, none, .ld 1 false (.t ⟨.h, .n⟩), []⟩,
  ⟨some ⟨.h, .p⟩, none, .bin .neq (.t ⟨.h, .o⟩) (.c (.c (.s [116, 114]))), []⟩, ⟨some ⟨.i, .a⟩, none, .mv (.t ⟨.h, .p⟩), []⟩, ⟨some ⟨.i, .b⟩, some (⟨.i, .a⟩, false), .fa 4 (.t ⟨.b, .a⟩), []⟩, ⟨some
  ⟨.i, .c⟩, some (⟨.i, .a⟩, false), .ld 1 false (.t ⟨.i, .b⟩), []⟩, ⟨some ⟨.i, .d⟩, some (⟨.i, .a⟩, false), .len true (.t ⟨.i, .c⟩), []⟩, ⟨some ⟨.i, .e⟩, some (⟨.i, .a⟩, false), .mv (.t ⟨.a, .i⟩), []⟩,
  ⟨some ⟨.i, .f⟩, some (⟨.i, .a⟩, false), .bin .neq (.t ⟨.i, .d⟩) (.t ⟨.i, .e⟩), []⟩, ⟨some ⟨.i, .g⟩, none, .pk (.t ⟨.i, .a⟩) (.c (.c (.b true))) (.t ⟨.i, .f⟩), []⟩, ⟨some ⟨.i, .h⟩, none, .mv (.t ⟨.i,
  .g⟩), []⟩, ⟨some ⟨.i, .i⟩, some (⟨.i, .h⟩, false), .fa 4 (.t ⟨.b, .a⟩), []⟩, ⟨some ⟨.i, .j⟩, some (⟨.i, .h⟩, false), .ld 1 false (.t ⟨.i, .i⟩), []⟩, ⟨some ⟨.i, .k⟩, some (⟨.i, .h⟩, false), .mv (.t
  ⟨.a, .i⟩), []⟩, ⟨some ⟨.i, .l⟩, some (⟨.i, .h⟩, false), .bin .sub (.t ⟨.i, .k⟩) (.c (.c (.i .i64 (.ofNat 1)))), []⟩, ⟨some ⟨.i, .m⟩, some (⟨.i, .h⟩, false), .ia 5 (.t ⟨.i, .j⟩) (.t ⟨.i, .l⟩), []⟩,
  ⟨some ⟨.i, .n⟩, some (⟨.i, .h⟩, false), .fa 1 (.t ⟨.i, .m⟩), []⟩, ⟨some ⟨.i, .o⟩, some (⟨.i, .h⟩, false), .ld 1 false (.t ⟨.i, .n⟩), []⟩, ⟨some ⟨.i, .p⟩, some (⟨.i, .h⟩, false), .bin .neq (.t ⟨.i,
  .o⟩) (.c (.c (.s [116, 100]))), []⟩, ⟨some ⟨.j, .a⟩, none, .pk (.t ⟨.i, .h⟩) (.c (.c (.b true))) (.t ⟨.i, .p⟩), []⟩, ⟨some ⟨.j, .b⟩, none, .mv (.t ⟨.j, .a⟩), []⟩, ⟨some ⟨.j, .c⟩, some (⟨.j, .b⟩,
  false), .fa 4 (.t ⟨.b, .a⟩), []⟩, ⟨some ⟨.j, .d⟩, some (⟨.j, .b⟩, false), .ld 1 false (.t ⟨.j, .c⟩), []⟩, ⟨some ⟨.j, .e⟩, some (⟨.j, .b⟩, false), .mv (.t ⟨.a, .i⟩), []⟩, ⟨some ⟨.j, .f⟩, some (⟨.j,
  .b⟩, false), .bin .sub (.t ⟨.j, .e⟩) (.c (.c (.i .i64 (.ofNat 1)))), []⟩, ⟨some ⟨.j, .g⟩, some (⟨.j, .b⟩, false), .ia 5 (.t ⟨.j, .d⟩) (.t ⟨.j, .f⟩), []⟩, ⟨some ⟨.j, .h⟩, some (⟨.j, .b⟩, false), .fa 4
  (.t ⟨.j, .g⟩), []⟩, ⟨some ⟨.j, .i⟩, some (⟨.j, .b⟩, false), .ld 1 false (.t ⟨.j, .h⟩), []⟩, ⟨some ⟨.j, .j⟩, some (⟨.j, .b⟩, false), .len true (.t ⟨.j, .i⟩), []⟩, ⟨some ⟨.j, .k⟩, some (⟨.j, .b⟩,
  false), .bin .neq (.t ⟨.j, .j⟩) (.c (.c (.i .i64 (.ofNat 1)))), []⟩, ⟨some ⟨.j, .l⟩, none, .pk (.t ⟨.j, .b⟩) (.c (.c (.b true))) (.t ⟨.j, .k⟩), []⟩]) (.cond (.t ⟨.j, .l⟩) (.seq (.reg [⟨some ⟨.a, .g⟩,
  none, .mv (.c (.c (.b false))), []⟩]) .ret) .skip)))) (.reg [⟨some ⟨.h, .e⟩, none, .bin .add (.t ⟨.a, .p⟩) (.c (.c (.i .i64 (.ofNat 1)))), []⟩, ⟨some ⟨.a, .p⟩, none, .mv (.t ⟨.h, .e⟩), []⟩]))))))
  (.seq (.reg [⟨some ⟨.j, .m⟩, none, .call 15 [], []⟩, ⟨some ⟨.a, .g⟩, none, .mv (.t ⟨.j, .m⟩), []⟩]) .ret))))))))), [(⟨.a, .g⟩, none)]⟩

theorem ok5 : FnR Go.Proofs.Tryz.prog 0 5 cf5 := fnC_ok [17, 20, 23, 24, 26, 28, 30, 31, 33, 35, 38, 40, 41, 46, 112, 113, 115, 122] Go.Proofs.Tryz.func5 (by kernel_rfl) (by kernel_rfl)

def cf7 : CF := ⟨158, 2, .seq (.reg [⟨some ⟨.a, .e⟩, none, .mv (.c (.c (.b false))), []⟩]) (.seq (.reg [⟨some ⟨.a, .n⟩, none, .bld [.s [], .s [], .s [], .s [], .s [], .s []] [(0, (1, .c (.c (.s [98])))), (1, (1, .c
  (.c (.s [105])))), (2, (1, .c (.c (.s [101, 109])))), (3, (1, .c (.c (.s [117])))), (4, (1, .c (.c (.s [99, 111, 100, 101])))), (5, (1, .c (.c (.s [116, 116]))))], []⟩, ⟨some ⟨.a, .f⟩, none, .new 43
  (.c (.a [.s [], .s [], .s [], .s [], .s [], .s []])), []⟩, ⟨none, none, .st 6 (.t ⟨.a, .f⟩) (.t ⟨.a, .n⟩), []⟩]) (.seq (.reg [⟨some ⟨.a, .p⟩, none, .call 20 [.t ⟨.a, .a⟩, .c (.c (.i .i64 (.ofNat
  6)))], []⟩, ⟨some ⟨.a, .g⟩, none, .mv (.t ⟨.a, .p⟩), []⟩]) (.seq (.reg [⟨some ⟨.b, .b⟩, none, .bin .add (.t ⟨.a, .g⟩) (.c (.c (.i .i64 (.ofNat 1)))), []⟩, ⟨some ⟨.b, .d⟩, none, .call 20 [.t ⟨.a, .b⟩,
  .c (.c (.i .i64 (.ofNat 5)))], []⟩, ⟨some ⟨.b, .e⟩, none, .bin .add (.t ⟨.b, .b⟩) (.t ⟨.b, .d⟩), []⟩, ⟨some ⟨.b, .f⟩, none, .bin .rem (.t ⟨.b, .e⟩) (.c (.c (.i .i64 (.ofNat 6)))), []⟩, ⟨some ⟨.a,
  .h⟩, none, .mv (.t ⟨.b, .f⟩), []⟩]) (.seq (.dreg [⟨some ⟨.b, .g⟩, none, .mv (.t ⟨.a, .g⟩), []⟩, ⟨some ⟨.b, .h⟩, none, .ip 1 6 (.t ⟨.a, .f⟩) (.t ⟨.b, .g⟩), []⟩, ⟨some ⟨.b, .i⟩, none, .ld 1 false (.t
  ⟨.b, .h⟩), []⟩, ⟨some ⟨.b, .j⟩, none, .mv (.t ⟨.a, .h⟩), []⟩, ⟨some ⟨.b, .k⟩, none, .ip 1 6 (.t ⟨.a, .f⟩) (.t ⟨.b, .j⟩), []⟩, ⟨some ⟨.b, .l⟩, none, .ld 1 false (.t ⟨.b, .k⟩), []⟩, ⟨some ⟨.a, .i⟩,
  none, .mv (.t ⟨.b, .i⟩), []⟩, ⟨some ⟨.a, .j⟩, none, .mv (.t ⟨.b, .l⟩), []⟩]) (.seq (.reg [⟨some ⟨.b, .o⟩, none, .bin .add (.c (.c (.s [60]))) (.t ⟨.a, .i⟩), []⟩, ⟨some ⟨.b, .p⟩, none, .bin .add (.t
  ⟨.b, .o⟩) (.c (.c (.s [62, 49, 60]))), []⟩, ⟨some ⟨.c, .b⟩, none, .bin .add (.t ⟨.b, .p⟩) (.t ⟨.a, .j⟩), []⟩, ⟨some ⟨.c, .c⟩, none, .bin .add (.t ⟨.c, .b⟩) (.c (.c (.s [62, 50, 60, 47]))), []⟩, ⟨some
  ⟨.c, .e⟩, none, .bin .add (.t ⟨.c, .c⟩) (.t ⟨.a, .i⟩), []⟩, ⟨some ⟨.c, .f⟩, none, .bin .add (.t ⟨.c, .e⟩) (.c (.c (.s [62, 51, 60, 47]))), []⟩, ⟨some ⟨.c, .h⟩, none, .bin .add (.t ⟨.c, .f⟩) (.t ⟨.a,
  .j⟩), []⟩, ⟨some ⟨.c, .i⟩, none, .bin .add (.t ⟨.c, .h⟩) (.c (.c (.s [62, 52]))), []⟩, ⟨some ⟨.c, .j⟩, none, .call 21 [.t ⟨.c, .i⟩], []⟩, ⟨some ⟨.c, .k⟩, none, .call 16 [.t ⟨.c, .j⟩], []⟩, ⟨some ⟨.c,
  .l⟩, none, .ext 0 (.t ⟨.c, .k⟩), []⟩, ⟨some ⟨.c, .m⟩, none, .ext 1 (.t ⟨.c, .k⟩), []⟩, ⟨some ⟨.a, .k⟩, none, .new 28 (.c (.a [.i .i64 (.ofNat 0), .s [], .s [], .sl none 0 0 0, .sl none 0 0 0])), []⟩,
  ⟨none, none, .st 5 (.t ⟨.a, .k⟩) (.t ⟨.c, .l⟩), []⟩, ⟨some ⟨.a, .l⟩, none, .mv (.t ⟨.c, .m⟩), []⟩]) (.seq (.seq (.reg [⟨some ⟨.c, .o⟩, none, .bin .neq (.t ⟨.a, .l⟩) (.c (.c (.i .i64 (.ofNat 0)))),
  []⟩, ⟨some ⟨.c, .p⟩, none, .mv (.t ⟨.c, .o⟩), []⟩, ⟨some ⟨.d, .a⟩, some (⟨.c, .p⟩, false), .fa 4 (.t ⟨.a, .k⟩), []⟩, ⟨some ⟨.d, .b⟩, some (⟨.c, .p⟩, false), .ld 1 false (.t ⟨.d, .a⟩), []⟩, ⟨some ⟨.d,
  .c⟩, some (⟨.c, .p⟩, false), .len true (.t ⟨.d, .b⟩), []⟩, ⟨some ⟨.d, .d⟩, some (⟨.c, .p⟩, false), .bin .neq (.t ⟨.d, .c⟩) (.c (.c (.i .i64 (.ofNat 1)))), []⟩, ⟨some ⟨.d, .e⟩, none, .pk (.t ⟨.c, .p⟩)
  (.c (.c (.b true))) (.t ⟨.d, .d⟩), []⟩, ⟨some ⟨.d, .f⟩, none, .mv (.t ⟨.d, .e⟩), []⟩, ⟨some ⟨.d, .g⟩, some (⟨.d, .f⟩, false), .fa 4 (.t ⟨.a, .k⟩), []⟩, ⟨some ⟨.d, .h⟩, some (⟨.d, .f⟩, false), .ld 1
  false (.t ⟨.d, .g⟩), []⟩, ⟨some ⟨.d, .i⟩, some (⟨.d, .f⟩, false), .ia 5 (.t ⟨.d, .h⟩) (.c (.c (.i .i64 (.ofNat 0)))), []⟩, ⟨some ⟨.d, .j⟩, some (⟨.d, .f⟩, false), .fa 4 (.t ⟨.d, .i⟩), []⟩, ⟨some ⟨.d,
  .k⟩, some (⟨.d, .f⟩, false), .ld 1 false (.t ⟨.d, .j⟩), []⟩, ⟨some ⟨.d, .l⟩, some (⟨.d, .f⟩, false), .len true (.t ⟨.d, .k⟩), []⟩, ⟨some ⟨.d, .m⟩, some (⟨.d, .f⟩, false), .bin .neq (.t ⟨.d, .l⟩) (.c
  (.c (.i .i64 (.ofNat 2)))), []⟩, ⟨some ⟨.d, .n⟩, none, .pk (.t ⟨.d, .f⟩) (.c (.c (.b true))) (.t ⟨.d, .m⟩), []⟩]) (.cond (.t ⟨.d, .n⟩) (.seq (.reg [⟨some ⟨.a, .e⟩, none, .mv (.c (.c (.b false))),
  []⟩]) .ret) .skip)) (.seq (.reg [⟨some ⟨.d, .o⟩, none, .fa 4 (.t ⟨.a, .k⟩), []⟩, ⟨some ⟨.d, .p⟩, none, .ld 1 false (.t ⟨.d, .o⟩), []⟩, ⟨some ⟨.e, .a⟩, none, .ia 5 (.t ⟨.d, .p⟩) (.c (.c (.i .i64
  (.ofNat 0)))), []⟩, ⟨some ⟨.e, .b⟩, none, .fa 4 (.t ⟨.e, .a⟩), []⟩, ⟨some ⟨.e, .c⟩, none, .ld 1 false (.t ⟨.e, .b⟩), []⟩, ⟨some ⟨.e, .d⟩, none, .ia 5 (.t ⟨.e, .c⟩) (.c (.c (.i .i64 (.ofNat 1)))),
  []⟩, ⟨some ⟨.e, .e⟩, none, .fa 4 (.t ⟨.e, .d⟩), []⟩, ⟨some ⟨.e, .f⟩, none, .ld 1 false (.t ⟨.e, .e⟩), []⟩, ⟨some ⟨.a, .m⟩, none, .mv (.t ⟨.e, .f⟩), []⟩]) (.seq (.seq (.reg [⟨some ⟨.e, .h⟩, none, .len
  true (.t ⟨.a, .m⟩), []⟩, ⟨some ⟨.e, .i⟩, none, .bin .neq (.t ⟨.e, .h⟩) (.c (.c (.i .i64 (.ofNat 3)))), []⟩, ⟨some ⟨.e, .j⟩, none, .mv (.t ⟨.e, .i⟩), []⟩, ⟨some ⟨.e, .k⟩, some (⟨.e, .j⟩, false), .mv
  (.t ⟨.a, .m⟩), []⟩, ⟨some ⟨.e, .l⟩, some (⟨.e, .j⟩, false), .ia 5 (.t ⟨.e, .k⟩) (.c (.c (.i .i64 (.ofNat 0)))), []⟩, ⟨some ⟨.e, .m⟩, some (⟨.e, .j⟩, false), .fa 1 (.t ⟨.e, .l⟩), []⟩, ⟨some ⟨.e, .n⟩,
  some (⟨.e, .j⟩, false), .ld 1 false (.t ⟨.e, .m⟩), []⟩, ⟨some ⟨.e, .o⟩, some (⟨.e, .j⟩, false), .mv (.t ⟨.a, .i⟩), []⟩, ⟨some ⟨.e, .p⟩, some (⟨.e, .j⟩, false), .bin .neq (.t ⟨.e, .n⟩) (.t ⟨.e, .o⟩),
  []⟩, ⟨some ⟨.f, .a⟩, none, .pk (.t ⟨.e, .j⟩) (.c (.c (.b true))) (.t ⟨.e, .p⟩), []⟩, ⟨some ⟨.f, .b⟩, none, .mv (.t ⟨.f, .a⟩), []⟩, ⟨some ⟨.f, .c⟩, some (⟨.f, .b⟩, false), .mv (.t ⟨.a, .m⟩), []⟩,
  ⟨some ⟨.f, .d⟩, some (⟨.f, .b⟩, false), .ia 5 (.t ⟨.f, .c⟩) (.c (.c (.i .i64 (.ofNat 0)))), []⟩, ⟨some ⟨.f, .e⟩, some (⟨.f, .b⟩, false), .fa 4 (.t ⟨.f, .d⟩), []⟩, ⟨some ⟨.f, .f⟩, some (⟨.f, .b⟩,
  false), .ld 1 false (.t ⟨.f, .e⟩), []⟩, ⟨some ⟨.f, .g⟩, some (⟨.f, .b⟩, false), .len true (.t ⟨.f, .f⟩), []⟩, ⟨some ⟨.f, .h⟩, some (⟨.f, .b⟩, false), .bin .neq (.t ⟨.f, .g⟩) (.c (.c (.i .i64 (.ofNat
  2)))), []⟩, ⟨some ⟨.f, .i⟩, none, .pk (.t ⟨.f, .b⟩) (.c (.c (.b true))) (.t ⟨.f, .h⟩), []⟩, ⟨some ⟨.f, .j⟩, none, .mv (.t ⟨.f, .i⟩), []⟩, ⟨some ⟨.f, .k⟩, some (⟨.f, .j⟩, false), .mv (.t ⟨.a, .m⟩),
  []⟩, ⟨some ⟨.f, .l⟩, some (⟨.f, .j⟩, false), .ia 5 (.t ⟨.f, .k⟩) (.c (.c (.i .i64 (.ofNat 0)))), []⟩, ⟨some ⟨.f, .m⟩, some (⟨.f, .j⟩, false), .fa 4 (.t ⟨.f, .l⟩), []⟩, ⟨some ⟨.f, .n⟩, some (⟨.f, .j⟩,
  false), .ld 1 false (.t ⟨.f, .m⟩), []⟩, ⟨some ⟨.f, .o⟩, some (⟨.f, .j⟩, false), .ia 5 (.t ⟨.f, .n⟩) (.c (.c (.i .i64 (.ofNat 1)))), []⟩, ⟨some ⟨.f, .p⟩, some (⟨.f, .j⟩, false), .fa 1 (.t ⟨.f, .o⟩),
  []⟩, ⟨some ⟨.g, .a⟩, some (⟨.f, .j⟩, false), .ld 1 false (.t ⟨.f, .p⟩), []⟩, ⟨some ⟨.g, .b⟩, some (⟨.f, .j⟩, false), .mv (.t ⟨.a, .j⟩), []⟩, ⟨some ⟨.g, .c⟩, some (⟨.f, .j⟩, false), .bin .neq (.t ⟨.g,
  .a⟩) (.t ⟨.g, .b⟩), []⟩, ⟨some ⟨.g, .d⟩, none, .pk (.t ⟨.f, .j⟩) (.c (.c (.b true))) (.t ⟨.g, .c⟩), []⟩, ⟨some ⟨.g, .e⟩, none, .mv (.t ⟨.g, .d⟩), []⟩, ⟨some ⟨.g, .f⟩, some (⟨.g, .e⟩, false), .mv (.t
  ⟨.a, .m⟩), []⟩, ⟨some ⟨.g, .g⟩, some (⟨.g, .e⟩, false), .ia 5 (.t ⟨.g, .f⟩) (.c (.c (.i .i64 (.ofNat 1)))), []⟩, ⟨some ⟨.g, .h⟩, some (⟨.g, .e⟩, false), .fa 1 (.t ⟨.g, .g⟩), []⟩, ⟨some ⟨.g, .i⟩, some
  (⟨.g, .e⟩, false), .ld 1 false (.t ⟨.g, .h⟩), []⟩, ⟨some ⟨.g, .j⟩, some (⟨.g, .e⟩, false), .mv (.t ⟨.a, .j⟩), []⟩, ⟨some ⟨.g, .k⟩, some (⟨.g, .e⟩, false), .bin .neq (.t ⟨.g, .i⟩) (.t ⟨.g, .j⟩), []⟩,
  ⟨some ⟨.g, .l⟩, none, .pk (.t ⟨.g, .e⟩) (.c (.c (.b true))) (.t ⟨.g, .k⟩), []⟩, ⟨some ⟨.g, .m⟩, none, .mv (.t ⟨.g, .l⟩), []⟩, ⟨some ⟨.g, .n⟩, some (⟨.g, .m⟩, false), .mv (.t ⟨.a, .m⟩), []⟩, ⟨some
  ⟨.g, .o⟩, some (⟨.g, .m⟩, false), .ia 5 (.t ⟨.g, .n⟩) (.c (.c (.i .i64 (.ofNat 2)))), []⟩, ⟨some ⟨.g, .p⟩, some (⟨.g, .m⟩, false), .fa 2 (.t ⟨.g, .o⟩), []⟩, ⟨some ⟨.h, .a⟩, some (⟨.g, .m⟩, false),
  .ld 1 false (.t ⟨.g, .p⟩), []⟩, ⟨some ⟨.h, .b⟩, some (⟨.g, .m⟩, false), .bin .neq (.t ⟨.h, .a⟩) (.c (.c (.s [52]))), []⟩, ⟨some ⟨.h, .c⟩, none, .pk (.t ⟨.g, .m⟩) (.c (.c (.b true))) (.t ⟨.h, .b⟩),
  []⟩]) (.cond (.t ⟨.h, .c⟩) (.seq (.reg [⟨some ⟨.a, .e⟩, none, .mv (.c (.c (.b false))), []⟩]) .ret) .skip)) (.seq (.reg [⟨some ⟨.h, .e⟩, none, .ia 5 (.t ⟨.a, .m⟩) (.c (.c (.i .i64 (.ofNat 0)))), []⟩,
  ⟨some ⟨.h, .f⟩, none, .fa 4 (.t ⟨.h, .e⟩), []⟩, ⟨some ⟨.h, .g⟩, none, .ld 1 false (.t ⟨.h, .f⟩), []⟩, ⟨some ⟨.h, .h⟩, none, .ia 5 (.t ⟨.h, .g⟩) (.c (.c (.i .i64 (.ofNat 1)))), []⟩, ⟨some ⟨.h, .i⟩,
  none, .fa 4 (.t ⟨.h, .h⟩), []⟩, ⟨some ⟨.h, .j⟩, none, .ld 1 false (.t ⟨.h, .i⟩), []⟩, ⟨some ⟨.h, .k⟩, none, .len true (.t ⟨.h, .j⟩), []⟩, ⟨some ⟨.h, .l⟩, none, .bin .eql (.t ⟨.h, .k⟩) (.c (.c (.i
  .i64 (.ofNat 1)))), []⟩, ⟨some ⟨.h, .m⟩, none, .mv (.t ⟨.h, .l⟩), []⟩, ⟨some ⟨.h, .n⟩, some (⟨.h, .m⟩, true), .mv (.t ⟨.a, .m⟩), []⟩, ⟨some ⟨.h, .o⟩, some (⟨.h, .m⟩, true), .ia 5 (.t ⟨.h, .n⟩) (.c
  (.c (.i .i64 (.ofNat 0)))), []⟩, ⟨some ⟨.h, .p⟩, some (⟨.h, .m⟩, true), .fa 4 (.t ⟨.h, .o⟩), []⟩, ⟨some ⟨.i, .a⟩, some (⟨.h, .m⟩, true), .ld 1 false (.t ⟨.h, .p⟩), []⟩, ⟨some ⟨.i, .b⟩, some (⟨.h,
  .m⟩, true), .ia 5 (.t ⟨.i, .a⟩) (.c (.c (.i .i64 (.ofNat 1)))), []⟩, ⟨some ⟨.i, .c⟩, some (⟨.h, .m⟩, true), .fa 4 (.t ⟨.i, .b⟩), []⟩, ⟨some ⟨.i, .d⟩, some (⟨.h, .m⟩, true), .ld 1 false (.t ⟨.i, .c⟩),
  []⟩, ⟨some ⟨.i, .e⟩, some (⟨.h, .m⟩, true), .ia 5 (.t ⟨.i, .d⟩) (.c (.c (.i .i64 (.ofNat 0)))), []⟩, ⟨some ⟨.i, .f⟩, some (⟨.h, .m⟩, true), .fa 2 (.t ⟨.i, .e⟩), []⟩, ⟨some ⟨.i, .g⟩, some (⟨.h, .m⟩,
  true), .ld 1 false (.t ⟨.i, .f⟩), []⟩, ⟨some ⟨.i, .h⟩, some (⟨.h, .m⟩, true), .bin .eql (.t ⟨.i, .g⟩) (.c (.c (.s [50]))), []⟩, ⟨some ⟨.i, .i⟩, none, .pk (.t ⟨.h, .m⟩) (.t ⟨.i, .h⟩) (.c (.c (.b
  false))), []⟩, ⟨some ⟨.i, .j⟩, none, .mv (.t ⟨.i, .i⟩), []⟩, ⟨some ⟨.i, .k⟩, some (⟨.i, .j⟩, true), .mv (.t ⟨.a, .m⟩), []⟩, ⟨some ⟨.i, .l⟩, some (⟨.i, .j⟩, true), .ia 5 (.t ⟨.i, .k⟩) (.c (.c (.i .i64
  (.ofNat 1)))), []⟩, ⟨some ⟨.i, .m⟩, some (⟨.i, .j⟩, true), .fa 4 (.t ⟨.i, .l⟩), []⟩, ⟨some ⟨.i, .n⟩, some (⟨.i, .j⟩, true), .ld 1 false (.t ⟨.i, .m⟩), []⟩, ⟨some ⟨.i, .o⟩, some (⟨.i, .j⟩, true), .len
  true (.t ⟨.i, .n⟩), []⟩, ⟨some ⟨.i, .p⟩, some (⟨.i, .j⟩, true), .bin .eql (.t ⟨.i, .o⟩) (.c (.c (.i .i64 (.ofNat 1)))), []⟩, ⟨some ⟨.j, .a⟩, none, .pk (.t ⟨.i, .j⟩) (.t ⟨.i, .p⟩) (.c (.c (.b
  false))), []⟩, ⟨some ⟨.j, .b⟩, none, .mv (.t ⟨.j, .a⟩), []⟩, ⟨some ⟨.j, .c⟩, some (⟨.j, .b⟩, true), .mv (.t ⟨.a, .m⟩), []⟩, ⟨some ⟨.j, .d⟩, some (⟨.j, .b⟩, true), .ia 5 (.t ⟨.j, .c⟩) (.c (.c (.i .i64
  (.ofNat 1)))), []⟩, ⟨some ⟨.j, .e⟩, some (⟨.j, .b⟩, true), .fa 4 (.t ⟨.j, .d⟩), []⟩, ⟨some ⟨.j, .f⟩, some (⟨.j, .b⟩, true), .ld 1 false (.t ⟨.j, .e⟩), []⟩, ⟨some ⟨.j, .g⟩, some (⟨.j, .b⟩, true), .ia
  5 (.t ⟨.j, .f⟩) (.c (.c (.i .i64 (.ofNat 0)))), []⟩, ⟨some ⟨.j, .h⟩, some (⟨.j, .b⟩, true), .fa 2 (.t ⟨.j, .g⟩), []⟩, ⟨some ⟨.j, .i⟩, some (⟨.j, .b⟩, true), .ld 1 false (.t ⟨.j, .h⟩), []⟩, ⟨some ⟨.j,
  .j⟩, some (⟨.j, .b⟩, true), .bin .eql (.t ⟨.j, .i⟩) (.c (.c (.s [51]))), []⟩, ⟨some ⟨.j, .k⟩, none, .pk (.t ⟨.j, .b⟩) (.t ⟨.j, .j⟩) (.c (.c (.b false))), []⟩, ⟨some ⟨.j, .l⟩, none, .mv (.t ⟨.j, .k⟩),
  []⟩, ⟨some ⟨.j, .m⟩, some (⟨.j, .l⟩, true), .call 15 [], []⟩, ⟨some ⟨.j, .n⟩, none, .pk (.t ⟨.j, .l⟩) (.t ⟨.j, .m⟩) (.c (.c (.b false))), []⟩, ⟨some ⟨.a, .e⟩, none, .mv (.t ⟨.j, .n⟩), []⟩])
  .ret))))))))), [(⟨.a, .e⟩, none)]⟩

theorem ok7 : FnR Go.Proofs.Tryz.prog 0 7 cf7 := fnC_ok [14, 16, 18, 28, 29, 32, 35, 38, 45, 70, 115] Go.Proofs.Tryz.func7 (by kernel_rfl) (by kernel_rfl)

def cf8 : CF := ⟨120, 2, .seq (.reg [⟨some ⟨.a, .e⟩, none, .mv (.c (.c (.b false))), []⟩]) (.seq (.reg [⟨some ⟨.b, .a⟩, none, .call 20 [.t ⟨.a, .a⟩, .c (.c (.i .i64 (.ofNat 5)))], []⟩, ⟨some ⟨.b, .b⟩, none, .bin
  .add (.c (.c (.i .i64 (.ofNat 1)))) (.t ⟨.b, .a⟩), []⟩, ⟨some ⟨.b, .d⟩, none, .call 20 [.t ⟨.a, .b⟩, .c (.c (.i .i64 (.ofNat 6)))], []⟩, ⟨some ⟨.b, .e⟩, none, .bin .add (.c (.c (.i .i64 (.ofNat 1))))
  (.t ⟨.b, .d⟩), []⟩, ⟨some ⟨.a, .f⟩, none, .mv (.t ⟨.b, .b⟩), []⟩, ⟨some ⟨.a, .g⟩, none, .mv (.t ⟨.b, .e⟩), []⟩]) (.seq (.reg [⟨some ⟨.a, .h⟩, none, .mv (.c (.c (.s []))), []⟩]) (.seq (.seq (.reg
  [⟨some ⟨.a, .i⟩, none, .mv (.c (.c (.i .i64 (.ofNat 0)))), []⟩]) (.blk 0 (.loop (.seq (.seq (.reg [⟨some ⟨.b, .h⟩, none, .bin .lss (.t ⟨.a, .i⟩) (.t ⟨.a, .g⟩), []⟩]) (.cond (.t ⟨.b, .h⟩) .skip (.exit
  0))) (.seq (.blk 1 (.seq (.reg [⟨some ⟨.b, .l⟩, none, .bin .add (.t ⟨.a, .h⟩) (.c (.c (.s [60, 117, 108, 62]))), []⟩, ⟨some ⟨.a, .h⟩, none, .mv (.t ⟨.b, .l⟩), []⟩]) (.seq (.reg [⟨some ⟨.a, .j⟩, none,
  .mv (.c (.c (.i .i64 (.ofNat 0)))), []⟩]) (.blk 2 (.loop (.seq (.seq (.reg [⟨some ⟨.b, .o⟩, none, .bin .lss (.t ⟨.a, .j⟩) (.t ⟨.a, .f⟩), []⟩]) (.cond (.t ⟨.b, .o⟩) .skip (.exit 2))) (.seq (.blk 3
  (.reg [⟨some ⟨.c, .c⟩, none, .bin .add (.t ⟨.a, .h⟩) (.c (.c (.s [60, 108, 105, 62, 120]))), []⟩, ⟨some ⟨.a, .h⟩, none, .mv (.t ⟨.c, .c⟩), []⟩])) (.reg [⟨some ⟨.c, .a⟩, none, .bin .add (.t ⟨.a, .j⟩)
  (.c (.c (.i .i64 (.ofNat 1)))), []⟩, ⟨some ⟨.a, .j⟩, none, .mv (.t ⟨.c, .a⟩), []⟩])))))))) (.reg [⟨some ⟨.b, .j⟩, none, .bin .add (.t ⟨.a, .i⟩) (.c (.c (.i .i64 (.ofNat 1)))), []⟩, ⟨some ⟨.a, .i⟩,
  none, .mv (.t ⟨.b, .j⟩), []⟩])))))) (.seq (.reg [⟨some ⟨.c, .f⟩, none, .call 21 [.t ⟨.a, .h⟩], []⟩, ⟨some ⟨.c, .g⟩, none, .call 16 [.t ⟨.c, .f⟩], []⟩, ⟨some ⟨.c, .h⟩, none, .ext 0 (.t ⟨.c, .g⟩), []⟩,
  ⟨some ⟨.c, .i⟩, none, .ext 1 (.t ⟨.c, .g⟩), []⟩, ⟨some ⟨.a, .k⟩, none, .new 28 (.c (.a [.i .i64 (.ofNat 0), .s [], .s [], .sl none 0 0 0, .sl none 0 0 0])), []⟩, ⟨none, none, .st 5 (.t ⟨.a, .k⟩) (.t
  ⟨.c, .h⟩), []⟩, ⟨some ⟨.a, .l⟩, none, .mv (.t ⟨.c, .i⟩), []⟩]) (.seq (.seq (.reg [⟨some ⟨.c, .k⟩, none, .bin .neq (.t ⟨.a, .l⟩) (.c (.c (.i .i64 (.ofNat 0)))), []⟩, ⟨some ⟨.c, .l⟩, none, .mv (.t ⟨.c,
  .k⟩), []⟩, ⟨some ⟨.c, .m⟩, some (⟨.c, .l⟩, false), .fa 4 (.t ⟨.a, .k⟩), []⟩, ⟨some ⟨.c, .n⟩, some (⟨.c, .l⟩, false), .ld 1 false (.t ⟨.c, .m⟩), []⟩, ⟨some ⟨.c, .o⟩, some (⟨.c, .l⟩, false), .len true
  (.t ⟨.c, .n⟩), []⟩, ⟨some ⟨.c, .p⟩, some (⟨.c, .l⟩, false), .bin .neq (.t ⟨.c, .o⟩) (.c (.c (.i .i64 (.ofNat 1)))), []⟩, ⟨some ⟨.d, .a⟩, none, .pk (.t ⟨.c, .l⟩) (.c (.c (.b true))) (.t ⟨.c, .p⟩),
  []⟩, ⟨some ⟨.d, .b⟩, none, .mv (.t ⟨.d, .a⟩), []⟩, ⟨some ⟨.d, .c⟩, some (⟨.d, .b⟩, false), .fa 4 (.t ⟨.a, .k⟩), []⟩, ⟨some ⟨.d, .d⟩, some (⟨.d, .b⟩, false), .ld 1 false (.t ⟨.d, .c⟩), []⟩, ⟨some ⟨.d,
  .e⟩, some (⟨.d, .b⟩, false), .ia 5 (.t ⟨.d, .d⟩) (.c (.c (.i .i64 (.ofNat 0)))), []⟩, ⟨some ⟨.d, .f⟩, some (⟨.d, .b⟩, false), .fa 4 (.t ⟨.d, .e⟩), []⟩, ⟨some ⟨.d, .g⟩, some (⟨.d, .b⟩, false), .ld 1
  false (.t ⟨.d, .f⟩), []⟩, ⟨some ⟨.d, .h⟩, some (⟨.d, .b⟩, false), .len true (.t ⟨.d, .g⟩), []⟩, ⟨some ⟨.d, .i⟩, some (⟨.d, .b⟩, false), .bin .neq (.t ⟨.d, .h⟩) (.c (.c (.i .i64 (.ofNat 2)))), []⟩,
  ⟨some ⟨.d, .j⟩, none, .pk (.t ⟨.d, .b⟩) (.c (.c (.b true))) (.t ⟨.d, .i⟩), []⟩]) (.cond (.t ⟨.d, .j⟩) (.seq (.reg [⟨some ⟨.a, .e⟩, none, .mv (.c (.c (.b false))), []⟩]) .ret) .skip)) (.seq (.reg
  [⟨some ⟨.d, .k⟩, none, .fa 4 (.t ⟨.a, .k⟩), []⟩, ⟨some ⟨.d, .l⟩, none, .ld 1 false (.t ⟨.d, .k⟩), []⟩, ⟨some ⟨.d, .m⟩, none, .ia 5 (.t ⟨.d, .l⟩) (.c (.c (.i .i64 (.ofNat 0)))), []⟩, ⟨some ⟨.d, .n⟩,
  none, .fa 4 (.t ⟨.d, .m⟩), []⟩, ⟨some ⟨.d, .o⟩, none, .ld 1 false (.t ⟨.d, .n⟩), []⟩, ⟨some ⟨.d, .p⟩, none, .ia 5 (.t ⟨.d, .o⟩) (.c (.c (.i .i64 (.ofNat 1)))), []⟩, ⟨some ⟨.e, .a⟩, none, .ld 5 true
  (.t ⟨.d, .p⟩), []⟩, ⟨some ⟨.a, .m⟩, none, .new 28 (.c (.a [.i .i64 (.ofNat 0), .s [], .s [], .sl none 0 0 0, .sl none 0 0 0])), []⟩, ⟨none, none, .st 5 (.t ⟨.a, .m⟩) (.t ⟨.e, .a⟩), []⟩]) (.seq (.seq
  (.reg [⟨some ⟨.a, .n⟩, none, .mv (.c (.c (.i .i64 (.ofNat 0)))), []⟩]) (.blk 4 (.loop (.seq (.seq (.reg [⟨some ⟨.e, .d⟩, none, .bin .lss (.t ⟨.a, .n⟩) (.t ⟨.a, .g⟩), []⟩]) (.cond (.t ⟨.e, .d⟩) .skip
  (.exit 4))) (.seq (.blk 5 (.seq (.reg [⟨some ⟨.a, .o⟩, none, .mv (.c (.c (.i .i64 (.ofNat 1)))), []⟩]) (.seq (.seq (.reg [⟨some ⟨.e, .h⟩, none, .bin .eql (.t ⟨.a, .n⟩) (.c (.c (.i .i64 (.ofNat 0)))),
  []⟩]) (.cond (.t ⟨.e, .h⟩) (.reg [⟨some ⟨.a, .o⟩, none, .mv (.c (.c (.i .i64 (.ofNat 0)))), []⟩]) .skip)) (.seq (.seq (.reg [⟨some ⟨.e, .i⟩, none, .fa 4 (.t ⟨.a, .m⟩), []⟩, ⟨some ⟨.e, .j⟩, none, .ld
  1 false (.t ⟨.e, .i⟩), []⟩, ⟨some ⟨.e, .k⟩, none, .len true (.t ⟨.e, .j⟩), []⟩, ⟨some ⟨.e, .m⟩, none, .bin .add (.t ⟨.a, .o⟩) (.c (.c (.i .i64 (.ofNat 1)))), []⟩, ⟨some ⟨.e, .n⟩, none, .bin .neq (.t
  ⟨.e, .k⟩) (.t ⟨.e, .m⟩), []⟩, ⟨some ⟨.e, .o⟩, none, .mv (.t ⟨.e, .n⟩), []⟩, ⟨some ⟨.e, .p⟩, some (⟨.e, .o⟩, false), .fa 4 (.t ⟨.a, .m⟩), []⟩, ⟨some ⟨.f, .a⟩, some (⟨.e, .o⟩, false), .ld 1 false (.t
  ⟨.e, .p⟩), []⟩, ⟨some ⟨.f, .b⟩, some (⟨.e, .o⟩, false), .mv (.t ⟨.a, .o⟩), []⟩, ⟨some ⟨.f, .c⟩, some (⟨.e, .o⟩, false), .ia 5 (.t ⟨.f, .a⟩) (.t ⟨.f, .b⟩), []⟩, ⟨some ⟨.f, .d⟩, some (⟨.e, .o⟩, false),
  .fa 1 (.t ⟨.f, .c⟩), []⟩, ⟨some ⟨.f, .e⟩, some (⟨.e, .o⟩, false), .ld 1 false (.t ⟨.f, .d⟩), []⟩, ⟨some ⟨.f, .f⟩, some (⟨.e, .o⟩, false), .bin .neq (.t ⟨.f, .e⟩) (.c (.c (.s [117, 108]))), []⟩, ⟨some
  ⟨.f, .g⟩, none, .pk (.t ⟨.e, .o⟩) (.c (.c (.b true))) (.t ⟨.f, .f⟩), []⟩, ⟨some ⟨.f, .h⟩, none, .mv (.t ⟨.f, .g⟩), []⟩, ⟨some ⟨.f, .i⟩, some (⟨.f, .h⟩, false), .fa 4 (.t ⟨.a, .m⟩), []⟩, ⟨some ⟨.f,
  .j⟩, some (⟨.f, .h⟩, false), .ld 1 false (.t ⟨.f, .i⟩), []⟩, ⟨some ⟨.f, .k⟩, some (⟨.f, .h⟩, false), .mv (.t ⟨.a, .o⟩), []⟩, ⟨some ⟨.f, .l⟩, some (⟨.f, .h⟩, false), .ia 5 (.t ⟨.f, .j⟩) (.t ⟨.f, .k⟩),
  []⟩, ⟨some ⟨.f, .m⟩, some (⟨.f, .h⟩, false), .fa 4 (.t ⟨.f, .l⟩), []⟩, ⟨some ⟨.f, .n⟩, some (⟨.f, .h⟩, false), .ld 1 false (.t ⟨.f, .m⟩), []⟩, ⟨some ⟨.f, .o⟩, some (⟨.f, .h⟩, false), .len true (.t
  ⟨.f, .n⟩), []⟩, ⟨some ⟨.f, .p⟩, some (⟨.f, .h⟩, false), .mv (.t ⟨.a, .f⟩), []⟩, ⟨some ⟨.g, .a⟩, some (⟨.f, .h⟩, false), .bin .neq (.t ⟨.f, .o⟩) (.t ⟨.f, .p⟩), []⟩, ⟨some ⟨.g, .b⟩, none, .pk (.t ⟨.f,
  .h⟩) (.c (.c (.b true))) (.t ⟨.g, .a⟩), []⟩]) (.cond (.t ⟨.g, .b⟩) (.seq (.reg [⟨some ⟨.a, .e⟩, none, .mv (.c (.c (.b false))), []⟩]) .ret) .skip)) (.reg [⟨some ⟨.g, .c⟩, none, .fa 4 (.t ⟨.a, .m⟩),
  []⟩, ⟨some ⟨.g, .d⟩, none, .ld 1 false (.t ⟨.g, .c⟩), []⟩, ⟨some ⟨.g, .f⟩, none, .ia 5 (.t ⟨.g, .d⟩) (.t ⟨.a, .o⟩), []⟩, ⟨some ⟨.g, .g⟩, none, .fa 4 (.t ⟨.g, .f⟩), []⟩, ⟨some ⟨.g, .h⟩, none, .ld 1
  false (.t ⟨.g, .g⟩), []⟩, ⟨some ⟨.g, .j⟩, none, .bin .sub (.t ⟨.a, .f⟩) (.c (.c (.i .i64 (.ofNat 1)))), []⟩, ⟨some ⟨.g, .k⟩, none, .ia 5 (.t ⟨.g, .h⟩) (.t ⟨.g, .j⟩), []⟩, ⟨some ⟨.g, .l⟩, none, .ld 5
  true (.t ⟨.g, .k⟩), []⟩, ⟨none, none, .st 5 (.t ⟨.a, .m⟩) (.t ⟨.g, .l⟩), []⟩]))))) (.reg [⟨some ⟨.e, .f⟩, none, .bin .add (.t ⟨.a, .n⟩) (.c (.c (.i .i64 (.ofNat 1)))), []⟩, ⟨some ⟨.a, .n⟩, none, .mv
  (.t ⟨.e, .f⟩), []⟩])))))) (.seq (.reg [⟨some ⟨.g, .m⟩, none, .fa 1 (.t ⟨.a, .m⟩), []⟩, ⟨some ⟨.g, .n⟩, none, .ld 1 false (.t ⟨.g, .m⟩), []⟩, ⟨some ⟨.g, .o⟩, none, .bin .eql (.t ⟨.g, .n⟩) (.c (.c (.s
  [108, 105]))), []⟩, ⟨some ⟨.g, .p⟩, none, .mv (.t ⟨.g, .o⟩), []⟩, ⟨some ⟨.h, .a⟩, some (⟨.g, .p⟩, true), .fa 4 (.t ⟨.a, .m⟩), []⟩, ⟨some ⟨.h, .b⟩, some (⟨.g, .p⟩, true), .ld 1 false (.t ⟨.h, .a⟩),
  []⟩, ⟨some ⟨.h, .c⟩, some (⟨.g, .p⟩, true), .len true (.t ⟨.h, .b⟩), []⟩, ⟨some ⟨.h, .d⟩, some (⟨.g, .p⟩, true), .bin .eql (.t ⟨.h, .c⟩) (.c (.c (.i .i64 (.ofNat 1)))), []⟩, ⟨some ⟨.h, .e⟩, none, .pk
  (.t ⟨.g, .p⟩) (.t ⟨.h, .d⟩) (.c (.c (.b false))), []⟩, ⟨some ⟨.h, .f⟩, none, .mv (.t ⟨.h, .e⟩), []⟩, ⟨some ⟨.h, .g⟩, some (⟨.h, .f⟩, true), .call 15 [], []⟩, ⟨some ⟨.h, .h⟩, none, .pk (.t ⟨.h, .f⟩)
  (.t ⟨.h, .g⟩) (.c (.c (.b false))), []⟩, ⟨some ⟨.a, .e⟩, none, .mv (.t ⟨.h, .h⟩), []⟩]) .ret)))))))), [(⟨.a, .e⟩, none)]⟩

theorem ok8 : FnR Go.Proofs.Tryz.prog 0 8 cf8 := fnC_ok [15, 18, 21, 22, 24, 26, 28, 29, 31, 33, 35, 36, 41, 65, 66, 68, 70, 75, 100, 104] Go.Proofs.Tryz.func8 (by kernel_rfl) (by kernel_rfl)

def cf12 : CF := ⟨101, 2, .seq (.reg [⟨some ⟨.a, .e⟩, none, .mv (.c (.c (.b false))), []⟩]) (.seq (.reg [⟨some ⟨.a, .f⟩, none, .mv (.c (.c (.s []))), []⟩]) (.seq (.seq (.reg [⟨some ⟨.a, .m⟩, none, .mv (.t ⟨.a, .a⟩),
  []⟩]) (.cond (.t ⟨.a, .m⟩) (.reg [⟨some ⟨.a, .f⟩, none, .mv (.c (.c (.s [60, 104, 116, 109, 108, 62, 60, 104, 101, 97, 100, 62]))), []⟩]) .skip)) (.seq (.reg [⟨some ⟨.a, .o⟩, none, .call 20 [.t ⟨.a,
  .b⟩, .c (.c (.i .i64 (.ofNat 6)))], []⟩, ⟨some ⟨.a, .g⟩, none, .mv (.t ⟨.a, .o⟩), []⟩]) (.seq (.seq (.reg [⟨some ⟨.a, .h⟩, none, .mv (.c (.c (.i .i64 (.ofNat 0)))), []⟩]) (.blk 0 (.loop (.seq (.seq
  (.reg [⟨some ⟨.b, .b⟩, none, .bin .lss (.t ⟨.a, .h⟩) (.t ⟨.a, .g⟩), []⟩]) (.cond (.t ⟨.b, .b⟩) .skip (.exit 0))) (.seq (.blk 1 (.reg [⟨some ⟨.b, .f⟩, none, .bld [.s [], .s [], .s []] [(0, (1, .c (.c
  (.s [60, 109, 101, 116, 97, 62])))), (1, (1, .c (.c (.s [60, 116, 105, 116, 108, 101, 62, 116, 60, 47, 116, 105, 116, 108, 101, 62])))), (2, (1, .c (.c (.s [60, 115, 99, 114, 105, 112, 116, 62, 120,
  60, 47, 115, 99, 114, 105, 112, 116, 62]))))], []⟩, ⟨some ⟨.b, .h⟩, none, .bin .rem (.t ⟨.a, .h⟩) (.c (.c (.i .i64 (.ofNat 3)))), []⟩, ⟨some ⟨.b, .i⟩, none, .ix 3 1 false (.t ⟨.b, .f⟩) (.t ⟨.b, .h⟩),
  []⟩, ⟨some ⟨.b, .j⟩, none, .bin .add (.t ⟨.a, .f⟩) (.t ⟨.b, .i⟩), []⟩, ⟨some ⟨.a, .f⟩, none, .mv (.t ⟨.b, .j⟩), []⟩])) (.reg [⟨some ⟨.b, .d⟩, none, .bin .add (.t ⟨.a, .h⟩) (.c (.c (.i .i64 (.ofNat
  1)))), []⟩, ⟨some ⟨.a, .h⟩, none, .mv (.t ⟨.b, .d⟩), []⟩])))))) (.seq (.reg [⟨some ⟨.b, .m⟩, none, .bin .add (.t ⟨.a, .f⟩) (.c (.c (.s [60, 112, 62, 113]))), []⟩, ⟨some ⟨.b, .n⟩, none, .call 21 [.t
  ⟨.b, .m⟩], []⟩, ⟨some ⟨.b, .o⟩, none, .call 16 [.t ⟨.b, .n⟩], []⟩, ⟨some ⟨.b, .p⟩, none, .ext 0 (.t ⟨.b, .o⟩), []⟩, ⟨some ⟨.c, .a⟩, none, .ext 1 (.t ⟨.b, .o⟩), []⟩, ⟨some ⟨.a, .i⟩, none, .new 28 (.c
  (.a [.i .i64 (.ofNat 0), .s [], .s [], .sl none 0 0 0, .sl none 0 0 0])), []⟩, ⟨none, none, .st 5 (.t ⟨.a, .i⟩) (.t ⟨.b, .p⟩), []⟩, ⟨some ⟨.a, .j⟩, none, .mv (.t ⟨.c, .a⟩), []⟩]) (.seq (.seq (.reg
  [⟨some ⟨.c, .c⟩, none, .bin .neq (.t ⟨.a, .j⟩) (.c (.c (.i .i64 (.ofNat 0)))), []⟩, ⟨some ⟨.c, .d⟩, none, .mv (.t ⟨.c, .c⟩), []⟩, ⟨some ⟨.c, .e⟩, some (⟨.c, .d⟩, false), .fa 4 (.t ⟨.a, .i⟩), []⟩,
  ⟨some ⟨.c, .f⟩, some (⟨.c, .d⟩, false), .ld 1 false (.t ⟨.c, .e⟩), []⟩, ⟨some ⟨.c, .g⟩, some (⟨.c, .d⟩, false), .len true (.t ⟨.c, .f⟩), []⟩, ⟨some ⟨.c, .h⟩, some (⟨.c, .d⟩, false), .bin .neq (.t
  ⟨.c, .g⟩) (.c (.c (.i .i64 (.ofNat 1)))), []⟩, ⟨some ⟨.c, .i⟩, none, .pk (.t ⟨.c, .d⟩) (.c (.c (.b true))) (.t ⟨.c, .h⟩), []⟩, ⟨some ⟨.c, .j⟩, none, .mv (.t ⟨.c, .i⟩), []⟩, ⟨some ⟨.c, .k⟩, some (⟨.c,
  .j⟩, false), .fa 4 (.t ⟨.a, .i⟩), []⟩, ⟨some ⟨.c, .l⟩, some (⟨.c, .j⟩, false), .ld 1 false (.t ⟨.c, .k⟩), []⟩, ⟨some ⟨.c, .m⟩, some (⟨.c, .j⟩, false), .ia 5 (.t ⟨.c, .l⟩) (.c (.c (.i .i64 (.ofNat
  0)))), []⟩, ⟨some ⟨.c, .n⟩, some (⟨.c, .j⟩, false), .fa 4 (.t ⟨.c, .m⟩), []⟩, ⟨some ⟨.c, .o⟩, some (⟨.c, .j⟩, false), .ld 1 false (.t ⟨.c, .n⟩), []⟩, ⟨some ⟨.c, .p⟩, some (⟨.c, .j⟩, false), .len true
  (.t ⟨.c, .o⟩), []⟩, ⟨some ⟨.d, .a⟩, some (⟨.c, .j⟩, false), .bin .neq (.t ⟨.c, .p⟩) (.c (.c (.i .i64 (.ofNat 2)))), []⟩, ⟨some ⟨.d, .b⟩, none, .pk (.t ⟨.c, .j⟩) (.c (.c (.b true))) (.t ⟨.d, .a⟩),
  []⟩]) (.cond (.t ⟨.d, .b⟩) (.seq (.reg [⟨some ⟨.a, .e⟩, none, .mv (.c (.c (.b false))), []⟩]) .ret) .skip)) (.seq (.dreg [⟨some ⟨.d, .c⟩, none, .fa 4 (.t ⟨.a, .i⟩), []⟩, ⟨some ⟨.d, .d⟩, none, .ld 1
  false (.t ⟨.d, .c⟩), []⟩, ⟨some ⟨.d, .e⟩, none, .ia 5 (.t ⟨.d, .d⟩) (.c (.c (.i .i64 (.ofNat 0)))), []⟩, ⟨some ⟨.d, .f⟩, none, .fa 4 (.t ⟨.d, .e⟩), []⟩, ⟨some ⟨.d, .g⟩, none, .ld 1 false (.t ⟨.d,
  .f⟩), []⟩, ⟨some ⟨.d, .h⟩, none, .ia 5 (.t ⟨.d, .g⟩) (.c (.c (.i .i64 (.ofNat 0)))), []⟩, ⟨some ⟨.d, .i⟩, none, .ld 5 true (.t ⟨.d, .h⟩), []⟩, ⟨some ⟨.d, .j⟩, none, .fa 4 (.t ⟨.a, .i⟩), []⟩, ⟨some
  ⟨.d, .k⟩, none, .ld 1 false (.t ⟨.d, .j⟩), []⟩, ⟨some ⟨.d, .l⟩, none, .ia 5 (.t ⟨.d, .k⟩) (.c (.c (.i .i64 (.ofNat 0)))), []⟩, ⟨some ⟨.d, .m⟩, none, .fa 4 (.t ⟨.d, .l⟩), []⟩, ⟨some ⟨.d, .n⟩, none,
  .ld 1 false (.t ⟨.d, .m⟩), []⟩, ⟨some ⟨.d, .o⟩, none, .ia 5 (.t ⟨.d, .n⟩) (.c (.c (.i .i64 (.ofNat 1)))), []⟩, ⟨some ⟨.d, .p⟩, none, .ld 5 true (.t ⟨.d, .o⟩), []⟩, ⟨some ⟨.a, .k⟩, none, .new 28 (.c
  (.a [.i .i64 (.ofNat 0), .s [], .s [], .sl none 0 0 0, .sl none 0 0 0])), []⟩, ⟨some ⟨.a, .l⟩, none, .new 28 (.c (.a [.i .i64 (.ofNat 0), .s [], .s [], .sl none 0 0 0, .sl none 0 0 0])), []⟩, ⟨none,
  none, .st 5 (.t ⟨.a, .k⟩) (.t ⟨.d, .i⟩), [⟨some ⟨.d, .k⟩, none, .ld 1 false (.t ⟨.d, .j⟩)⟩, ⟨some ⟨.d, .n⟩, none, .ld 1 false (.t ⟨.d, .m⟩)⟩, ⟨some ⟨.d, .p⟩, none, .ld 5 true (.t ⟨.d, .o⟩)⟩]⟩, ⟨none,
  none, .st 5 (.t ⟨.a, .l⟩) (.t ⟨.d, .p⟩), []⟩]) (.seq (.reg [⟨some ⟨.e, .a⟩, none, .fa 1 (.t ⟨.a, .k⟩), []⟩, ⟨some ⟨.e, .b⟩, none, .ld 1 false (.t ⟨.e, .a⟩), []⟩, ⟨some ⟨.e, .c⟩, none, .bin .eql (.t
  ⟨.e, .b⟩) (.c (.c (.s [104, 101, 97, 100]))), []⟩, ⟨some ⟨.e, .d⟩, none, .mv (.t ⟨.e, .c⟩), []⟩, ⟨some ⟨.e, .e⟩, some (⟨.e, .d⟩, true), .fa 4 (.t ⟨.a, .k⟩), []⟩, ⟨some ⟨.e, .f⟩, some (⟨.e, .d⟩,
  true), .ld 1 false (.t ⟨.e, .e⟩), []⟩, ⟨some ⟨.e, .g⟩, some (⟨.e, .d⟩, true), .len true (.t ⟨.e, .f⟩), []⟩, ⟨some ⟨.e, .h⟩, some (⟨.e, .d⟩, true), .mv (.t ⟨.a, .g⟩), []⟩, ⟨some ⟨.e, .i⟩, some (⟨.e,
  .d⟩, true), .bin .eql (.t ⟨.e, .g⟩) (.t ⟨.e, .h⟩), []⟩, ⟨some ⟨.e, .j⟩, none, .pk (.t ⟨.e, .d⟩) (.t ⟨.e, .i⟩) (.c (.c (.b false))), []⟩, ⟨some ⟨.e, .k⟩, none, .mv (.t ⟨.e, .j⟩), []⟩, ⟨some ⟨.e, .l⟩,
  some (⟨.e, .k⟩, true), .fa 1 (.t ⟨.a, .l⟩), []⟩, ⟨some ⟨.e, .m⟩, some (⟨.e, .k⟩, true), .ld 1 false (.t ⟨.e, .l⟩), []⟩, ⟨some ⟨.e, .n⟩, some (⟨.e, .k⟩, true), .bin .eql (.t ⟨.e, .m⟩) (.c (.c (.s [98,
  111, 100, 121]))), []⟩, ⟨some ⟨.e, .o⟩, none, .pk (.t ⟨.e, .k⟩) (.t ⟨.e, .n⟩) (.c (.c (.b false))), []⟩, ⟨some ⟨.e, .p⟩, none, .mv (.t ⟨.e, .o⟩), []⟩, ⟨some ⟨.f, .a⟩, some (⟨.e, .p⟩, true), .fa 4 (.t
  ⟨.a, .l⟩), []⟩, ⟨some ⟨.f, .b⟩, some (⟨.e, .p⟩, true), .ld 1 false (.t ⟨.f, .a⟩), []⟩, ⟨some ⟨.f, .c⟩, some (⟨.e, .p⟩, true), .len true (.t ⟨.f, .b⟩), []⟩, ⟨some ⟨.f, .d⟩, some (⟨.e, .p⟩, true), .bin
  .eql (.t ⟨.f, .c⟩) (.c (.c (.i .i64 (.ofNat 1)))), []⟩, ⟨some ⟨.f, .e⟩, none, .pk (.t ⟨.e, .p⟩) (.t ⟨.f, .d⟩) (.c (.c (.b false))), []⟩, ⟨some ⟨.f, .f⟩, none, .mv (.t ⟨.f, .e⟩), []⟩, ⟨some ⟨.f, .g⟩,
  some (⟨.f, .f⟩, true), .fa 4 (.t ⟨.a, .l⟩), []⟩, ⟨some ⟨.f, .h⟩, some (⟨.f, .f⟩, true), .ld 1 false (.t ⟨.f, .g⟩), []⟩, ⟨some ⟨.f, .i⟩, some (⟨.f, .f⟩, true), .ia 5 (.t ⟨.f, .h⟩) (.c (.c (.i .i64
  (.ofNat 0)))), []⟩, ⟨some ⟨.f, .j⟩, some (⟨.f, .f⟩, true), .fa 1 (.t ⟨.f, .i⟩), []⟩, ⟨some ⟨.f, .k⟩, some (⟨.f, .f⟩, true), .ld 1 false (.t ⟨.f, .j⟩), []⟩, ⟨some ⟨.f, .l⟩, some (⟨.f, .f⟩, true), .bin
  .eql (.t ⟨.f, .k⟩) (.c (.c (.s [112]))), []⟩, ⟨some ⟨.f, .m⟩, none, .pk (.t ⟨.f, .f⟩) (.t ⟨.f, .l⟩) (.c (.c (.b false))), []⟩, ⟨some ⟨.f, .n⟩, none, .mv (.t ⟨.f, .m⟩), []⟩, ⟨some ⟨.f, .o⟩, some (⟨.f,
  .n⟩, true), .ld 5 true (.t ⟨.a, .l⟩), []⟩, ⟨some ⟨.f, .p⟩, some (⟨.f, .n⟩, true), .call 22 [.t ⟨.f, .o⟩], []⟩, ⟨some ⟨.g, .a⟩, some (⟨.f, .n⟩, true), .bin .eql (.t ⟨.f, .p⟩) (.c (.c (.i .i64 (.ofNat
  3)))), []⟩, ⟨some ⟨.g, .b⟩, none, .pk (.t ⟨.f, .n⟩) (.t ⟨.g, .a⟩) (.c (.c (.b false))), []⟩, ⟨some ⟨.g, .c⟩, none, .mv (.t ⟨.g, .b⟩), []⟩, ⟨some ⟨.g, .d⟩, some (⟨.g, .c⟩, true), .call 15 [], []⟩,
  ⟨some ⟨.g, .e⟩, none, .pk (.t ⟨.g, .c⟩) (.t ⟨.g, .d⟩) (.c (.c (.b false))), []⟩, ⟨some ⟨.a, .e⟩, none, .mv (.t ⟨.g, .e⟩), []⟩]) .ret)))))))), [(⟨.a, .e⟩, none)]⟩

theorem ok12 : FnR Go.Proofs.Tryz.prog 0 12 cf12 := fnC_ok [13, 15, 16, 18, 20, 22, 26, 27, 33] Go.Proofs.Tryz.func12 (by kernel_rfl) (by kernel_rfl)

def cf13 : CF := ⟨100, 0, .seq (.reg [⟨some ⟨.a, .a⟩, none, .mv (.c (.c (.b false))), []⟩]) (.seq (.reg [⟨some ⟨.a, .g⟩, none, .call 23 [.c (.c (.s [60, 98, 117, 116, 116, 111, 110, 62, 49, 60, 112, 62, 50, 60, 98,
  117, 116, 116, 111, 110, 62, 51]))], []⟩, ⟨some ⟨.a, .h⟩, none, .ext 0 (.t ⟨.a, .g⟩), []⟩, ⟨some ⟨.a, .i⟩, none, .ext 1 (.t ⟨.a, .g⟩), []⟩, ⟨some ⟨.a, .b⟩, none, .mv (.t ⟨.a, .h⟩), []⟩, ⟨some ⟨.a,
  .c⟩, none, .mv (.t ⟨.a, .i⟩), []⟩]) (.seq (.reg [⟨some ⟨.a, .k⟩, none, .call 23 [.c (.c (.s [60, 97, 62, 49, 60, 98, 62, 50, 60, 97, 62, 51]))], []⟩, ⟨some ⟨.a, .l⟩, none, .ext 0 (.t ⟨.a, .k⟩), []⟩,
  ⟨some ⟨.a, .m⟩, none, .ext 1 (.t ⟨.a, .k⟩), []⟩, ⟨some ⟨.a, .d⟩, none, .mv (.t ⟨.a, .l⟩), []⟩, ⟨some ⟨.a, .e⟩, none, .mv (.t ⟨.a, .m⟩), []⟩]) (.seq (.seq (.reg [⟨some ⟨.a, .o⟩, none, .un .not (.t
  ⟨.a, .c⟩), []⟩, ⟨some ⟨.a, .p⟩, none, .mv (.t ⟨.a, .o⟩), []⟩, ⟨some ⟨.b, .a⟩, some (⟨.a, .p⟩, false), .mv (.t ⟨.a, .e⟩), []⟩, ⟨some ⟨.b, .b⟩, some (⟨.a, .p⟩, false), .un .not (.t ⟨.b, .a⟩), []⟩,
  ⟨some ⟨.b, .c⟩, none, .pk (.t ⟨.a, .p⟩) (.c (.c (.b true))) (.t ⟨.b, .b⟩), []⟩, ⟨some ⟨.b, .d⟩, none, .mv (.t ⟨.b, .c⟩), []⟩, ⟨some ⟨.b, .e⟩, some (⟨.b, .d⟩, false), .mv (.t ⟨.a, .b⟩), []⟩, ⟨some
  ⟨.b, .f⟩, some (⟨.b, .d⟩, false), .len true (.t ⟨.b, .e⟩), []⟩, ⟨some ⟨.b, .g⟩, some (⟨.b, .d⟩, false), .bin .neq (.t ⟨.b, .f⟩) (.c (.c (.i .i64 (.ofNat 2)))), []⟩, ⟨some ⟨.b, .h⟩, none, .pk (.t ⟨.b,
  .d⟩) (.c (.c (.b true))) (.t ⟨.b, .g⟩), []⟩, ⟨some ⟨.b, .i⟩, none, .mv (.t ⟨.b, .h⟩), []⟩, ⟨some ⟨.b, .j⟩, some (⟨.b, .i⟩, false), .mv (.t ⟨.a, .b⟩), []⟩, ⟨some ⟨.b, .k⟩, some (⟨.b, .i⟩, false), .ia
  5 (.t ⟨.b, .j⟩) (.c (.c (.i .i64 (.ofNat 0)))), []⟩, ⟨some ⟨.b, .l⟩, some (⟨.b, .i⟩, false), .fa 1 (.t ⟨.b, .k⟩), []⟩, ⟨some ⟨.b, .m⟩, some (⟨.b, .i⟩, false), .ld 1 false (.t ⟨.b, .l⟩), []⟩, ⟨some
  ⟨.b, .n⟩, some (⟨.b, .i⟩, false), .bin .neq (.t ⟨.b, .m⟩) (.c (.c (.s [98, 117, 116, 116, 111, 110]))), []⟩, ⟨some ⟨.b, .o⟩, none, .pk (.t ⟨.b, .i⟩) (.c (.c (.b true))) (.t ⟨.b, .n⟩), []⟩, ⟨some ⟨.b,
  .p⟩, none, .mv (.t ⟨.b, .o⟩), []⟩, ⟨some ⟨.c, .a⟩, some (⟨.b, .p⟩, false), .mv (.t ⟨.a, .b⟩), []⟩, ⟨some ⟨.c, .b⟩, some (⟨.b, .p⟩, false), .ia 5 (.t ⟨.c, .a⟩) (.c (.c (.i .i64 (.ofNat 1)))), []⟩,
  ⟨some ⟨.c, .c⟩, some (⟨.b, .p⟩, false), .fa 1 (.t ⟨.c, .b⟩), []⟩, ⟨some ⟨.c, .d⟩, some (⟨.b, .p⟩, false), .ld 1 false (.t ⟨.c, .c⟩), []⟩, ⟨some ⟨.c, .e⟩, some (⟨.b, .p⟩, false), .bin .neq (.t ⟨.c,
  .d⟩) (.c (.c (.s [98, 117, 116, 116, 111, 110]))), []⟩, ⟨some ⟨.c, .f⟩, none, .pk (.t ⟨.b, .p⟩) (.c (.c (.b true))) (.t ⟨.c, .e⟩), []⟩, ⟨some ⟨.c, .g⟩, none, .mv (.t ⟨.c, .f⟩), []⟩, ⟨some ⟨.c, .h⟩,
  some (⟨.c, .g⟩, false), .mv (.t ⟨.a, .b⟩), []⟩, ⟨some ⟨.c, .i⟩, some (⟨.c, .g⟩, false), .ia 5 (.t ⟨.c, .h⟩) (.c (.c (.i .i64 (.ofNat 0)))), []⟩, ⟨some ⟨.c, .j⟩, some (⟨.c, .g⟩, false), .fa 4 (.t ⟨.c,
  .i⟩), []⟩, ⟨some ⟨.c, .k⟩, some (⟨.c, .g⟩, false), .ld 1 false (.t ⟨.c, .j⟩), []⟩, ⟨some ⟨.c, .l⟩, some (⟨.c, .g⟩, false), .len true (.t ⟨.c, .k⟩), []⟩, ⟨some ⟨.c, .m⟩, some (⟨.c, .g⟩, false), .bin
  .neq (.t ⟨.c, .l⟩) (.c (.c (.i .i64 (.ofNat 2)))), []⟩, ⟨some ⟨.c, .n⟩, none, .pk (.t ⟨.c, .g⟩) (.c (.c (.b true))) (.t ⟨.c, .m⟩), []⟩, ⟨some ⟨.c, .o⟩, none, .mv (.t ⟨.c, .n⟩), []⟩, ⟨some ⟨.c, .p⟩,
  some (⟨.c, .o⟩, false), .mv (.t ⟨.a, .b⟩), []⟩, ⟨some ⟨.d, .a⟩, some (⟨.c, .o⟩, false), .ia 5 (.t ⟨.c, .p⟩) (.c (.c (.i .i64 (.ofNat 1)))), []⟩, ⟨some ⟨.d, .b⟩, some (⟨.c, .o⟩, false), .fa 4 (.t ⟨.d,
  .a⟩), []⟩, ⟨some ⟨.d, .c⟩, some (⟨.c, .o⟩, false), .ld 1 false (.t ⟨.d, .b⟩), []⟩, ⟨some ⟨.d, .d⟩, some (⟨.c, .o⟩, false), .len true (.t ⟨.d, .c⟩), []⟩, ⟨some ⟨.d, .e⟩, some (⟨.c, .o⟩, false), .bin
  .neq (.t ⟨.d, .d⟩) (.c (.c (.i .i64 (.ofNat 1)))), []⟩, ⟨some ⟨.d, .f⟩, none, .pk (.t ⟨.c, .o⟩) (.c (.c (.b true))) (.t ⟨.d, .e⟩), []⟩]) (.cond (.t ⟨.d, .f⟩) (.seq (.reg [⟨some ⟨.a, .a⟩, none, .mv
  (.c (.c (.b false))), []⟩]) .ret) .skip)) (.seq (.reg [⟨some ⟨.d, .h⟩, none, .len true (.t ⟨.a, .d⟩), []⟩, ⟨some ⟨.d, .i⟩, none, .bin .eql (.t ⟨.d, .h⟩) (.c (.c (.i .i64 (.ofNat 2)))), []⟩, ⟨some
  ⟨.d, .j⟩, none, .mv (.t ⟨.d, .i⟩), []⟩, ⟨some ⟨.d, .k⟩, some (⟨.d, .j⟩, true), .mv (.t ⟨.a, .d⟩), []⟩, ⟨some ⟨.d, .l⟩, some (⟨.d, .j⟩, true), .ia 5 (.t ⟨.d, .k⟩) (.c (.c (.i .i64 (.ofNat 0)))), []⟩,
  ⟨some ⟨.d, .m⟩, some (⟨.d, .j⟩, true), .fa 1 (.t ⟨.d, .l⟩), []⟩, ⟨some ⟨.d, .n⟩, some (⟨.d, .j⟩, true), .ld 1 false (.t ⟨.d, .m⟩), []⟩, ⟨some ⟨.d, .o⟩, some (⟨.d, .j⟩, true), .bin .eql (.t ⟨.d, .n⟩)
  (.c (.c (.s [97]))), []⟩, ⟨some ⟨.d, .p⟩, none, .pk (.t ⟨.d, .j⟩) (.t ⟨.d, .o⟩) (.c (.c (.b false))), []⟩, ⟨some ⟨.e, .a⟩, none, .mv (.t ⟨.d, .p⟩), []⟩, ⟨some ⟨.e, .b⟩, some (⟨.e, .a⟩, true), .mv (.t
  ⟨.a, .d⟩), []⟩, ⟨some ⟨.e, .c⟩, some (⟨.e, .a⟩, true), .ia 5 (.t ⟨.e, .b⟩) (.c (.c (.i .i64 (.ofNat 0)))), []⟩, ⟨some ⟨.e, .d⟩, some (⟨.e, .a⟩, true), .fa 4 (.t ⟨.e, .c⟩), []⟩, ⟨some ⟨.e, .e⟩, some
  (⟨.e, .a⟩, true), .ld 1 false (.t ⟨.e, .d⟩), []⟩, ⟨some ⟨.e, .f⟩, some (⟨.e, .a⟩, true), .len true (.t ⟨.e, .e⟩), []⟩, ⟨some ⟨.e, .g⟩, some (⟨.e, .a⟩, true), .bin .eql (.t ⟨.e, .f⟩) (.c (.c (.i .i64
  (.ofNat 2)))), []⟩, ⟨some ⟨.e, .h⟩, none, .pk (.t ⟨.e, .a⟩) (.t ⟨.e, .g⟩) (.c (.c (.b false))), []⟩, ⟨some ⟨.e, .i⟩, none, .mv (.t ⟨.e, .h⟩), []⟩, ⟨some ⟨.e, .j⟩, some (⟨.e, .i⟩, true), .mv (.t ⟨.a,
  .d⟩), []⟩, ⟨some ⟨.e, .k⟩, some (⟨.e, .i⟩, true), .ia 5 (.t ⟨.e, .j⟩) (.c (.c (.i .i64 (.ofNat 1)))), []⟩, ⟨some ⟨.e, .l⟩, some (⟨.e, .i⟩, true), .fa 1 (.t ⟨.e, .k⟩), []⟩, ⟨some ⟨.e, .m⟩, some (⟨.e,
  .i⟩, true), .ld 1 false (.t ⟨.e, .l⟩), []⟩, ⟨some ⟨.e, .n⟩, some (⟨.e, .i⟩, true), .bin .eql (.t ⟨.e, .m⟩) (.c (.c (.s [98]))), []⟩, ⟨some ⟨.e, .o⟩, none, .pk (.t ⟨.e, .i⟩) (.t ⟨.e, .n⟩) (.c (.c (.b
  false))), []⟩, ⟨some ⟨.e, .p⟩, none, .mv (.t ⟨.e, .o⟩), []⟩, ⟨some ⟨.f, .a⟩, some (⟨.e, .p⟩, true), .mv (.t ⟨.a, .d⟩), []⟩, ⟨some ⟨.f, .b⟩, some (⟨.e, .p⟩, true), .ia 5 (.t ⟨.f, .a⟩) (.c (.c (.i .i64
  (.ofNat 1)))), []⟩, ⟨some ⟨.f, .c⟩, some (⟨.e, .p⟩, true), .fa 4 (.t ⟨.f, .b⟩), []⟩, ⟨some ⟨.f, .d⟩, some (⟨.e, .p⟩, true), .ld 1 false (.t ⟨.f, .c⟩), []⟩, ⟨some ⟨.f, .e⟩, some (⟨.e, .p⟩, true), .len
  true (.t ⟨.f, .d⟩), []⟩, ⟨some ⟨.f, .f⟩, some (⟨.e, .p⟩, true), .bin .eql (.t ⟨.f, .e⟩) (.c (.c (.i .i64 (.ofNat 1)))), []⟩, ⟨some ⟨.f, .g⟩, none, .pk (.t ⟨.e, .p⟩) (.t ⟨.f, .f⟩) (.c (.c (.b
  false))), []⟩, ⟨some ⟨.f, .h⟩, none, .mv (.t ⟨.f, .g⟩), []⟩, ⟨some ⟨.f, .i⟩, some (⟨.f, .h⟩, true), .mv (.t ⟨.a, .d⟩), []⟩, ⟨some ⟨.f, .j⟩, some (⟨.f, .h⟩, true), .ia 5 (.t ⟨.f, .i⟩) (.c (.c (.i .i64
  (.ofNat 1)))), []⟩, ⟨some ⟨.f, .k⟩, some (⟨.f, .h⟩, true), .fa 4 (.t ⟨.f, .j⟩), []⟩, ⟨some ⟨.f, .l⟩, some (⟨.f, .h⟩, true), .ld 1 false (.t ⟨.f, .k⟩), []⟩, ⟨some ⟨.f, .m⟩, some (⟨.f, .h⟩, true), .ia
  5 (.t ⟨.f, .l⟩) (.c (.c (.i .i64 (.ofNat 0)))), []⟩, ⟨some ⟨.f, .n⟩, some (⟨.f, .h⟩, true), .fa 1 (.t ⟨.f, .m⟩), []⟩, ⟨some ⟨.f, .o⟩, some (⟨.f, .h⟩, true), .ld 1 false (.t ⟨.f, .n⟩), []⟩, ⟨some ⟨.f,
  .p⟩, some (⟨.f, .h⟩, true), .bin .eql (.t ⟨.f, .o⟩) (.c (.c (.s [97]))), []⟩, ⟨some ⟨.g, .a⟩, none, .pk (.t ⟨.f, .h⟩) (.t ⟨.f, .p⟩) (.c (.c (.b false))), []⟩, ⟨some ⟨.g, .b⟩, none, .mv (.t ⟨.g, .a⟩),
  []⟩, ⟨some ⟨.g, .c⟩, some (⟨.g, .b⟩, true), .call 15 [], []⟩, ⟨some ⟨.g, .d⟩, none, .pk (.t ⟨.g, .b⟩) (.t ⟨.g, .c⟩) (.c (.c (.b false))), []⟩, ⟨some ⟨.a, .a⟩, none, .mv (.t ⟨.g, .d⟩), []⟩]) .ret)))),
  [(⟨.a, .a⟩, none)]⟩

theorem ok13 : FnR Go.Proofs.Tryz.prog 0 13 cf13 := fnC_ok [5, 9, 13, 54] Go.Proofs.Tryz.func13 (by kernel_rfl) (by kernel_rfl)

def cf15 : CF := ⟨80, 0, .seq (.reg [⟨some ⟨.a, .a⟩, none, .mv (.c (.c (.b false))), []⟩]) (.seq (.reg [⟨some ⟨.a, .f⟩, none, .call 21 [.c (.c (.s [60, 112, 62, 97, 60, 98, 62, 98, 60, 112, 62, 99]))], []⟩, ⟨some
  ⟨.a, .g⟩, none, .call 16 [.t ⟨.a, .f⟩], []⟩, ⟨some ⟨.a, .h⟩, none, .ext 0 (.t ⟨.a, .g⟩), []⟩, ⟨some ⟨.a, .i⟩, none, .ext 1 (.t ⟨.a, .g⟩), []⟩, ⟨some ⟨.a, .b⟩, none, .new 28 (.c (.a [.i .i64 (.ofNat
  0), .s [], .s [], .sl none 0 0 0, .sl none 0 0 0])), []⟩, ⟨none, none, .st 5 (.t ⟨.a, .b⟩) (.t ⟨.a, .h⟩), []⟩, ⟨some ⟨.a, .c⟩, none, .mv (.t ⟨.a, .i⟩), []⟩]) (.seq (.seq (.reg [⟨some ⟨.a, .k⟩, none,
  .bin .neq (.t ⟨.a, .c⟩) (.c (.c (.i .i64 (.ofNat 0)))), []⟩, ⟨some ⟨.a, .l⟩, none, .mv (.t ⟨.a, .k⟩), []⟩, ⟨some ⟨.a, .m⟩, some (⟨.a, .l⟩, false), .fa 4 (.t ⟨.a, .b⟩), []⟩, ⟨some ⟨.a, .n⟩, some (⟨.a,
  .l⟩, false), .ld 1 false (.t ⟨.a, .m⟩), []⟩, ⟨some ⟨.a, .o⟩, some (⟨.a, .l⟩, false), .len true (.t ⟨.a, .n⟩), []⟩, ⟨some ⟨.a, .p⟩, some (⟨.a, .l⟩, false), .bin .neq (.t ⟨.a, .o⟩) (.c (.c (.i .i64
  (.ofNat 1)))), []⟩, ⟨some ⟨.b, .a⟩, none, .pk (.t ⟨.a, .l⟩) (.c (.c (.b true))) (.t ⟨.a, .p⟩), []⟩, ⟨some ⟨.b, .b⟩, none, .mv (.t ⟨.b, .a⟩), []⟩, ⟨some ⟨.b, .c⟩, some (⟨.b, .b⟩, false), .fa 4 (.t
  ⟨.a, .b⟩), []⟩, ⟨some ⟨.b, .d⟩, some (⟨.b, .b⟩, false), .ld 1 false (.t ⟨.b, .c⟩), []⟩, ⟨some ⟨.b, .e⟩, some (⟨.b, .b⟩, false), .ia 5 (.t ⟨.b, .d⟩) (.c (.c (.i .i64 (.ofNat 0)))), []⟩, ⟨some ⟨.b,
  .f⟩, some (⟨.b, .b⟩, false), .fa 4 (.t ⟨.b, .e⟩), []⟩, ⟨some ⟨.b, .g⟩, some (⟨.b, .b⟩, false), .ld 1 false (.t ⟨.b, .f⟩), []⟩, ⟨some ⟨.b, .h⟩, some (⟨.b, .b⟩, false), .len true (.t ⟨.b, .g⟩), []⟩,
  ⟨some ⟨.b, .i⟩, some (⟨.b, .b⟩, false), .bin .neq (.t ⟨.b, .h⟩) (.c (.c (.i .i64 (.ofNat 2)))), []⟩, ⟨some ⟨.b, .j⟩, none, .pk (.t ⟨.b, .b⟩) (.c (.c (.b true))) (.t ⟨.b, .i⟩), []⟩]) (.cond (.t ⟨.b,
  .j⟩) (.seq (.reg [⟨some ⟨.a, .a⟩, none, .mv (.c (.c (.b false))), []⟩]) .ret) .skip)) (.seq (.reg [⟨some ⟨.b, .k⟩, none, .fa 4 (.t ⟨.a, .b⟩), []⟩, ⟨some ⟨.b, .l⟩, none, .ld 1 false (.t ⟨.b, .k⟩),
  []⟩, ⟨some ⟨.b, .m⟩, none, .ia 5 (.t ⟨.b, .l⟩) (.c (.c (.i .i64 (.ofNat 0)))), []⟩, ⟨some ⟨.b, .n⟩, none, .fa 4 (.t ⟨.b, .m⟩), []⟩, ⟨some ⟨.b, .o⟩, none, .ld 1 false (.t ⟨.b, .n⟩), []⟩, ⟨some ⟨.b,
  .p⟩, none, .ia 5 (.t ⟨.b, .o⟩) (.c (.c (.i .i64 (.ofNat 1)))), []⟩, ⟨some ⟨.c, .a⟩, none, .fa 4 (.t ⟨.b, .p⟩), []⟩, ⟨some ⟨.c, .b⟩, none, .ld 1 false (.t ⟨.c, .a⟩), []⟩, ⟨some ⟨.a, .d⟩, none, .mv (.t
  ⟨.c, .b⟩), []⟩]) (.seq (.reg [⟨some ⟨.c, .d⟩, none, .len true (.t ⟨.a, .d⟩), []⟩, ⟨some ⟨.c, .e⟩, none, .bin .eql (.t ⟨.c, .d⟩) (.c (.c (.i .i64 (.ofNat 2)))), []⟩, ⟨some ⟨.c, .f⟩, none, .mv (.t ⟨.c,
  .e⟩), []⟩, ⟨some ⟨.c, .g⟩, some (⟨.c, .f⟩, true), .mv (.t ⟨.a, .d⟩), []⟩, ⟨some ⟨.c, .h⟩, some (⟨.c, .f⟩, true), .ia 5 (.t ⟨.c, .g⟩) (.c (.c (.i .i64 (.ofNat 0)))), []⟩, ⟨some ⟨.c, .i⟩, some (⟨.c,
  .f⟩, true), .fa 1 (.t ⟨.c, .h⟩), []⟩, ⟨some ⟨.c, .j⟩, some (⟨.c, .f⟩, true), .ld 1 false (.t ⟨.c, .i⟩), []⟩, ⟨some ⟨.c, .k⟩, some (⟨.c, .f⟩, true), .bin .eql (.t ⟨.c, .j⟩) (.c (.c (.s [112]))), []⟩,
  ⟨some ⟨.c, .l⟩, none, .pk (.t ⟨.c, .f⟩) (.t ⟨.c, .k⟩) (.c (.c (.b false))), []⟩, ⟨some ⟨.c, .m⟩, none, .mv (.t ⟨.c, .l⟩), []⟩, ⟨some ⟨.c, .n⟩, some (⟨.c, .m⟩, true), .mv (.t ⟨.a, .d⟩), []⟩, ⟨some
  ⟨.c, .o⟩, some (⟨.c, .m⟩, true), .ia 5 (.t ⟨.c, .n⟩) (.c (.c (.i .i64 (.ofNat 0)))), []⟩, ⟨some ⟨.c, .p⟩, some (⟨.c, .m⟩, true), .fa 4 (.t ⟨.c, .o⟩), []⟩, ⟨some ⟨.d, .a⟩, some (⟨.c, .m⟩, true), .ld 1
  false (.t ⟨.c, .p⟩), []⟩, ⟨some ⟨.d, .b⟩, some (⟨.c, .m⟩, true), .len true (.t ⟨.d, .a⟩), []⟩, ⟨some ⟨.d, .c⟩, some (⟨.c, .m⟩, true), .bin .eql (.t ⟨.d, .b⟩) (.c (.c (.i .i64 (.ofNat 2)))), []⟩,
  ⟨some ⟨.d, .d⟩, none, .pk (.t ⟨.c, .m⟩) (.t ⟨.d, .c⟩) (.c (.c (.b false))), []⟩, ⟨some ⟨.d, .e⟩, none, .mv (.t ⟨.d, .d⟩), []⟩, ⟨some ⟨.d, .f⟩, some (⟨.d, .e⟩, true), .mv (.t ⟨.a, .d⟩), []⟩, ⟨some
  ⟨.d, .g⟩, some (⟨.d, .e⟩, true), .ia 5 (.t ⟨.d, .f⟩) (.c (.c (.i .i64 (.ofNat 0)))), []⟩, ⟨some ⟨.d, .h⟩, some (⟨.d, .e⟩, true), .fa 4 (.t ⟨.d, .g⟩), []⟩, ⟨some ⟨.d, .i⟩, some (⟨.d, .e⟩, true), .ld 1
  false (.t ⟨.d, .h⟩), []⟩, ⟨some ⟨.d, .j⟩, some (⟨.d, .e⟩, true), .ia 5 (.t ⟨.d, .i⟩) (.c (.c (.i .i64 (.ofNat 1)))), []⟩, ⟨some ⟨.d, .k⟩, some (⟨.d, .e⟩, true), .fa 1 (.t ⟨.d, .j⟩), []⟩, ⟨some ⟨.d,
  .l⟩, some (⟨.d, .e⟩, true), .ld 1 false (.t ⟨.d, .k⟩), []⟩, ⟨some ⟨.d, .m⟩, some (⟨.d, .e⟩, true), .bin .eql (.t ⟨.d, .l⟩) (.c (.c (.s [98]))), []⟩, ⟨some ⟨.d, .n⟩, none, .pk (.t ⟨.d, .e⟩) (.t ⟨.d,
  .m⟩) (.c (.c (.b false))), []⟩, ⟨some ⟨.d, .o⟩, none, .mv (.t ⟨.d, .n⟩), []⟩, ⟨some ⟨.d, .p⟩, some (⟨.d, .o⟩, true), .mv (.t ⟨.a, .d⟩), []⟩, ⟨some ⟨.e, .a⟩, some (⟨.d, .o⟩, true), .ia 5 (.t ⟨.d, .p⟩)
  (.c (.c (.i .i64 (.ofNat 1)))), []⟩, ⟨some ⟨.e, .b⟩, some (⟨.d, .o⟩, true), .fa 4 (.t ⟨.e, .a⟩), []⟩, ⟨some ⟨.e, .c⟩, some (⟨.d, .o⟩, true), .ld 1 false (.t ⟨.e, .b⟩), []⟩, ⟨some ⟨.e, .d⟩, some (⟨.d,
  .o⟩, true), .len true (.t ⟨.e, .c⟩), []⟩, ⟨some ⟨.e, .e⟩, some (⟨.d, .o⟩, true), .bin .eql (.t ⟨.e, .d⟩) (.c (.c (.i .i64 (.ofNat 1)))), []⟩, ⟨some ⟨.e, .f⟩, none, .pk (.t ⟨.d, .o⟩) (.t ⟨.e, .e⟩) (.c
  (.c (.b false))), []⟩, ⟨some ⟨.e, .g⟩, none, .mv (.t ⟨.e, .f⟩), []⟩, ⟨some ⟨.e, .h⟩, some (⟨.e, .g⟩, true), .mv (.t ⟨.a, .d⟩), []⟩, ⟨some ⟨.e, .i⟩, some (⟨.e, .g⟩, true), .ia 5 (.t ⟨.e, .h⟩) (.c (.c
  (.i .i64 (.ofNat 1)))), []⟩, ⟨some ⟨.e, .j⟩, some (⟨.e, .g⟩, true), .fa 4 (.t ⟨.e, .i⟩), []⟩, ⟨some ⟨.e, .k⟩, some (⟨.e, .g⟩, true), .ld 1 false (.t ⟨.e, .j⟩), []⟩, ⟨some ⟨.e, .l⟩, some (⟨.e, .g⟩,
  true), .ia 5 (.t ⟨.e, .k⟩) (.c (.c (.i .i64 (.ofNat 0)))), []⟩, ⟨some ⟨.e, .m⟩, some (⟨.e, .g⟩, true), .fa 1 (.t ⟨.e, .l⟩), []⟩, ⟨some ⟨.e, .n⟩, some (⟨.e, .g⟩, true), .ld 1 false (.t ⟨.e, .m⟩), []⟩,
  ⟨some ⟨.e, .o⟩, some (⟨.e, .g⟩, true), .bin .eql (.t ⟨.e, .n⟩) (.c (.c (.s [98]))), []⟩, ⟨some ⟨.e, .p⟩, none, .pk (.t ⟨.e, .g⟩) (.t ⟨.e, .o⟩) (.c (.c (.b false))), []⟩, ⟨some ⟨.a, .a⟩, none, .mv (.t
  ⟨.e, .p⟩), []⟩]) .ret)))), [(⟨.a, .a⟩, none)]⟩

theorem ok15 : FnR Go.Proofs.Tryz.prog 0 15 cf15 := fnC_ok [4, 9, 34] Go.Proofs.Tryz.func15 (by kernel_rfl) (by kernel_rfl)

def cf16 : CF := ⟨54, 1, .seq (.reg [⟨some ⟨.a, .c⟩, none, .new 28 (.c (.a [.i .i64 (.ofNat 0), .s [], .s [], .sl none 0 0 0, .sl none 0 0 0])), []⟩, ⟨some ⟨.a, .d⟩, none, .mv (.c (.c (.i .i64 (.ofNat 0)))), []⟩])
  (.seq (.reg [⟨some ⟨.a, .i⟩, none, .bld [.i .i64 (.ofNat 0), .i .i64 (.ofNat 0), .s [], .s [], .sl none 0 0 0, .p none, .sl none 0 0 0] [(1, (1, .c (.c (.i .i64 (.ofNat 1)))))], []⟩, ⟨some ⟨.a, .j⟩,
  none, .new 61 (.t ⟨.a, .i⟩), []⟩, ⟨some ⟨.a, .k⟩, none, .call 24 [], []⟩, ⟨some ⟨.a, .l⟩, none, .bld [.p none, .p none, .i .i64 (.ofNat 0), .sl none 0 0 0, .p none, .i .i64 (.ofNat 0), .b false, .b
  false] [(0, (1, .t ⟨.a, .j⟩)), (2, (1, .c (.c (.i .i64 (.ofNat 1))))), (4, (1, .t ⟨.a, .k⟩))], []⟩, ⟨some ⟨.a, .m⟩, none, .new 65 (.t ⟨.a, .l⟩), []⟩, ⟨some ⟨.a, .e⟩, none, .mv (.t ⟨.a, .m⟩), []⟩])
  (.seq .skip (.seq (.seq (.reg [⟨some ⟨.a, .n⟩, none, .mv (.t ⟨.a, .a⟩), []⟩, ⟨some ⟨.a, .o⟩, none, .len true (.t ⟨.a, .n⟩), []⟩, ⟨some ⟨.a, .p⟩, none, .mv (.c (.c (.i .i64 (.ofNat 0)))), []⟩]) (.blk
  0 (.loop (.seq (.reg [⟨some ⟨.b, .a⟩, none, .bin .lss (.t ⟨.a, .p⟩) (.t ⟨.a, .o⟩), []⟩]) (.seq (.cond (.t ⟨.b, .a⟩) .skip (.exit 0)) (.seq (.blk 1 (.seq (.reg [⟨some ⟨.b, .b⟩, none, .ia 5 (.t ⟨.a,
  .n⟩) (.t ⟨.a, .p⟩), []⟩, ⟨some ⟨.b, .c⟩, none, .ld 5 true (.t ⟨.b, .b⟩), []⟩, ⟨some ⟨.a, .g⟩, none, .new 56 (.c (.a [.i .i64 (.ofNat 0), .s [], .s [], .sl none 0 0 0, .b false])), []⟩, ⟨none, none,
  .st 5 (.t ⟨.a, .g⟩) (.t ⟨.b, .c⟩), []⟩]) (.seq (.seq (.reg [⟨some ⟨.b, .d⟩, none, .fa 0 (.t ⟨.a, .g⟩), []⟩, ⟨some ⟨.b, .e⟩, none, .ld 1 false (.t ⟨.b, .d⟩), []⟩, ⟨some ⟨.b, .f⟩, none, .bin .eql (.t
  ⟨.b, .e⟩) (.c (.c (.i .i64 (.ofNat 6)))), []⟩, ⟨some ⟨.b, .g⟩, none, .mv (.t ⟨.b, .f⟩), []⟩, ⟨some ⟨.b, .h⟩, some (⟨.b, .g⟩, false), .mv (.t ⟨.a, .e⟩), []⟩, ⟨some ⟨.b, .i⟩, some (⟨.b, .g⟩, false),
  .nc (.t ⟨.b, .h⟩), []⟩, ⟨some ⟨.b, .j⟩, some (⟨.b, .g⟩, false), .fa 2 (.t ⟨.b, .i⟩), []⟩, ⟨some ⟨.b, .k⟩, some (⟨.b, .g⟩, false), .ld 1 false (.t ⟨.b, .j⟩), []⟩, ⟨some ⟨.b, .l⟩, some (⟨.b, .g⟩,
  false), .bin .gtr (.t ⟨.b, .k⟩) (.c (.c (.i .i64 (.ofNat 300)))), []⟩, ⟨some ⟨.b, .m⟩, none, .pk (.t ⟨.b, .g⟩) (.c (.c (.b true))) (.t ⟨.b, .l⟩), []⟩]) (.cond (.t ⟨.b, .m⟩) (.exit 0) .skip)) (.seq
  (.reg [⟨some ⟨.b, .n⟩, none, .ld 5 true (.t ⟨.a, .g⟩), []⟩, ⟨some ⟨.b, .o⟩, none, .call 25 [.t ⟨.b, .n⟩], []⟩]) (.cond (.t ⟨.b, .o⟩) (.reg [⟨some ⟨.c, .a⟩, none, .ld 5 true (.t ⟨.a, .g⟩), []⟩, ⟨some
  ⟨.c, .b⟩, none, .call 26 [.t ⟨.a, .e⟩, .t ⟨.c, .a⟩], []⟩]) .skip))))) (.reg [⟨some ⟨.c, .c⟩, none, .bin .add (.t ⟨.a, .p⟩) (.c (.c (.i .i64 (.ofNat 1)))), []⟩, ⟨some ⟨.a, .p⟩, none, .mv (.t ⟨.c,
  .c⟩), []⟩]))))))) (.seq (.reg [⟨some ⟨.c, .e⟩, none, .bld [.i .i64 (.ofNat 0), .s [], .s [], .sl none 0 0 0, .b false] [(0, (1, .c (.c (.i .i64 (.ofNat 6)))))], []⟩, ⟨some ⟨.c, .f⟩, none, .call 26
  [.t ⟨.a, .e⟩, .t ⟨.c, .e⟩], []⟩]) (.seq (.seq (.reg [⟨some ⟨.c, .h⟩, none, .nc (.t ⟨.a, .e⟩), []⟩, ⟨some ⟨.c, .i⟩, none, .fa 2 (.t ⟨.c, .h⟩), []⟩, ⟨some ⟨.c, .j⟩, none, .ld 1 false (.t ⟨.c, .i⟩),
  []⟩, ⟨some ⟨.c, .k⟩, none, .bin .gtr (.t ⟨.c, .j⟩) (.c (.c (.i .i64 (.ofNat 300)))), []⟩]) (.cond (.t ⟨.c, .k⟩) (.seq (.reg [⟨some ⟨.c, .l⟩, none, .bld [.i .i64 (.ofNat 0), .s [], .s [], .sl none 0 0
  0, .sl none 0 0 0] [], []⟩, ⟨none, none, .st 5 (.t ⟨.a, .c⟩) (.t ⟨.c, .l⟩), []⟩, ⟨some ⟨.a, .d⟩, none, .mv (.c (.c (.i .i64 (.ofNat 2)))), []⟩]) .ret) .skip)) (.seq (.reg [⟨some ⟨.c, .n⟩, none, .nc
  (.t ⟨.a, .e⟩), []⟩, ⟨some ⟨.c, .o⟩, none, .fa 0 (.t ⟨.c, .n⟩), []⟩, ⟨some ⟨.c, .p⟩, none, .ld 1 false (.t ⟨.c, .o⟩), []⟩, ⟨some ⟨.d, .a⟩, none, .call 27 [.t ⟨.c, .p⟩], []⟩, ⟨some ⟨.a, .h⟩, none, .new
  28 (.c (.a [.i .i64 (.ofNat 0), .s [], .s [], .sl none 0 0 0, .sl none 0 0 0])), []⟩, ⟨none, none, .st 5 (.t ⟨.a, .h⟩) (.t ⟨.d, .a⟩), []⟩]) (.seq (.seq (.reg [⟨some ⟨.d, .b⟩, none, .ld 5 true (.t
  ⟨.a, .h⟩), []⟩, ⟨some ⟨.d, .c⟩, none, .call 28 [.t ⟨.d, .b⟩], []⟩, ⟨some ⟨.d, .d⟩, none, .un .not (.t ⟨.d, .c⟩), []⟩]) (.cond (.t ⟨.d, .d⟩) (.seq (.reg [⟨some ⟨.d, .e⟩, none, .bld [.i .i64 (.ofNat
  0), .s [], .s [], .sl none 0 0 0, .sl none 0 0 0] [], []⟩, ⟨none, none, .st 5 (.t ⟨.a, .c⟩) (.t ⟨.d, .e⟩), []⟩, ⟨some ⟨.a, .d⟩, none, .mv (.c (.c (.i .i64 (.ofNat 2)))), []⟩]) .ret) .skip)) (.seq
  (.reg [⟨some ⟨.d, .f⟩, none, .ld 5 true (.t ⟨.a, .h⟩), []⟩, ⟨none, none, .st 5 (.t ⟨.a, .c⟩) (.t ⟨.d, .f⟩), []⟩, ⟨some ⟨.a, .d⟩, none, .mv (.c (.c (.i .i64 (.ofNat 0)))), []⟩]) .ret)))))))), [(⟨.a,
  .c⟩, some (5, true)), (⟨.a, .d⟩, none)]⟩

theorem ok16 : FnR Go.Proofs.Tryz.prog 0 16 cf16 := fnC_ok [31, 35, 38, 44] Go.Proofs.Tryz.func16 (by kernel_rfl) (by kernel_rfl)

def cf21 : CF := ⟨57, 1, .seq (.reg [⟨some ⟨.a, .c⟩, none, .mv (.c (.c (.sl none 0 0 0))), []⟩]) (.seq (.reg [⟨some ⟨.a, .l⟩, none, .call 33 [.t ⟨.a, .a⟩], []⟩, ⟨some ⟨.a, .d⟩, none, .mv (.t ⟨.a, .l⟩), []⟩]) (.seq
  (.reg [⟨some ⟨.a, .e⟩, none, .mv (.c (.c (.sl none 0 0 0))), []⟩]) (.seq (.reg [⟨some ⟨.a, .f⟩, none, .mv (.c (.c (.s []))), []⟩]) (.seq (.reg [⟨some ⟨.a, .g⟩, none, .mv (.c (.c (.i .i64 (.ofNat
  0)))), []⟩]) (.blk 0 (.loop (.blk 1 (.seq (.reg [⟨some ⟨.b, .a⟩, none, .call 34 [.t ⟨.a, .d⟩, .t ⟨.a, .g⟩, .t ⟨.a, .f⟩], []⟩, ⟨some ⟨.b, .b⟩, none, .ext 0 (.t ⟨.b, .a⟩), []⟩, ⟨some ⟨.b, .c⟩, none,
  .ext 1 (.t ⟨.b, .a⟩), []⟩, ⟨some ⟨.b, .d⟩, none, .ext 2 (.t ⟨.b, .a⟩), []⟩, ⟨some ⟨.a, .h⟩, none, .new 56 (.c (.a [.i .i64 (.ofNat 0), .s [], .s [], .sl none 0 0 0, .b false])), []⟩, ⟨none, none, .st
  5 (.t ⟨.a, .h⟩) (.t ⟨.b, .b⟩), []⟩, ⟨some ⟨.a, .i⟩, none, .mv (.t ⟨.b, .c⟩), []⟩, ⟨some ⟨.a, .j⟩, none, .mv (.t ⟨.b, .d⟩), []⟩]) (.seq (.reg [⟨some ⟨.a, .g⟩, none, .mv (.t ⟨.a, .i⟩), []⟩]) (.seq
  (.seq (.reg [⟨some ⟨.b, .g⟩, none, .un .not (.t ⟨.a, .j⟩), []⟩]) (.cond (.t ⟨.b, .g⟩) (.exit 1) .skip)) (.seq (.reg [⟨some ⟨.b, .i⟩, none, .ld 5 true (.t ⟨.a, .h⟩), []⟩, ⟨some ⟨.b, .j⟩, none, .bsl 56
  5 1 [.i .i64 (.ofNat 0), .s [], .s [], .sl none 0 0 0, .b false] [(0, (5, .t ⟨.b, .i⟩))], []⟩, ⟨some ⟨.b, .k⟩, none, .app 56 5 false (.t ⟨.a, .e⟩) (.t ⟨.b, .j⟩), []⟩, ⟨some ⟨.a, .e⟩, none, .mv (.t
  ⟨.b, .k⟩), []⟩]) (.blk 2 (.seq (.reg [⟨some ⟨.b, .m⟩, none, .fa 0 (.t ⟨.a, .h⟩), []⟩, ⟨some ⟨.b, .n⟩, none, .ld 1 false (.t ⟨.b, .m⟩), []⟩, ⟨some ⟨.b, .o⟩, none, .bin .eql (.t ⟨.b, .n⟩) (.c (.c (.i
  .i64 (.ofNat 6)))), []⟩, ⟨some ⟨.b, .l⟩, none, .mv (.t ⟨.b, .o⟩), []⟩]) (.cond (.t ⟨.b, .l⟩) (.seq (.reg [⟨some ⟨.a, .c⟩, none, .mv (.t ⟨.a, .e⟩), []⟩]) .ret) (.seq (.reg [⟨some ⟨.c, .b⟩, none, .fa 0
  (.t ⟨.a, .h⟩), []⟩, ⟨some ⟨.c, .c⟩, none, .ld 1 false (.t ⟨.c, .b⟩), []⟩, ⟨some ⟨.c, .d⟩, none, .bin .eql (.t ⟨.c, .c⟩) (.c (.c (.i .i64 (.ofNat 1)))), []⟩, ⟨some ⟨.c, .e⟩, none, .mv (.t ⟨.c, .d⟩),
  []⟩, ⟨some ⟨.c, .f⟩, some (⟨.c, .e⟩, true), .fa 1 (.t ⟨.a, .h⟩), []⟩, ⟨some ⟨.c, .g⟩, some (⟨.c, .e⟩, true), .ld 1 false (.t ⟨.c, .f⟩), []⟩, ⟨some ⟨.c, .h⟩, some (⟨.c, .e⟩, true), .call 35 [.t ⟨.c,
  .g⟩], []⟩, ⟨some ⟨.c, .i⟩, some (⟨.c, .e⟩, true), .bin .gtr (.t ⟨.c, .h⟩) (.c (.c (.i .i64 (.ofNat 0)))), []⟩, ⟨some ⟨.c, .j⟩, none, .pk (.t ⟨.c, .e⟩) (.t ⟨.c, .i⟩) (.c (.c (.b false))), []⟩, ⟨some
  ⟨.c, .a⟩, none, .mv (.t ⟨.c, .j⟩), []⟩]) (.cond (.t ⟨.c, .a⟩) (.reg [⟨some ⟨.c, .k⟩, none, .fa 1 (.t ⟨.a, .h⟩), []⟩, ⟨some ⟨.c, .l⟩, none, .ld 1 false (.t ⟨.c, .k⟩), []⟩, ⟨some ⟨.a, .f⟩, none, .mv
  (.t ⟨.c, .l⟩), []⟩]) (.seq (.seq (.reg [⟨some ⟨.c, .n⟩, none, .fa 0 (.t ⟨.a, .h⟩), []⟩, ⟨some ⟨.c, .o⟩, none, .ld 1 false (.t ⟨.c, .n⟩), []⟩, ⟨some ⟨.c, .p⟩, none, .bin .eql (.t ⟨.c, .o⟩) (.c (.c (.i
  .i64 (.ofNat 1)))), []⟩, ⟨some ⟨.c, .m⟩, none, .mv (.t ⟨.c, .p⟩), []⟩]) (.cond (.t ⟨.c, .m⟩) .skip (.reg [⟨some ⟨.d, .a⟩, none, .fa 0 (.t ⟨.a, .h⟩), []⟩, ⟨some ⟨.d, .b⟩, none, .ld 1 false (.t ⟨.d,
  .a⟩), []⟩, ⟨some ⟨.d, .c⟩, none, .bin .eql (.t ⟨.d, .b⟩) (.c (.c (.i .i64 (.ofNat 2)))), []⟩, ⟨some ⟨.d, .d⟩, none, .mv (.t ⟨.d, .c⟩), []⟩, ⟨some ⟨.d, .e⟩, some (⟨.d, .d⟩, true), .fa 1 (.t ⟨.a, .h⟩),
  []⟩, ⟨some ⟨.d, .f⟩, some (⟨.d, .d⟩, true), .ld 1 false (.t ⟨.d, .e⟩), []⟩, ⟨some ⟨.d, .g⟩, some (⟨.d, .d⟩, true), .mv (.t ⟨.a, .f⟩), []⟩, ⟨some ⟨.d, .h⟩, some (⟨.d, .d⟩, true), .bin .eql (.t ⟨.d,
  .f⟩) (.t ⟨.d, .g⟩), []⟩, ⟨some ⟨.d, .i⟩, none, .pk (.t ⟨.d, .d⟩) (.t ⟨.d, .h⟩) (.c (.c (.b false))), []⟩, ⟨some ⟨.c, .m⟩, none, .mv (.t ⟨.d, .i⟩), []⟩]))) (.cond (.t ⟨.c, .m⟩) (.reg [⟨some ⟨.a, .f⟩,
  none, .mv (.c (.c (.s []))), []⟩]) .skip)))))))))))))))))), [(⟨.a, .c⟩, none)]⟩

theorem ok21 : FnR Go.Proofs.Tryz.prog 0 21 cf21 := fnC_ok [10, 12, 13, 14, 15, 20, 21, 23, 31] Go.Proofs.Tryz.func21 (by kernel_rfl) (by kernel_rfl)

def cf22 : CF := ⟨21, 1, .seq (.reg [⟨some ⟨.a, .b⟩, none, .new 28 (.t ⟨.a, .a⟩), []⟩, ⟨some ⟨.a, .c⟩, none, .mv (.c (.c (.i .i64 (.ofNat 0)))), []⟩]) (.seq (.reg [⟨some ⟨.a, .d⟩, none, .mv (.c (.c (.i .i64 (.ofNat
  1)))), []⟩]) (.seq (.seq (.reg [⟨some ⟨.a, .e⟩, none, .mv (.c (.c (.i .i64 (.ofNat 0)))), []⟩]) (.blk 0 (.loop (.seq (.seq (.reg [⟨some ⟨.a, .g⟩, none, .fa 4 (.t ⟨.a, .b⟩), []⟩, ⟨some ⟨.a, .h⟩, none,
  .ld 1 false (.t ⟨.a, .g⟩), []⟩, ⟨some ⟨.a, .i⟩, none, .len true (.t ⟨.a, .h⟩), []⟩, ⟨some ⟨.a, .j⟩, none, .bin .lss (.t ⟨.a, .e⟩) (.t ⟨.a, .i⟩), []⟩]) (.cond (.t ⟨.a, .j⟩) .skip (.exit 0))) (.seq
  (.blk 1 (.reg [⟨some ⟨.a, .n⟩, none, .fa 4 (.t ⟨.a, .b⟩), []⟩, ⟨some ⟨.a, .o⟩, none, .ld 1 false (.t ⟨.a, .n⟩), []⟩, ⟨some ⟨.b, .a⟩, none, .ia 5 (.t ⟨.a, .o⟩) (.t ⟨.a, .e⟩), []⟩, ⟨some ⟨.b, .b⟩,
  none, .ld 5 true (.t ⟨.b, .a⟩), []⟩, ⟨some ⟨.b, .c⟩, none, .call 22 [.t ⟨.b, .b⟩], []⟩, ⟨some ⟨.b, .d⟩, none, .bin .add (.t ⟨.a, .d⟩) (.t ⟨.b, .c⟩), []⟩, ⟨some ⟨.a, .d⟩, none, .mv (.t ⟨.b, .d⟩),
  []⟩])) (.reg [⟨some ⟨.a, .l⟩, none, .bin .add (.t ⟨.a, .e⟩) (.c (.c (.i .i64 (.ofNat 1)))), []⟩, ⟨some ⟨.a, .e⟩, none, .mv (.t ⟨.a, .l⟩), []⟩])))))) (.seq (.reg [⟨some ⟨.a, .c⟩, none, .mv (.t ⟨.a,
  .d⟩), []⟩]) .ret))), [(⟨.a, .c⟩, none)]⟩

theorem ok22 : FnR Go.Proofs.Tryz.prog 0 22 cf22 := fnC_ok [5, 10, 12, 15, 20] Go.Proofs.Tryz.func22 (by kernel_rfl) (by kernel_rfl)

def cf23 : CF := ⟨48, 1, .seq (.reg [⟨some ⟨.a, .c⟩, none, .mv (.c (.c (.sl none 0 0 0))), []⟩, ⟨some ⟨.a, .d⟩, none, .mv (.c (.c (.b false))), []⟩]) (.seq (.reg [⟨some ⟨.a, .i⟩, none, .call 21 [.t ⟨.a, .a⟩], []⟩,
  ⟨some ⟨.a, .j⟩, none, .call 16 [.t ⟨.a, .i⟩], []⟩, ⟨some ⟨.a, .k⟩, none, .ext 0 (.t ⟨.a, .j⟩), []⟩, ⟨some ⟨.a, .l⟩, none, .ext 1 (.t ⟨.a, .j⟩), []⟩, ⟨some ⟨.a, .e⟩, none, .new 28 (.c (.a [.i .i64
  (.ofNat 0), .s [], .s [], .sl none 0 0 0, .sl none 0 0 0])), []⟩, ⟨none, none, .st 5 (.t ⟨.a, .e⟩) (.t ⟨.a, .k⟩), []⟩, ⟨some ⟨.a, .f⟩, none, .mv (.t ⟨.a, .l⟩), []⟩]) (.seq (.seq (.reg [⟨some ⟨.a,
  .n⟩, none, .bin .neq (.t ⟨.a, .f⟩) (.c (.c (.i .i64 (.ofNat 0)))), []⟩, ⟨some ⟨.a, .o⟩, none, .mv (.t ⟨.a, .n⟩), []⟩, ⟨some ⟨.a, .p⟩, some (⟨.a, .o⟩, false), .fa 4 (.t ⟨.a, .e⟩), []⟩, ⟨some ⟨.b, .a⟩,
  some (⟨.a, .o⟩, false), .ld 1 false (.t ⟨.a, .p⟩), []⟩, ⟨some ⟨.b, .b⟩, some (⟨.a, .o⟩, false), .len true (.t ⟨.b, .a⟩), []⟩, ⟨some ⟨.b, .c⟩, some (⟨.a, .o⟩, false), .bin .neq (.t ⟨.b, .b⟩) (.c (.c
  (.i .i64 (.ofNat 1)))), []⟩, ⟨some ⟨.b, .d⟩, none, .pk (.t ⟨.a, .o⟩) (.c (.c (.b true))) (.t ⟨.b, .c⟩), []⟩, ⟨some ⟨.b, .e⟩, none, .mv (.t ⟨.b, .d⟩), []⟩, ⟨some ⟨.b, .f⟩, some (⟨.b, .e⟩, false), .fa
  4 (.t ⟨.a, .e⟩), []⟩, ⟨some ⟨.b, .g⟩, some (⟨.b, .e⟩, false), .ld 1 false (.t ⟨.b, .f⟩), []⟩, ⟨some ⟨.b, .h⟩, some (⟨.b, .e⟩, false), .ia 5 (.t ⟨.b, .g⟩) (.c (.c (.i .i64 (.ofNat 0)))), []⟩, ⟨some
  ⟨.b, .i⟩, some (⟨.b, .e⟩, false), .fa 4 (.t ⟨.b, .h⟩), []⟩, ⟨some ⟨.b, .j⟩, some (⟨.b, .e⟩, false), .ld 1 false (.t ⟨.b, .i⟩), []⟩, ⟨some ⟨.b, .k⟩, some (⟨.b, .e⟩, false), .len true (.t ⟨.b, .j⟩),
  []⟩, ⟨some ⟨.b, .l⟩, some (⟨.b, .e⟩, false), .bin .neq (.t ⟨.b, .k⟩) (.c (.c (.i .i64 (.ofNat 2)))), []⟩, ⟨some ⟨.b, .m⟩, none, .pk (.t ⟨.b, .e⟩) (.c (.c (.b true))) (.t ⟨.b, .l⟩), []⟩, ⟨some ⟨.b,
  .n⟩, none, .mv (.t ⟨.b, .m⟩), []⟩, ⟨some ⟨.b, .o⟩, some (⟨.b, .n⟩, false), .fa 4 (.t ⟨.a, .e⟩), []⟩, ⟨some ⟨.b, .p⟩, some (⟨.b, .n⟩, false), .ld 1 false (.t ⟨.b, .o⟩), []⟩, ⟨some ⟨.c, .a⟩, some (⟨.b,
  .n⟩, false), .ia 5 (.t ⟨.b, .p⟩) (.c (.c (.i .i64 (.ofNat 0)))), []⟩, ⟨some ⟨.c, .b⟩, some (⟨.b, .n⟩, false), .fa 4 (.t ⟨.c, .a⟩), []⟩, ⟨some ⟨.c, .c⟩, some (⟨.b, .n⟩, false), .ld 1 false (.t ⟨.c,
  .b⟩), []⟩, ⟨some ⟨.c, .d⟩, some (⟨.b, .n⟩, false), .ia 5 (.t ⟨.c, .c⟩) (.c (.c (.i .i64 (.ofNat 1)))), []⟩, ⟨some ⟨.c, .e⟩, some (⟨.b, .n⟩, false), .fa 1 (.t ⟨.c, .d⟩), []⟩, ⟨some ⟨.c, .f⟩, some
  (⟨.b, .n⟩, false), .ld 1 false (.t ⟨.c, .e⟩), []⟩, ⟨some ⟨.c, .g⟩, some (⟨.b, .n⟩, false), .bin .neq (.t ⟨.c, .f⟩) (.c (.c (.s [98, 111, 100, 121]))), []⟩, ⟨some ⟨.c, .h⟩, none, .pk (.t ⟨.b, .n⟩) (.c
  (.c (.b true))) (.t ⟨.c, .g⟩), []⟩]) (.cond (.t ⟨.c, .h⟩) (.seq (.reg [⟨some ⟨.a, .c⟩, none, .mv (.c (.c (.sl none 0 0 0))), []⟩, ⟨some ⟨.a, .d⟩, none, .mv (.c (.c (.b false))), []⟩]) .ret) .skip))
  (.seq (.reg [⟨some ⟨.c, .i⟩, none, .fa 4 (.t ⟨.a, .e⟩), []⟩, ⟨some ⟨.c, .j⟩, none, .ld 1 false (.t ⟨.c, .i⟩), []⟩, ⟨some ⟨.c, .k⟩, none, .ia 5 (.t ⟨.c, .j⟩) (.c (.c (.i .i64 (.ofNat 0)))), []⟩, ⟨some
  ⟨.c, .l⟩, none, .fa 4 (.t ⟨.c, .k⟩), []⟩, ⟨some ⟨.c, .m⟩, none, .ld 1 false (.t ⟨.c, .l⟩), []⟩, ⟨some ⟨.c, .n⟩, none, .ia 5 (.t ⟨.c, .m⟩) (.c (.c (.i .i64 (.ofNat 1)))), []⟩, ⟨some ⟨.c, .o⟩, none,
  .fa 4 (.t ⟨.c, .n⟩), []⟩, ⟨some ⟨.c, .p⟩, none, .ld 1 false (.t ⟨.c, .o⟩), []⟩, ⟨some ⟨.a, .c⟩, none, .mv (.t ⟨.c, .p⟩), []⟩, ⟨some ⟨.a, .d⟩, none, .mv (.c (.c (.b true))), []⟩]) .ret))), [(⟨.a, .c⟩,
  none), (⟨.a, .d⟩, none)]⟩

theorem ok23 : FnR Go.Proofs.Tryz.prog 0 23 cf23 := fnC_ok [6, 7, 12] Go.Proofs.Tryz.func23 (by kernel_rfl) (by kernel_rfl)

def cf24 : CF := ⟨3, 0, .seq (.reg [⟨some ⟨.a, .a⟩, none, .mv (.c (.c (.p none))), []⟩]) (.seq (.reg [⟨some ⟨.a, .b⟩, none, .bld [.sl none 0 0 0] [], []⟩, ⟨some ⟨.a, .c⟩, none, .new 78 (.t ⟨.a, .b⟩), []⟩, ⟨some ⟨.a,
  .a⟩, none, .mv (.t ⟨.a, .c⟩), []⟩]) .ret), [(⟨.a, .a⟩, none)]⟩

theorem ok24 : FnR Go.Proofs.Tryz.prog 0 24 cf24 := fnC_ok [] Go.Proofs.Tryz.func24 (by kernel_rfl) (by kernel_rfl)

def cf25 : CF := ⟨28, 1, .seq (.reg [⟨some ⟨.a, .b⟩, none, .new 56 (.t ⟨.a, .a⟩), []⟩, ⟨some ⟨.a, .c⟩, none, .mv (.c (.c (.b false))), []⟩]) (.seq (.seq (.reg [⟨some ⟨.a, .d⟩, none, .fa 0 (.t ⟨.a, .b⟩), []⟩, ⟨some
  ⟨.a, .e⟩, none, .ld 1 false (.t ⟨.a, .d⟩), []⟩]) (.blk 0 (.seq (.reg [⟨some ⟨.a, .g⟩, none, .bin .eql (.t ⟨.a, .e⟩) (.c (.c (.i .i64 (.ofNat 1)))), []⟩, ⟨some ⟨.a, .f⟩, none, .mv (.t ⟨.a, .g⟩), []⟩])
  (.cond (.t ⟨.a, .f⟩) (.seq (.reg [⟨some ⟨.a, .h⟩, none, .fa 1 (.t ⟨.a, .b⟩), []⟩, ⟨some ⟨.a, .i⟩, none, .ld 1 false (.t ⟨.a, .h⟩), []⟩, ⟨some ⟨.a, .j⟩, none, .call 36 [.t ⟨.a, .i⟩], []⟩, ⟨some ⟨.a,
  .c⟩, none, .mv (.t ⟨.a, .j⟩), []⟩]) .ret) (.seq (.reg [⟨some ⟨.a, .l⟩, none, .bin .eql (.t ⟨.a, .e⟩) (.c (.c (.i .i64 (.ofNat 3)))), []⟩, ⟨some ⟨.a, .k⟩, none, .mv (.t ⟨.a, .l⟩), []⟩]) (.cond (.t
  ⟨.a, .k⟩) (.seq (.reg [⟨some ⟨.a, .m⟩, none, .fa 2 (.t ⟨.a, .b⟩), []⟩, ⟨some ⟨.a, .n⟩, none, .ld 1 false (.t ⟨.a, .m⟩), []⟩, ⟨some ⟨.a, .o⟩, none, .bin .neq (.t ⟨.a, .n⟩) (.c (.c (.s []))), []⟩,
  ⟨some ⟨.a, .c⟩, none, .mv (.t ⟨.a, .o⟩), []⟩]) .ret) .skip)))))) (.seq (.reg [⟨some ⟨.a, .p⟩, none, .fa 0 (.t ⟨.a, .b⟩), []⟩, ⟨some ⟨.b, .a⟩, none, .ld 1 false (.t ⟨.a, .p⟩), []⟩, ⟨some ⟨.b, .b⟩,
  none, .bin .eql (.t ⟨.b, .a⟩) (.c (.c (.i .i64 (.ofNat 2)))), []⟩, ⟨some ⟨.b, .c⟩, none, .mv (.t ⟨.b, .b⟩), []⟩, ⟨some ⟨.b, .d⟩, some (⟨.b, .c⟩, false), .fa 0 (.t ⟨.a, .b⟩), []⟩, ⟨some ⟨.b, .e⟩, some
  (⟨.b, .c⟩, false), .ld 1 false (.t ⟨.b, .d⟩), []⟩, ⟨some ⟨.b, .f⟩, some (⟨.b, .c⟩, false), .bin .eql (.t ⟨.b, .e⟩) (.c (.c (.i .i64 (.ofNat 4)))), []⟩, ⟨some ⟨.b, .g⟩, none, .pk (.t ⟨.b, .c⟩) (.c (.c
  (.b true))) (.t ⟨.b, .f⟩), []⟩, ⟨some ⟨.b, .h⟩, none, .mv (.t ⟨.b, .g⟩), []⟩, ⟨some ⟨.b, .i⟩, some (⟨.b, .h⟩, false), .fa 0 (.t ⟨.a, .b⟩), []⟩, ⟨some ⟨.b, .j⟩, some (⟨.b, .h⟩, false), .ld 1 false (.t
  ⟨.b, .i⟩), []⟩, ⟨some ⟨.b, .k⟩, some (⟨.b, .h⟩, false), .bin .eql (.t ⟨.b, .j⟩) (.c (.c (.i .i64 (.ofNat 5)))), []⟩, ⟨some ⟨.b, .l⟩, none, .pk (.t ⟨.b, .h⟩) (.c (.c (.b true))) (.t ⟨.b, .k⟩), []⟩,
  ⟨some ⟨.a, .c⟩, none, .mv (.t ⟨.b, .l⟩), []⟩]) .ret)), [(⟨.a, .c⟩, none)]⟩

theorem ok25 : FnR Go.Proofs.Tryz.prog 0 25 cf25 := fnC_ok [] Go.Proofs.Tryz.func25 (by kernel_rfl) (by kernel_rfl)

def cf26 : CF := ⟨55, 2, .seq (.reg [⟨some ⟨.a, .d⟩, none, .new 56 (.t ⟨.a, .b⟩), []⟩]) (.seq (.seq (.reg [⟨some ⟨.a, .f⟩, none, .nc (.t ⟨.a, .a⟩), []⟩, ⟨some ⟨.a, .g⟩, none, .fa 7 (.t ⟨.a, .f⟩), []⟩, ⟨some ⟨.a, .h⟩,
  none, .ld 1 false (.t ⟨.a, .g⟩), []⟩, ⟨some ⟨.a, .i⟩, none, .mv (.t ⟨.a, .h⟩), []⟩, ⟨some ⟨.a, .j⟩, some (⟨.a, .i⟩, true), .fa 0 (.t ⟨.a, .d⟩), []⟩, ⟨some ⟨.a, .k⟩, some (⟨.a, .i⟩, true), .ld 1 false
  (.t ⟨.a, .j⟩), []⟩, ⟨some ⟨.a, .l⟩, some (⟨.a, .i⟩, true), .bin .eql (.t ⟨.a, .k⟩) (.c (.c (.i .i64 (.ofNat 3)))), []⟩, ⟨some ⟨.a, .m⟩, none, .pk (.t ⟨.a, .i⟩) (.t ⟨.a, .l⟩) (.c (.c (.b false))),
  []⟩]) (.cond (.t ⟨.a, .m⟩) (.reg [⟨some ⟨.a, .n⟩, none, .fa 2 (.t ⟨.a, .d⟩), []⟩, ⟨some ⟨.a, .o⟩, none, .ld 1 false (.t ⟨.a, .n⟩), []⟩, ⟨some ⟨.a, .p⟩, none, .call 37 [.t ⟨.a, .o⟩, .c (.c (.s
  [10]))], []⟩, ⟨some ⟨.b, .a⟩, none, .fa 2 (.t ⟨.a, .d⟩), []⟩, ⟨none, none, .st 1 (.t ⟨.b, .a⟩) (.t ⟨.a, .p⟩), []⟩]) .skip)) (.seq (.reg [⟨some ⟨.b, .c⟩, none, .fa 0 (.t ⟨.a, .d⟩), []⟩, ⟨some ⟨.b,
  .d⟩, none, .ld 1 false (.t ⟨.b, .c⟩), []⟩, ⟨some ⟨.b, .e⟩, none, .bin .eql (.t ⟨.b, .d⟩) (.c (.c (.i .i64 (.ofNat 1)))), []⟩, ⟨some ⟨.b, .f⟩, none, .mv (.t ⟨.b, .e⟩), []⟩, ⟨some ⟨.b, .g⟩, some (⟨.b,
  .f⟩, true), .fa 1 (.t ⟨.a, .d⟩), []⟩, ⟨some ⟨.b, .h⟩, some (⟨.b, .f⟩, true), .ld 1 false (.t ⟨.b, .g⟩), []⟩, ⟨some ⟨.b, .i⟩, some (⟨.b, .f⟩, true), .bsl 9 1 3 [.s [], .s [], .s []] [(0, (1, .c (.c
  (.s [116, 101, 120, 116, 97, 114, 101, 97])))), (1, (1, .c (.c (.s [112, 114, 101])))), (2, (1, .c (.c (.s [108, 105, 115, 116, 105, 110, 103]))))], []⟩, ⟨some ⟨.b, .j⟩, some (⟨.b, .f⟩, true), .call
  38 [.t ⟨.b, .h⟩, .t ⟨.b, .i⟩], []⟩, ⟨some ⟨.b, .k⟩, none, .pk (.t ⟨.b, .f⟩) (.t ⟨.b, .j⟩) (.c (.c (.b false))), []⟩, ⟨some ⟨.b, .l⟩, none, .nc (.t ⟨.a, .a⟩), []⟩, ⟨some ⟨.b, .m⟩, none, .fa 7 (.t ⟨.b,
  .l⟩), []⟩, ⟨none, none, .st 1 (.t ⟨.b, .m⟩) (.t ⟨.b, .k⟩), []⟩]) (.seq (.seq (.reg [⟨some ⟨.b, .n⟩, none, .fa 0 (.t ⟨.a, .d⟩), []⟩, ⟨some ⟨.b, .o⟩, none, .ld 1 false (.t ⟨.b, .n⟩), []⟩, ⟨some ⟨.b,
  .p⟩, none, .bin .eql (.t ⟨.b, .o⟩) (.c (.c (.i .i64 (.ofNat 3)))), []⟩, ⟨some ⟨.c, .a⟩, none, .mv (.t ⟨.b, .p⟩), []⟩, ⟨some ⟨.c, .b⟩, some (⟨.c, .a⟩, true), .fa 2 (.t ⟨.a, .d⟩), []⟩, ⟨some ⟨.c, .c⟩,
  some (⟨.c, .a⟩, true), .ld 1 false (.t ⟨.c, .b⟩), []⟩, ⟨some ⟨.c, .d⟩, some (⟨.c, .a⟩, true), .bin .eql (.t ⟨.c, .c⟩) (.c (.c (.s []))), []⟩, ⟨some ⟨.c, .e⟩, none, .pk (.t ⟨.c, .a⟩) (.t ⟨.c, .d⟩) (.c
  (.c (.b false))), []⟩]) (.cond (.t ⟨.c, .e⟩) .ret .skip)) (.seq (.reg [⟨some ⟨.c, .f⟩, none, .fa 3 (.t ⟨.a, .d⟩), []⟩, ⟨some ⟨.c, .g⟩, none, .ld 1 false (.t ⟨.c, .f⟩), []⟩, ⟨some ⟨.c, .h⟩, none,
  .call 40 [.t ⟨.c, .g⟩], []⟩, ⟨some ⟨.c, .i⟩, none, .call 39 [.t ⟨.c, .h⟩, .c (.c (.f 41 []))], []⟩, ⟨some ⟨.c, .j⟩, none, .fa 3 (.t ⟨.a, .d⟩), []⟩, ⟨none, none, .st 1 (.t ⟨.c, .j⟩) (.t ⟨.c, .i⟩),
  []⟩]) (.seq (.blk 0 (.loop (.seq (.seq (.reg [⟨some ⟨.c, .l⟩, none, .nc (.t ⟨.a, .a⟩), []⟩, ⟨some ⟨.c, .m⟩, none, .fa 2 (.t ⟨.c, .l⟩), []⟩, ⟨some ⟨.c, .n⟩, none, .ld 1 false (.t ⟨.c, .m⟩), []⟩, ⟨some
  ⟨.c, .o⟩, none, .bin .leq (.t ⟨.c, .n⟩) (.c (.c (.i .i64 (.ofNat 300)))), []⟩, ⟨some ⟨.c, .p⟩, none, .mv (.t ⟨.c, .o⟩), []⟩, ⟨some ⟨.d, .a⟩, some (⟨.c, .p⟩, true), .mv (.t ⟨.a, .a⟩), []⟩, ⟨some ⟨.d,
  .b⟩, some (⟨.c, .p⟩, true), .ld 5 true (.t ⟨.a, .d⟩), []⟩, ⟨some ⟨.d, .c⟩, some (⟨.c, .p⟩, true), .call 42 [.t ⟨.d, .a⟩, .t ⟨.d, .b⟩], []⟩, ⟨some ⟨.d, .d⟩, none, .pk (.t ⟨.c, .p⟩) (.t ⟨.d, .c⟩) (.c
  (.c (.b false))), []⟩]) (.cond (.t ⟨.d, .d⟩) .skip (.exit 0))) (.blk 1 .skip)))) (.reg [⟨some ⟨.d, .f⟩, none, .nc (.t ⟨.a, .a⟩), []⟩, ⟨some ⟨.d, .g⟩, none, .fa 6 (.t ⟨.d, .f⟩), []⟩, ⟨none, none, .st
  1 (.t ⟨.d, .g⟩) (.c (.c (.b false))), []⟩])))))), []⟩

theorem ok26 : FnR Go.Proofs.Tryz.prog 0 26 cf26 := fnC_ok [4, 17, 42, 52] Go.Proofs.Tryz.func26 (by kernel_rfl) (by kernel_rfl)

def cf27 : CF := ⟨41, 1, .seq (.reg [⟨some ⟨.a, .c⟩, none, .new 28 (.c (.a [.i .i64 (.ofNat 0), .s [], .s [], .sl none 0 0 0, .sl none 0 0 0])), []⟩]) (.seq (.dreg [⟨some ⟨.a, .g⟩, none, .mv (.t ⟨.a, .a⟩), []⟩, ⟨some
  ⟨.a, .h⟩, none, .nc (.t ⟨.a, .g⟩), []⟩, ⟨some ⟨.a, .i⟩, none, .fa 1 (.t ⟨.a, .h⟩), []⟩, ⟨some ⟨.a, .j⟩, none, .ld 1 false (.t ⟨.a, .i⟩), []⟩, ⟨some ⟨.a, .k⟩, none, .mv (.t ⟨.a, .a⟩), []⟩, ⟨some ⟨.a,
  .l⟩, none, .nc (.t ⟨.a, .k⟩), []⟩, ⟨some ⟨.a, .m⟩, none, .fa 2 (.t ⟨.a, .l⟩), []⟩, ⟨some ⟨.a, .n⟩, none, .ld 1 false (.t ⟨.a, .m⟩), []⟩, ⟨some ⟨.a, .o⟩, none, .mv (.t ⟨.a, .a⟩), []⟩, ⟨some ⟨.a, .p⟩,
  none, .nc (.t ⟨.a, .o⟩), []⟩, ⟨some ⟨.b, .a⟩, none, .fa 3 (.t ⟨.a, .p⟩), []⟩, ⟨some ⟨.b, .b⟩, none, .ld 1 false (.t ⟨.b, .a⟩), []⟩, ⟨some ⟨.b, .c⟩, none, .mv (.t ⟨.a, .a⟩), []⟩, ⟨some ⟨.b, .d⟩, none,
  .nc (.t ⟨.b, .c⟩), []⟩, ⟨some ⟨.b, .e⟩, none, .fa 4 (.t ⟨.b, .d⟩), []⟩, ⟨some ⟨.b, .f⟩, none, .ld 1 false (.t ⟨.b, .e⟩), []⟩, ⟨some ⟨.b, .g⟩, none, .bld [.i .i64 (.ofNat 0), .s [], .s [], .sl none 0
  0 0, .sl none 0 0 0] [(0, (1, .t ⟨.a, .j⟩)), (1, (1, .t ⟨.a, .n⟩)), (2, (1, .t ⟨.b, .b⟩)), (3, (1, .t ⟨.b, .f⟩))], []⟩, ⟨some ⟨.a, .d⟩, none, .new 28 (.c (.a [.i .i64 (.ofNat 0), .s [], .s [], .sl
  none 0 0 0, .sl none 0 0 0])), []⟩, ⟨none, none, .st 5 (.t ⟨.a, .d⟩) (.t ⟨.b, .g⟩), []⟩]) (.seq (.seq (.reg [⟨some ⟨.b, .i⟩, none, .nc (.t ⟨.a, .a⟩), []⟩, ⟨some ⟨.b, .j⟩, none, .fa 6 (.t ⟨.b, .i⟩),
  []⟩, ⟨some ⟨.b, .k⟩, none, .ld 1 false (.t ⟨.b, .j⟩), []⟩, ⟨some ⟨.b, .l⟩, none, .len true (.t ⟨.b, .k⟩), []⟩, ⟨some ⟨.b, .m⟩, none, .mv (.c (.c (.i .i64 (.ofNat 0)))), []⟩]) (.blk 0 (.loop (.seq
  (.reg [⟨some ⟨.b, .n⟩, none, .bin .lss (.t ⟨.b, .m⟩) (.t ⟨.b, .l⟩), []⟩]) (.seq (.cond (.t ⟨.b, .n⟩) .skip (.exit 0)) (.seq (.blk 1 (.seq (.reg [⟨some ⟨.b, .o⟩, none, .ia 1 (.t ⟨.b, .k⟩) (.t ⟨.b,
  .m⟩), []⟩, ⟨some ⟨.b, .p⟩, none, .ld 1 false (.t ⟨.b, .o⟩), []⟩, ⟨some ⟨.a, .f⟩, none, .mv (.t ⟨.b, .p⟩), []⟩]) (.dreg [⟨some ⟨.c, .a⟩, none, .fa 4 (.t ⟨.a, .d⟩), []⟩, ⟨some ⟨.c, .b⟩, none, .ld 1
  false (.t ⟨.c, .a⟩), []⟩, ⟨some ⟨.c, .c⟩, none, .mv (.t ⟨.a, .f⟩), []⟩, ⟨some ⟨.c, .d⟩, none, .call 27 [.t ⟨.c, .c⟩], [⟨some ⟨.c, .b⟩, none, .ld 1 false (.t ⟨.c, .a⟩)⟩]⟩, ⟨some ⟨.c, .e⟩, none, .bsl
  28 5 1 [.i .i64 (.ofNat 0), .s [], .s [], .sl none 0 0 0, .sl none 0 0 0] [(0, (5, .t ⟨.c, .d⟩))], []⟩, ⟨some ⟨.c, .f⟩, none, .app 28 5 false (.t ⟨.c, .b⟩) (.t ⟨.c, .e⟩), []⟩, ⟨some ⟨.c, .g⟩, none,
  .fa 4 (.t ⟨.a, .d⟩), []⟩, ⟨none, none, .st 1 (.t ⟨.c, .g⟩) (.t ⟨.c, .f⟩), []⟩]))) (.reg [⟨some ⟨.c, .h⟩, none, .bin .add (.t ⟨.b, .m⟩) (.c (.c (.i .i64 (.ofNat 1)))), []⟩, ⟨some ⟨.b, .m⟩, none, .mv
  (.t ⟨.c, .h⟩), []⟩]))))))) (.seq (.reg [⟨some ⟨.c, .i⟩, none, .ld 5 true (.t ⟨.a, .d⟩), []⟩, ⟨none, none, .st 5 (.t ⟨.a, .c⟩) (.t ⟨.c, .i⟩), []⟩]) .ret))), [(⟨.a, .c⟩, some (5, true))]⟩

theorem ok27 : FnR Go.Proofs.Tryz.prog 0 27 cf27 := fnC_ok [23] Go.Proofs.Tryz.func27 (by kernel_rfl) (by kernel_rfl)

def cf28 : CF := ⟨34, 1, .seq (.reg [⟨some ⟨.a, .b⟩, none, .new 28 (.t ⟨.a, .a⟩), []⟩, ⟨some ⟨.a, .c⟩, none, .mv (.c (.c (.b false))), []⟩]) (.seq (.reg [⟨some ⟨.a, .d⟩, none, .fa 0 (.t ⟨.a, .b⟩), []⟩, ⟨some ⟨.a,
  .e⟩, none, .ld 1 false (.t ⟨.a, .d⟩), []⟩, ⟨some ⟨.a, .f⟩, none, .bin .eql (.t ⟨.a, .e⟩) (.c (.c (.i .i64 (.ofNat 1)))), []⟩, ⟨some ⟨.a, .g⟩, none, .mv (.t ⟨.a, .f⟩), []⟩, ⟨some ⟨.a, .h⟩, some (⟨.a,
  .g⟩, true), .ld 5 true (.t ⟨.a, .b⟩), []⟩, ⟨some ⟨.a, .i⟩, some (⟨.a, .g⟩, true), .call 43 [.t ⟨.a, .h⟩], []⟩, ⟨some ⟨.a, .j⟩, some (⟨.a, .g⟩, true), .bin .leq (.t ⟨.a, .i⟩) (.c (.c (.i .i64 (.ofNat
  300)))), []⟩, ⟨some ⟨.a, .k⟩, none, .pk (.t ⟨.a, .g⟩) (.t ⟨.a, .j⟩) (.c (.c (.b false))), []⟩, ⟨some ⟨.a, .l⟩, none, .mv (.t ⟨.a, .k⟩), []⟩, ⟨some ⟨.a, .m⟩, some (⟨.a, .l⟩, true), .ld 5 true (.t ⟨.a,
  .b⟩), []⟩, ⟨some ⟨.a, .n⟩, some (⟨.a, .l⟩, true), .call 44 [.t ⟨.a, .m⟩], []⟩, ⟨some ⟨.a, .o⟩, some (⟨.a, .l⟩, true), .bin .leq (.t ⟨.a, .n⟩) (.c (.c (.i .i64 (.ofNat 60)))), []⟩, ⟨some ⟨.a, .p⟩,
  none, .pk (.t ⟨.a, .l⟩) (.t ⟨.a, .o⟩) (.c (.c (.b false))), []⟩, ⟨some ⟨.b, .a⟩, none, .mv (.t ⟨.a, .p⟩), []⟩, ⟨some ⟨.b, .b⟩, some (⟨.b, .a⟩, true), .fa 1 (.t ⟨.a, .b⟩), []⟩, ⟨some ⟨.b, .c⟩, some
  (⟨.b, .a⟩, true), .ld 1 false (.t ⟨.b, .b⟩), []⟩, ⟨some ⟨.b, .d⟩, some (⟨.b, .a⟩, true), .fa 2 (.t ⟨.a, .b⟩), []⟩, ⟨some ⟨.b, .e⟩, some (⟨.b, .a⟩, true), .ld 1 false (.t ⟨.b, .d⟩), []⟩, ⟨some ⟨.b,
  .f⟩, some (⟨.b, .a⟩, true), .bsl 9 1 2 [.s [], .s []] [(0, (1, .t ⟨.b, .c⟩)), (1, (1, .t ⟨.b, .e⟩))], []⟩, ⟨some ⟨.b, .g⟩, some (⟨.b, .a⟩, true), .call 45 [.t ⟨.b, .f⟩], []⟩, ⟨some ⟨.b, .h⟩, none,
  .pk (.t ⟨.b, .a⟩) (.t ⟨.b, .g⟩) (.c (.c (.b false))), []⟩, ⟨some ⟨.b, .i⟩, none, .mv (.t ⟨.b, .h⟩), []⟩, ⟨some ⟨.b, .j⟩, some (⟨.b, .i⟩, true), .fa 3 (.t ⟨.a, .b⟩), []⟩, ⟨some ⟨.b, .k⟩, some (⟨.b,
  .i⟩, true), .ld 1 false (.t ⟨.b, .j⟩), []⟩, ⟨some ⟨.b, .l⟩, some (⟨.b, .i⟩, true), .len true (.t ⟨.b, .k⟩), []⟩, ⟨some ⟨.b, .m⟩, some (⟨.b, .i⟩, true), .bin .eql (.t ⟨.b, .l⟩) (.c (.c (.i .i64
  (.ofNat 0)))), []⟩, ⟨some ⟨.b, .n⟩, none, .pk (.t ⟨.b, .i⟩) (.t ⟨.b, .m⟩) (.c (.c (.b false))), []⟩, ⟨some ⟨.b, .o⟩, none, .mv (.t ⟨.b, .n⟩), []⟩, ⟨some ⟨.b, .p⟩, some (⟨.b, .o⟩, true), .ld 5 true
  (.t ⟨.a, .b⟩), []⟩, ⟨some ⟨.c, .a⟩, some (⟨.b, .o⟩, true), .call 46 [.t ⟨.b, .p⟩], []⟩, ⟨some ⟨.c, .b⟩, none, .pk (.t ⟨.b, .o⟩) (.t ⟨.c, .a⟩) (.c (.c (.b false))), []⟩, ⟨some ⟨.a, .c⟩, none, .mv (.t
  ⟨.c, .b⟩), []⟩]) .ret), [(⟨.a, .c⟩, none)]⟩

theorem ok28 : FnR Go.Proofs.Tryz.prog 0 28 cf28 := fnC_ok [] Go.Proofs.Tryz.func28 (by kernel_rfl) (by kernel_rfl)

end

end Ev
end

section
namespace Ev

set_option autoImplicit false

noncomputable section

def cf33 : CF := ⟨59, 1, .seq (.reg [⟨some ⟨.a, .c⟩, none, .mv (.c (.c (.s []))), []⟩]) (.seq (.reg [⟨some ⟨.a, .d⟩, none, .mv (.c (.c (.s []))), []⟩]) (.seq (.seq (.reg [⟨some ⟨.a, .e⟩, none, .mv (.c (.c (.i .i64
  (.ofNat 0)))), []⟩]) (.blk 0 (.loop (.seq (.seq (.reg [⟨some ⟨.a, .j⟩, none, .len false (.t ⟨.a, .a⟩), []⟩, ⟨some ⟨.a, .k⟩, none, .bin .lss (.t ⟨.a, .e⟩) (.t ⟨.a, .j⟩), []⟩]) (.cond (.t ⟨.a, .k⟩)
  .skip (.exit 0))) (.blk 1 (.seq (.reg [⟨some ⟨.a, .o⟩, none, .call 50 [.t ⟨.a, .a⟩, .t ⟨.a, .e⟩], []⟩, ⟨some ⟨.a, .p⟩, none, .ext 0 (.t ⟨.a, .o⟩), []⟩, ⟨some ⟨.b, .a⟩, none, .ext 1 (.t ⟨.a, .o⟩),
  []⟩, ⟨some ⟨.a, .g⟩, none, .mv (.t ⟨.b, .a⟩), []⟩]) (.seq (.blk 2 (.seq (.reg [⟨some ⟨.b, .l⟩, none, .bin .eql (.t ⟨.a, .g⟩) (.c (.c (.i .i64 (.ofNat 0)))), []⟩, ⟨some ⟨.b, .m⟩, none, .mv (.t ⟨.b,
  .l⟩), []⟩, ⟨some ⟨.b, .n⟩, some (⟨.b, .m⟩, false), .mv (.t ⟨.a, .a⟩), []⟩, ⟨some ⟨.b, .o⟩, some (⟨.b, .m⟩, false), .mv (.t ⟨.a, .e⟩), []⟩, ⟨some ⟨.b, .p⟩, some (⟨.b, .m⟩, false), .sx (.t ⟨.b, .n⟩)
  (.t ⟨.b, .o⟩), []⟩, ⟨some ⟨.c, .a⟩, some (⟨.b, .m⟩, false), .bin .eql (.t ⟨.b, .p⟩) (.c (.c (.i .u8 (.ofNat 0)))), []⟩, ⟨some ⟨.c, .b⟩, none, .pk (.t ⟨.b, .m⟩) (.c (.c (.b true))) (.t ⟨.c, .a⟩), []⟩,
  ⟨some ⟨.b, .j⟩, none, .mv (.t ⟨.c, .b⟩), []⟩]) (.cond (.t ⟨.b, .j⟩) (.seq (.reg [⟨some ⟨.c, .d⟩, none, .bin .add (.t ⟨.a, .d⟩) (.c (.c (.s [239, 191, 189]))), []⟩, ⟨some ⟨.a, .d⟩, none, .mv (.t ⟨.c,
  .d⟩), []⟩]) (.reg [⟨some ⟨.a, .g⟩, none, .mv (.c (.c (.i .i64 (.ofNat 1)))), []⟩])) (.seq (.reg [⟨some ⟨.c, .h⟩, none, .sx (.t ⟨.a, .a⟩) (.t ⟨.a, .e⟩), []⟩, ⟨some ⟨.c, .i⟩, none, .bin .eql (.t ⟨.c,
  .h⟩) (.c (.c (.i .u8 (.ofNat 13)))), []⟩, ⟨some ⟨.c, .e⟩, none, .mv (.t ⟨.c, .i⟩), []⟩]) (.cond (.t ⟨.c, .e⟩) (.seq (.reg [⟨some ⟨.c, .k⟩, none, .bin .add (.t ⟨.a, .d⟩) (.c (.c (.s [10]))), []⟩,
  ⟨some ⟨.a, .d⟩, none, .mv (.t ⟨.c, .k⟩), []⟩]) (.seq (.reg [⟨some ⟨.c, .m⟩, none, .bin .add (.t ⟨.a, .e⟩) (.c (.c (.i .i64 (.ofNat 1)))), []⟩, ⟨some ⟨.c, .o⟩, none, .len false (.t ⟨.a, .a⟩), []⟩,
  ⟨some ⟨.c, .p⟩, none, .bin .lss (.t ⟨.c, .m⟩) (.t ⟨.c, .o⟩), []⟩, ⟨some ⟨.d, .a⟩, none, .mv (.t ⟨.c, .p⟩), []⟩, ⟨some ⟨.d, .b⟩, some (⟨.d, .a⟩, true), .mv (.t ⟨.a, .a⟩), []⟩, ⟨some ⟨.d, .c⟩, some
  (⟨.d, .a⟩, true), .mv (.t ⟨.a, .e⟩), []⟩, ⟨some ⟨.d, .d⟩, some (⟨.d, .a⟩, true), .bin .add (.t ⟨.d, .c⟩) (.c (.c (.i .i64 (.ofNat 1)))), []⟩, ⟨some ⟨.d, .e⟩, some (⟨.d, .a⟩, true), .sx (.t ⟨.d, .b⟩)
  (.t ⟨.d, .d⟩), []⟩, ⟨some ⟨.d, .f⟩, some (⟨.d, .a⟩, true), .bin .eql (.t ⟨.d, .e⟩) (.c (.c (.i .u8 (.ofNat 10)))), []⟩, ⟨some ⟨.d, .g⟩, none, .pk (.t ⟨.d, .a⟩) (.t ⟨.d, .f⟩) (.c (.c (.b false))),
  []⟩]) (.cond (.t ⟨.d, .g⟩) (.reg [⟨some ⟨.a, .g⟩, none, .mv (.c (.c (.i .i64 (.ofNat 2)))), []⟩]) .skip))) (.reg [⟨some ⟨.b, .g⟩, none, .bin .add (.t ⟨.a, .e⟩) (.t ⟨.a, .g⟩), []⟩, ⟨some ⟨.b, .h⟩,
  none, .sls (.t ⟨.a, .a⟩) (some (.t ⟨.a, .e⟩)) (some (.t ⟨.b, .g⟩)), []⟩, ⟨some ⟨.b, .i⟩, none, .bin .add (.t ⟨.a, .d⟩) (.t ⟨.b, .h⟩), []⟩, ⟨some ⟨.a, .d⟩, none, .mv (.t ⟨.b, .i⟩), []⟩])))))) (.reg
  [⟨some ⟨.d, .j⟩, none, .bin .add (.t ⟨.a, .e⟩) (.t ⟨.a, .g⟩), []⟩, ⟨some ⟨.a, .e⟩, none, .mv (.t ⟨.d, .j⟩), []⟩])))))))) (.seq (.reg [⟨some ⟨.a, .c⟩, none, .mv (.t ⟨.a, .d⟩), []⟩]) .ret))), [(⟨.a,
  .c⟩, none)]⟩

theorem ok33 : FnR Go.Proofs.Tryz.prog 0 33 cf33 := fnC_ok [5, 7, 8, 11, 12, 13, 17, 18, 19, 20, 21, 26, 34, 37, 38, 41, 43, 45, 55, 56, 58] Go.Proofs.Tryz.func33 (by kernel_rfl) (by kernel_rfl)

def cf34 : CF := ⟨160, 3, .seq (.reg [⟨some ⟨.a, .g⟩, none, .new 56 (.c (.a [.i .i64 (.ofNat 0), .s [], .s [], .sl none 0 0 0, .b false])), []⟩, ⟨some ⟨.a, .h⟩, none, .mv (.c (.c (.i .i64 (.ofNat 0)))), []⟩, ⟨some
  ⟨.a, .i⟩, none, .mv (.c (.c (.b false))), []⟩]) (.seq (.seq (.reg [⟨some ⟨.a, .n⟩, none, .bin .lss (.t ⟨.a, .b⟩) (.c (.c (.i .i64 (.ofNat 0)))), []⟩, ⟨some ⟨.a, .o⟩, none, .mv (.t ⟨.a, .n⟩), []⟩,
  ⟨some ⟨.a, .p⟩, some (⟨.a, .o⟩, false), .mv (.t ⟨.a, .b⟩), []⟩, ⟨some ⟨.b, .a⟩, some (⟨.a, .o⟩, false), .mv (.t ⟨.a, .a⟩), []⟩, ⟨some ⟨.b, .b⟩, some (⟨.a, .o⟩, false), .len false (.t ⟨.b, .a⟩), []⟩,
  ⟨some ⟨.b, .c⟩, some (⟨.a, .o⟩, false), .bin .geq (.t ⟨.a, .p⟩) (.t ⟨.b, .b⟩), []⟩, ⟨some ⟨.b, .d⟩, none, .pk (.t ⟨.a, .o⟩) (.c (.c (.b true))) (.t ⟨.b, .c⟩), []⟩]) (.cond (.t ⟨.b, .d⟩) (.seq (.reg
  [⟨some ⟨.b, .e⟩, none, .bld [.i .i64 (.ofNat 0), .s [], .s [], .sl none 0 0 0, .b false] [(0, (1, .c (.c (.i .i64 (.ofNat 6)))))], []⟩, ⟨some ⟨.b, .g⟩, none, .len false (.t ⟨.a, .a⟩), []⟩, ⟨none,
  none, .st 5 (.t ⟨.a, .g⟩) (.t ⟨.b, .e⟩), []⟩, ⟨some ⟨.a, .h⟩, none, .mv (.t ⟨.b, .g⟩), []⟩, ⟨some ⟨.a, .i⟩, none, .mv (.c (.c (.b true))), []⟩]) .ret) .skip)) (.seq (.seq (.reg [⟨some ⟨.b, .i⟩, none,
  .bin .neq (.t ⟨.a, .c⟩) (.c (.c (.s []))), []⟩]) (.cond (.t ⟨.b, .i⟩) (.seq (.reg [⟨some ⟨.b, .k⟩, none, .call 51 [.t ⟨.a, .c⟩], []⟩, ⟨some ⟨.a, .j⟩, none, .mv (.t ⟨.b, .k⟩), []⟩]) (.seq (.reg [⟨some
  ⟨.a, .k⟩, none, .mv (.t ⟨.a, .b⟩), []⟩]) (.seq (.blk 0 (.loop (.seq (.seq (.reg [⟨some ⟨.b, .o⟩, none, .len false (.t ⟨.a, .a⟩), []⟩, ⟨some ⟨.b, .p⟩, none, .bin .lss (.t ⟨.a, .k⟩) (.t ⟨.b, .o⟩), []⟩,
  ⟨some ⟨.c, .a⟩, none, .mv (.t ⟨.b, .p⟩), []⟩, ⟨some ⟨.c, .b⟩, some (⟨.c, .a⟩, true), .mv (.t ⟨.a, .a⟩), []⟩, ⟨some ⟨.c, .c⟩, some (⟨.c, .a⟩, true), .mv (.t ⟨.a, .k⟩), []⟩, ⟨some ⟨.c, .d⟩, some (⟨.c,
  .a⟩, true), .mv (.t ⟨.a, .j⟩), []⟩, ⟨some ⟨.c, .e⟩, some (⟨.c, .a⟩, true), .call 52 [.t ⟨.c, .b⟩, .t ⟨.c, .c⟩, .t ⟨.c, .d⟩], []⟩, ⟨some ⟨.c, .f⟩, some (⟨.c, .a⟩, true), .un .not (.t ⟨.c, .e⟩), []⟩,
  ⟨some ⟨.c, .g⟩, none, .pk (.t ⟨.c, .a⟩) (.t ⟨.c, .f⟩) (.c (.c (.b false))), []⟩]) (.cond (.t ⟨.c, .g⟩) .skip (.exit 0))) (.blk 1 (.reg [⟨some ⟨.c, .i⟩, none, .bin .add (.t ⟨.a, .k⟩) (.c (.c (.i .i64
  (.ofNat 1)))), []⟩, ⟨some ⟨.a, .k⟩, none, .mv (.t ⟨.c, .i⟩), []⟩]))))) (.seq (.reg [⟨some ⟨.c, .l⟩, none, .bin .gtr (.t ⟨.a, .k⟩) (.t ⟨.a, .b⟩), []⟩]) (.cond (.t ⟨.c, .l⟩) (.seq (.reg [⟨some ⟨.c,
  .p⟩, none, .sls (.t ⟨.a, .a⟩) (some (.t ⟨.a, .b⟩)) (some (.t ⟨.a, .k⟩)), []⟩, ⟨some ⟨.a, .l⟩, none, .mv (.t ⟨.c, .p⟩), []⟩]) (.seq (.seq (.reg [⟨some ⟨.d, .b⟩, none, .call 35 [.t ⟨.a, .j⟩], []⟩,
  ⟨some ⟨.d, .c⟩, none, .bin .eql (.t ⟨.d, .b⟩) (.c (.c (.i .i64 (.ofNat 1)))), []⟩]) (.cond (.t ⟨.d, .c⟩) (.reg [⟨some ⟨.d, .e⟩, none, .call 53 [.t ⟨.a, .l⟩, .c (.c (.b false))], []⟩, ⟨some ⟨.a, .l⟩,
  none, .mv (.t ⟨.d, .e⟩), []⟩]) .skip)) (.seq (.reg [⟨some ⟨.d, .g⟩, none, .bld [.i .i64 (.ofNat 0), .s [], .s [], .sl none 0 0 0, .b false] [(0, (1, .c (.c (.i .i64 (.ofNat 3))))), (2, (1, .t ⟨.a,
  .l⟩)), (4, (1, .c (.c (.b true))))], []⟩, ⟨none, none, .st 5 (.t ⟨.a, .g⟩) (.t ⟨.d, .g⟩), []⟩, ⟨some ⟨.a, .h⟩, none, .mv (.t ⟨.a, .k⟩), []⟩, ⟨some ⟨.a, .i⟩, none, .mv (.c (.c (.b true))), []⟩])
  .ret))) .skip))))) .skip)) (.seq (.blk 2 (.seq (.reg [⟨some ⟨.d, .l⟩, none, .sx (.t ⟨.a, .a⟩) (.t ⟨.a, .b⟩), []⟩, ⟨some ⟨.d, .m⟩, none, .bin .neq (.t ⟨.d, .l⟩) (.c (.c (.i .u8 (.ofNat 60)))), []⟩,
  ⟨some ⟨.d, .i⟩, none, .mv (.t ⟨.d, .m⟩), []⟩]) (.cond (.t ⟨.d, .i⟩) (.seq (.reg [⟨some ⟨.d, .p⟩, none, .call 54 [.t ⟨.a, .a⟩, .t ⟨.a, .b⟩], []⟩, ⟨some ⟨.e, .a⟩, none, .ext 0 (.t ⟨.d, .p⟩), []⟩, ⟨some
  ⟨.e, .b⟩, none, .ext 1 (.t ⟨.d, .p⟩), []⟩, ⟨some ⟨.e, .c⟩, none, .ext 2 (.t ⟨.d, .p⟩), []⟩, ⟨none, none, .st 5 (.t ⟨.a, .g⟩) (.t ⟨.e, .a⟩), []⟩, ⟨some ⟨.a, .h⟩, none, .mv (.t ⟨.e, .b⟩), []⟩, ⟨some
  ⟨.a, .i⟩, none, .mv (.t ⟨.e, .c⟩), []⟩]) .ret) (.seq (.reg [⟨some ⟨.e, .g⟩, none, .bin .add (.t ⟨.a, .b⟩) (.c (.c (.i .i64 (.ofNat 1)))), []⟩, ⟨some ⟨.e, .h⟩, none, .call 55 [.t ⟨.a, .a⟩, .t ⟨.e,
  .g⟩], []⟩, ⟨some ⟨.e, .d⟩, none, .mv (.t ⟨.e, .h⟩), []⟩]) (.cond (.t ⟨.e, .d⟩) (.seq (.reg [⟨some ⟨.e, .k⟩, none, .bin .add (.t ⟨.a, .b⟩) (.c (.c (.i .i64 (.ofNat 1)))), []⟩, ⟨some ⟨.e, .l⟩, none,
  .call 56 [.t ⟨.a, .a⟩, .t ⟨.e, .k⟩, .c (.c (.i .i64 (.ofNat 1)))], []⟩, ⟨some ⟨.e, .m⟩, none, .ext 0 (.t ⟨.e, .l⟩), []⟩, ⟨some ⟨.e, .n⟩, none, .ext 1 (.t ⟨.e, .l⟩), []⟩, ⟨some ⟨.e, .o⟩, none, .ext 2
  (.t ⟨.e, .l⟩), []⟩, ⟨none, none, .st 5 (.t ⟨.a, .g⟩) (.t ⟨.e, .m⟩), []⟩, ⟨some ⟨.a, .h⟩, none, .mv (.t ⟨.e, .n⟩), []⟩, ⟨some ⟨.a, .i⟩, none, .mv (.t ⟨.e, .o⟩), []⟩]) .ret) (.seq (.reg [⟨some ⟨.f,
  .c⟩, none, .call 57 [.t ⟨.a, .a⟩, .t ⟨.a, .b⟩, .c (.c (.s [60, 47]))], []⟩, ⟨some ⟨.f, .d⟩, none, .mv (.t ⟨.f, .c⟩), []⟩, ⟨some ⟨.f, .e⟩, some (⟨.f, .d⟩, true), .mv (.t ⟨.a, .a⟩), []⟩, ⟨some ⟨.f,
  .f⟩, some (⟨.f, .d⟩, true), .mv (.t ⟨.a, .b⟩), []⟩, ⟨some ⟨.f, .g⟩, some (⟨.f, .d⟩, true), .bin .add (.t ⟨.f, .f⟩) (.c (.c (.i .i64 (.ofNat 2)))), []⟩, ⟨some ⟨.f, .h⟩, some (⟨.f, .d⟩, true), .call 55
  [.t ⟨.f, .e⟩, .t ⟨.f, .g⟩], []⟩, ⟨some ⟨.f, .i⟩, none, .pk (.t ⟨.f, .d⟩) (.t ⟨.f, .h⟩) (.c (.c (.b false))), []⟩, ⟨some ⟨.e, .p⟩, none, .mv (.t ⟨.f, .i⟩), []⟩]) (.cond (.t ⟨.e, .p⟩) (.seq (.reg
  [⟨some ⟨.f, .l⟩, none, .bin .add (.t ⟨.a, .b⟩) (.c (.c (.i .i64 (.ofNat 2)))), []⟩, ⟨some ⟨.f, .m⟩, none, .call 56 [.t ⟨.a, .a⟩, .t ⟨.f, .l⟩, .c (.c (.i .i64 (.ofNat 2)))], []⟩, ⟨some ⟨.f, .n⟩, none,
  .ext 0 (.t ⟨.f, .m⟩), []⟩, ⟨some ⟨.f, .o⟩, none, .ext 1 (.t ⟨.f, .m⟩), []⟩, ⟨some ⟨.f, .p⟩, none, .ext 2 (.t ⟨.f, .m⟩), []⟩, ⟨none, none, .st 5 (.t ⟨.a, .g⟩) (.t ⟨.f, .n⟩), []⟩, ⟨some ⟨.a, .h⟩, none,
  .mv (.t ⟨.f, .o⟩), []⟩, ⟨some ⟨.a, .i⟩, none, .mv (.t ⟨.f, .p⟩), []⟩]) .ret) (.seq (.reg [⟨some ⟨.g, .d⟩, none, .call 57 [.t ⟨.a, .a⟩, .t ⟨.a, .b⟩, .c (.c (.s [60, 33, 45, 45]))], []⟩, ⟨some ⟨.g,
  .a⟩, none, .mv (.t ⟨.g, .d⟩), []⟩]) (.cond (.t ⟨.g, .a⟩) (.seq (.reg [⟨some ⟨.g, .g⟩, none, .bin .add (.t ⟨.a, .b⟩) (.c (.c (.i .i64 (.ofNat 4)))), []⟩, ⟨some ⟨.g, .h⟩, none, .call 58 [.t ⟨.a, .a⟩,
  .t ⟨.g, .g⟩], []⟩, ⟨some ⟨.g, .i⟩, none, .ext 0 (.t ⟨.g, .h⟩), []⟩, ⟨some ⟨.g, .j⟩, none, .ext 1 (.t ⟨.g, .h⟩), []⟩, ⟨some ⟨.g, .k⟩, none, .ext 2 (.t ⟨.g, .h⟩), []⟩, ⟨none, none, .st 5 (.t ⟨.a, .g⟩)
  (.t ⟨.g, .i⟩), []⟩, ⟨some ⟨.a, .h⟩, none, .mv (.t ⟨.g, .j⟩), []⟩, ⟨some ⟨.a, .i⟩, none, .mv (.t ⟨.g, .k⟩), []⟩]) .ret) (.seq (.reg [⟨some ⟨.g, .o⟩, none, .call 57 [.t ⟨.a, .a⟩, .t ⟨.a, .b⟩, .c (.c
  (.s [60, 33, 100, 111, 99, 116, 121, 112, 101]))], []⟩, ⟨some ⟨.g, .l⟩, none, .mv (.t ⟨.g, .o⟩), []⟩]) (.cond (.t ⟨.g, .l⟩) (.seq (.reg [⟨some ⟨.h, .b⟩, none, .bin .add (.t ⟨.a, .b⟩) (.c (.c (.i .i64
  (.ofNat 9)))), []⟩, ⟨some ⟨.h, .c⟩, none, .call 59 [.t ⟨.a, .a⟩, .t ⟨.h, .b⟩], []⟩, ⟨some ⟨.h, .d⟩, none, .ext 0 (.t ⟨.h, .c⟩), []⟩, ⟨some ⟨.h, .e⟩, none, .ext 1 (.t ⟨.h, .c⟩), []⟩, ⟨some ⟨.h, .f⟩,
  none, .ext 2 (.t ⟨.h, .c⟩), []⟩, ⟨none, none, .st 5 (.t ⟨.a, .g⟩) (.t ⟨.h, .d⟩), []⟩, ⟨some ⟨.a, .h⟩, none, .mv (.t ⟨.h, .e⟩), []⟩, ⟨some ⟨.a, .i⟩, none, .mv (.t ⟨.h, .f⟩), []⟩]) .ret) (.seq (.reg
  [⟨some ⟨.h, .j⟩, none, .call 57 [.t ⟨.a, .a⟩, .t ⟨.a, .b⟩, .c (.c (.s [60, 47, 62]))], []⟩, ⟨some ⟨.h, .g⟩, none, .mv (.t ⟨.h, .j⟩), []⟩]) (.cond (.t ⟨.h, .g⟩) (.seq (.reg [⟨some ⟨.h, .k⟩, none, .bld
  [.i .i64 (.ofNat 0), .s [], .s [], .sl none 0 0 0, .b false] [], []⟩, ⟨some ⟨.h, .m⟩, none, .bin .add (.t ⟨.a, .b⟩) (.c (.c (.i .i64 (.ofNat 3)))), []⟩, ⟨none, none, .st 5 (.t ⟨.a, .g⟩) (.t ⟨.h,
  .k⟩), []⟩, ⟨some ⟨.a, .h⟩, none, .mv (.t ⟨.h, .m⟩), []⟩, ⟨some ⟨.a, .i⟩, none, .mv (.c (.c (.b false))), []⟩]) .ret) (.seq (.seq (.reg [⟨some ⟨.i, .a⟩, none, .call 57 [.t ⟨.a, .a⟩, .t ⟨.a, .b⟩, .c
  (.c (.s [60, 33]))], []⟩, ⟨some ⟨.h, .n⟩, none, .mv (.t ⟨.i, .a⟩), []⟩]) (.cond (.t ⟨.h, .n⟩) .skip (.reg [⟨some ⟨.i, .d⟩, none, .call 57 [.t ⟨.a, .a⟩, .t ⟨.a, .b⟩, .c (.c (.s [60, 47]))], []⟩, ⟨some
  ⟨.i, .e⟩, none, .mv (.t ⟨.i, .d⟩), []⟩, ⟨some ⟨.i, .f⟩, some (⟨.i, .e⟩, true), .mv (.t ⟨.a, .b⟩), []⟩, ⟨some ⟨.i, .g⟩, some (⟨.i, .e⟩, true), .bin .add (.t ⟨.i, .f⟩) (.c (.c (.i .i64 (.ofNat 2)))),
  []⟩, ⟨some ⟨.i, .h⟩, some (⟨.i, .e⟩, true), .mv (.t ⟨.a, .a⟩), []⟩, ⟨some ⟨.i, .i⟩, some (⟨.i, .e⟩, true), .len false (.t ⟨.i, .h⟩), []⟩, ⟨some ⟨.i, .j⟩, some (⟨.i, .e⟩, true), .bin .lss (.t ⟨.i,
  .g⟩) (.t ⟨.i, .i⟩), []⟩, ⟨some ⟨.i, .k⟩, none, .pk (.t ⟨.i, .e⟩) (.t ⟨.i, .j⟩) (.c (.c (.b false))), []⟩, ⟨some ⟨.h, .n⟩, none, .mv (.t ⟨.i, .k⟩), []⟩]))) (.cond (.t ⟨.h, .n⟩) (.seq (.reg [⟨some ⟨.i,
  .n⟩, none, .bin .add (.t ⟨.a, .b⟩) (.c (.c (.i .i64 (.ofNat 2)))), []⟩, ⟨some ⟨.i, .o⟩, none, .call 60 [.t ⟨.a, .a⟩, .t ⟨.i, .n⟩], []⟩, ⟨some ⟨.i, .p⟩, none, .ext 0 (.t ⟨.i, .o⟩), []⟩, ⟨some ⟨.j,
  .a⟩, none, .ext 1 (.t ⟨.i, .o⟩), []⟩, ⟨some ⟨.j, .b⟩, none, .ext 2 (.t ⟨.i, .o⟩), []⟩, ⟨none, none, .st 5 (.t ⟨.a, .g⟩) (.t ⟨.i, .p⟩), []⟩, ⟨some ⟨.a, .h⟩, none, .mv (.t ⟨.j, .a⟩), []⟩, ⟨some ⟨.a,
  .i⟩, none, .mv (.t ⟨.j, .b⟩), []⟩]) .ret) (.seq (.reg [⟨some ⟨.j, .f⟩, none, .call 57 [.t ⟨.a, .a⟩, .t ⟨.a, .b⟩, .c (.c (.s [60, 63]))], []⟩, ⟨some ⟨.j, .c⟩, none, .mv (.t ⟨.j, .f⟩), []⟩]) (.cond (.t
  ⟨.j, .c⟩) (.seq (.reg [⟨some ⟨.j, .i⟩, none, .bin .add (.t ⟨.a, .b⟩) (.c (.c (.i .i64 (.ofNat 1)))), []⟩, ⟨some ⟨.j, .j⟩, none, .call 60 [.t ⟨.a, .a⟩, .t ⟨.j, .i⟩], []⟩, ⟨some ⟨.j, .k⟩, none, .ext 0
  (.t ⟨.j, .j⟩), []⟩, ⟨some ⟨.j, .l⟩, none, .ext 1 (.t ⟨.j, .j⟩), []⟩, ⟨some ⟨.j, .m⟩, none, .ext 2 (.t ⟨.j, .j⟩), []⟩, ⟨none, none, .st 5 (.t ⟨.a, .g⟩) (.t ⟨.j, .k⟩), []⟩, ⟨some ⟨.a, .h⟩, none, .mv
  (.t ⟨.j, .l⟩), []⟩, ⟨some ⟨.a, .i⟩, none, .mv (.t ⟨.j, .m⟩), []⟩]) .ret) .skip))))))))))))))))) (.seq (.reg [⟨some ⟨.j, .n⟩, none, .bld [.i .i64 (.ofNat 0), .s [], .s [], .sl none 0 0 0, .b false]
  [(0, (1, .c (.c (.i .i64 (.ofNat 3))))), (2, (1, .c (.c (.s [60]))))], []⟩, ⟨some ⟨.j, .p⟩, none, .bin .add (.t ⟨.a, .b⟩) (.c (.c (.i .i64 (.ofNat 1)))), []⟩, ⟨none, none, .st 5 (.t ⟨.a, .g⟩) (.t
  ⟨.j, .n⟩), []⟩, ⟨some ⟨.a, .h⟩, none, .mv (.t ⟨.j, .p⟩), []⟩, ⟨some ⟨.a, .i⟩, none, .mv (.c (.c (.b true))), []⟩]) .ret)))), [(⟨.a, .g⟩, some (5, true)), (⟨.a, .h⟩, none), (⟨.a, .i⟩, none)]⟩

theorem ok34 : FnR Go.Proofs.Tryz.prog 0 34 cf34 := fnC_ok [12, 21, 23, 25, 27, 28, 29, 39, 41, 42, 44, 45, 46, 48, 51, 53, 55, 57, 58, 61, 62, 68, 69, 72, 73, 80, 81, 89, 90, 97, 98, 100, 101, 108, 109, 111, 112, 119, 120, 123, 126, 127, 129, 130, 139, 140, 147, 148, 150, 151, 158] Go.Proofs.Tryz.func34 (by kernel_rfl) (by kernel_rfl)

def cf35 : CF := ⟨14, 1, .seq (.reg [⟨some ⟨.a, .c⟩, none, .mv (.c (.c (.i .i64 (.ofNat 0)))), []⟩]) (.seq (.seq (.reg [⟨some ⟨.a, .d⟩, none, .mv (.t ⟨.a, .a⟩), []⟩]) (.blk 0 (.seq (.seq (.reg [⟨some ⟨.a, .f⟩, none,
  .bin .eql (.t ⟨.a, .d⟩) (.c (.c (.s [116, 105, 116, 108, 101]))), []⟩, ⟨some ⟨.a, .e⟩, none, .mv (.t ⟨.a, .f⟩), []⟩]) (.cond (.t ⟨.a, .e⟩) .skip (.reg [⟨some ⟨.a, .g⟩, none, .bin .eql (.t ⟨.a, .d⟩)
  (.c (.c (.s [116, 101, 120, 116, 97, 114, 101, 97]))), []⟩, ⟨some ⟨.a, .e⟩, none, .mv (.t ⟨.a, .g⟩), []⟩]))) (.cond (.t ⟨.a, .e⟩) (.seq (.reg [⟨some ⟨.a, .c⟩, none, .mv (.c (.c (.i .i64 (.ofNat
  1)))), []⟩]) .ret) (.seq (.seq (.reg [⟨some ⟨.a, .i⟩, none, .bin .eql (.t ⟨.a, .d⟩) (.c (.c (.s [115, 116, 121, 108, 101]))), []⟩, ⟨some ⟨.a, .h⟩, none, .mv (.t ⟨.a, .i⟩), []⟩]) (.cond (.t ⟨.a, .h⟩)
  .skip (.seq (.reg [⟨some ⟨.a, .j⟩, none, .bin .eql (.t ⟨.a, .d⟩) (.c (.c (.s [115, 99, 114, 105, 112, 116]))), []⟩, ⟨some ⟨.a, .h⟩, none, .mv (.t ⟨.a, .j⟩), []⟩]) (.cond (.t ⟨.a, .h⟩) .skip (.seq
  (.reg [⟨some ⟨.a, .k⟩, none, .bin .eql (.t ⟨.a, .d⟩) (.c (.c (.s [120, 109, 112]))), []⟩, ⟨some ⟨.a, .h⟩, none, .mv (.t ⟨.a, .k⟩), []⟩]) (.cond (.t ⟨.a, .h⟩) .skip (.seq (.reg [⟨some ⟨.a, .l⟩, none,
  .bin .eql (.t ⟨.a, .d⟩) (.c (.c (.s [105, 102, 114, 97, 109, 101]))), []⟩, ⟨some ⟨.a, .h⟩, none, .mv (.t ⟨.a, .l⟩), []⟩]) (.cond (.t ⟨.a, .h⟩) .skip (.seq (.reg [⟨some ⟨.a, .m⟩, none, .bin .eql (.t
  ⟨.a, .d⟩) (.c (.c (.s [110, 111, 101, 109, 98, 101, 100]))), []⟩, ⟨some ⟨.a, .h⟩, none, .mv (.t ⟨.a, .m⟩), []⟩]) (.cond (.t ⟨.a, .h⟩) .skip (.reg [⟨some ⟨.a, .n⟩, none, .bin .eql (.t ⟨.a, .d⟩) (.c
  (.c (.s [110, 111, 102, 114, 97, 109, 101, 115]))), []⟩, ⟨some ⟨.a, .h⟩, none, .mv (.t ⟨.a, .n⟩), []⟩]))))))))))) (.cond (.t ⟨.a, .h⟩) (.seq (.reg [⟨some ⟨.a, .c⟩, none, .mv (.c (.c (.i .i64 (.ofNat
  2)))), []⟩]) .ret) .skip)))))) (.seq (.reg [⟨some ⟨.a, .c⟩, none, .mv (.c (.c (.i .i64 (.ofNat 0)))), []⟩]) .ret)), [(⟨.a, .c⟩, none)]⟩

theorem ok35 : FnR Go.Proofs.Tryz.prog 0 35 cf35 := fnC_ok [] Go.Proofs.Tryz.func35 (by kernel_rfl) (by kernel_rfl)

def cf36 : CF := ⟨40, 1, .seq (.reg [⟨some ⟨.a, .c⟩, none, .mv (.c (.c (.b false))), []⟩]) (.seq (.seq (.reg [⟨some ⟨.a, .g⟩, none, .bin .eql (.t ⟨.a, .a⟩) (.c (.c (.s []))), []⟩, ⟨some ⟨.a, .h⟩, none, .mv (.t ⟨.a,
  .g⟩), []⟩, ⟨some ⟨.a, .i⟩, some (⟨.a, .h⟩, false), .mv (.t ⟨.a, .a⟩), []⟩, ⟨some ⟨.a, .j⟩, some (⟨.a, .h⟩, false), .len false (.t ⟨.a, .i⟩), []⟩, ⟨some ⟨.a, .k⟩, some (⟨.a, .h⟩, false), .bin .gtr (.t
  ⟨.a, .j⟩) (.c (.c (.i .i64 (.ofNat 32)))), []⟩, ⟨some ⟨.a, .l⟩, none, .pk (.t ⟨.a, .h⟩) (.c (.c (.b true))) (.t ⟨.a, .k⟩), []⟩]) (.cond (.t ⟨.a, .l⟩) (.seq (.reg [⟨some ⟨.a, .c⟩, none, .mv (.c (.c
  (.b false))), []⟩]) .ret) .skip)) (.seq (.seq (.reg [⟨some ⟨.a, .n⟩, none, .len false (.t ⟨.a, .a⟩), []⟩, ⟨some ⟨.a, .o⟩, none, .mv (.c (.c (.i .i64 (.ofNat 0)))), []⟩]) (.blk 0 (.loop (.seq (.reg
  [⟨some ⟨.a, .p⟩, none, .bin .lss (.t ⟨.a, .o⟩) (.t ⟨.a, .n⟩), []⟩]) (.seq (.cond (.t ⟨.a, .p⟩) .skip (.exit 0)) (.seq (.blk 1 (.seq (.reg [⟨some ⟨.a, .d⟩, none, .mv (.t ⟨.a, .o⟩), []⟩]) (.seq (.reg
  [⟨some ⟨.b, .d⟩, none, .sx (.t ⟨.a, .a⟩) (.t ⟨.a, .d⟩), []⟩, ⟨some ⟨.a, .e⟩, none, .mv (.t ⟨.b, .d⟩), []⟩]) (.seq (.reg [⟨some ⟨.b, .e⟩, none, .mv (.t ⟨.a, .e⟩), []⟩]) (.blk 2 (.seq (.seq (.reg
  [⟨some ⟨.b, .m⟩, none, .bin .eql (.t ⟨.b, .e⟩) (.c (.c (.i .u8 (.ofNat 9)))), []⟩, ⟨some ⟨.b, .l⟩, none, .mv (.t ⟨.b, .m⟩), []⟩]) (.cond (.t ⟨.b, .l⟩) .skip (.seq (.reg [⟨some ⟨.b, .n⟩, none, .bin
  .eql (.t ⟨.b, .e⟩) (.c (.c (.i .u8 (.ofNat 10)))), []⟩, ⟨some ⟨.b, .l⟩, none, .mv (.t ⟨.b, .n⟩), []⟩]) (.cond (.t ⟨.b, .l⟩) .skip (.seq (.reg [⟨some ⟨.b, .o⟩, none, .bin .eql (.t ⟨.b, .e⟩) (.c (.c
  (.i .u8 (.ofNat 12)))), []⟩, ⟨some ⟨.b, .l⟩, none, .mv (.t ⟨.b, .o⟩), []⟩]) (.cond (.t ⟨.b, .l⟩) .skip (.seq (.reg [⟨some ⟨.b, .p⟩, none, .bin .eql (.t ⟨.b, .e⟩) (.c (.c (.i .u8 (.ofNat 32)))), []⟩,
  ⟨some ⟨.b, .l⟩, none, .mv (.t ⟨.b, .p⟩), []⟩]) (.cond (.t ⟨.b, .l⟩) .skip (.seq (.reg [⟨some ⟨.c, .a⟩, none, .bin .eql (.t ⟨.b, .e⟩) (.c (.c (.i .u8 (.ofNat 0)))), []⟩, ⟨some ⟨.b, .l⟩, none, .mv (.t
  ⟨.c, .a⟩), []⟩]) (.cond (.t ⟨.b, .l⟩) .skip (.seq (.reg [⟨some ⟨.c, .b⟩, none, .bin .eql (.t ⟨.b, .e⟩) (.c (.c (.i .u8 (.ofNat 34)))), []⟩, ⟨some ⟨.b, .l⟩, none, .mv (.t ⟨.c, .b⟩), []⟩]) (.cond (.t
  ⟨.b, .l⟩) .skip (.seq (.reg [⟨some ⟨.c, .c⟩, none, .bin .eql (.t ⟨.b, .e⟩) (.c (.c (.i .u8 (.ofNat 39)))), []⟩, ⟨some ⟨.b, .l⟩, none, .mv (.t ⟨.c, .c⟩), []⟩]) (.cond (.t ⟨.b, .l⟩) .skip (.seq (.reg
  [⟨some ⟨.c, .d⟩, none, .bin .eql (.t ⟨.b, .e⟩) (.c (.c (.i .u8 (.ofNat 62)))), []⟩, ⟨some ⟨.b, .l⟩, none, .mv (.t ⟨.c, .d⟩), []⟩]) (.cond (.t ⟨.b, .l⟩) .skip (.seq (.reg [⟨some ⟨.c, .e⟩, none, .bin
  .eql (.t ⟨.b, .e⟩) (.c (.c (.i .u8 (.ofNat 47)))), []⟩, ⟨some ⟨.b, .l⟩, none, .mv (.t ⟨.c, .e⟩), []⟩]) (.cond (.t ⟨.b, .l⟩) .skip (.seq (.reg [⟨some ⟨.c, .f⟩, none, .bin .eql (.t ⟨.b, .e⟩) (.c (.c
  (.i .u8 (.ofNat 61)))), []⟩, ⟨some ⟨.b, .l⟩, none, .mv (.t ⟨.c, .f⟩), []⟩]) (.cond (.t ⟨.b, .l⟩) .skip (.reg [⟨some ⟨.c, .g⟩, none, .bin .eql (.t ⟨.b, .e⟩) (.c (.c (.i .u8 (.ofNat 60)))), []⟩, ⟨some
  ⟨.b, .l⟩, none, .mv (.t ⟨.c, .g⟩), []⟩]))))))))))))))))))))) (.cond (.t ⟨.b, .l⟩) (.seq (.reg [⟨some ⟨.a, .c⟩, none, .mv (.c (.c (.b false))), []⟩]) .ret) (.seq (.reg [⟨some ⟨.b, .g⟩, none, .bin .geq
  (.t ⟨.a, .e⟩) (.c (.c (.i .u8 (.ofNat 65)))), []⟩, ⟨some ⟨.b, .h⟩, none, .mv (.t ⟨.b, .g⟩), []⟩, ⟨some ⟨.b, .i⟩, some (⟨.b, .h⟩, true), .mv (.t ⟨.a, .e⟩), []⟩, ⟨some ⟨.b, .j⟩, some (⟨.b, .h⟩, true),
  .bin .leq (.t ⟨.b, .i⟩) (.c (.c (.i .u8 (.ofNat 90)))), []⟩, ⟨some ⟨.b, .k⟩, none, .pk (.t ⟨.b, .h⟩) (.t ⟨.b, .j⟩) (.c (.c (.b false))), []⟩]) (.cond (.t ⟨.b, .k⟩) (.seq (.reg [⟨some ⟨.a, .c⟩, none,
  .mv (.c (.c (.b false))), []⟩]) .ret) .skip))))))))) (.reg [⟨some ⟨.c, .h⟩, none, .bin .add (.t ⟨.a, .o⟩) (.c (.c (.i .i64 (.ofNat 1)))), []⟩, ⟨some ⟨.a, .o⟩, none, .mv (.t ⟨.c, .h⟩), []⟩])))))))
  (.seq (.reg [⟨some ⟨.a, .c⟩, none, .mv (.c (.c (.b true))), []⟩]) .ret))), [(⟨.a, .c⟩, none)]⟩

theorem ok36 : FnR Go.Proofs.Tryz.prog 0 36 cf36 := fnC_ok [5, 12, 16, 17, 18, 21] Go.Proofs.Tryz.func36 (by kernel_rfl) (by kernel_rfl)

def cf38 : CF := ⟨17, 2, .seq (.reg [⟨some ⟨.a, .e⟩, none, .mv (.c (.c (.b false))), []⟩]) (.seq (.seq (.reg [⟨some ⟨.a, .h⟩, none, .mv (.t ⟨.a, .b⟩), []⟩, ⟨some ⟨.a, .i⟩, none, .len true (.t ⟨.a, .h⟩), []⟩, ⟨some
  ⟨.a, .j⟩, none, .mv (.c (.c (.i .i64 (.ofNat 0)))), []⟩]) (.blk 0 (.loop (.seq (.reg [⟨some ⟨.a, .k⟩, none, .bin .lss (.t ⟨.a, .j⟩) (.t ⟨.a, .i⟩), []⟩]) (.seq (.cond (.t ⟨.a, .k⟩) .skip (.exit 0))
  (.seq (.blk 1 (.seq (.reg [⟨some ⟨.a, .l⟩, none, .ia 1 (.t ⟨.a, .h⟩) (.t ⟨.a, .j⟩), []⟩, ⟨some ⟨.a, .m⟩, none, .ld 1 false (.t ⟨.a, .l⟩), []⟩, ⟨some ⟨.a, .g⟩, none, .mv (.t ⟨.a, .m⟩), []⟩]) (.seq
  (.reg [⟨some ⟨.a, .p⟩, none, .bin .eql (.t ⟨.a, .g⟩) (.t ⟨.a, .a⟩), []⟩]) (.cond (.t ⟨.a, .p⟩) (.seq (.reg [⟨some ⟨.a, .e⟩, none, .mv (.c (.c (.b true))), []⟩]) .ret) .skip)))) (.reg [⟨some ⟨.b, .a⟩,
  none, .bin .add (.t ⟨.a, .j⟩) (.c (.c (.i .i64 (.ofNat 1)))), []⟩, ⟨some ⟨.a, .j⟩, none, .mv (.t ⟨.b, .a⟩), []⟩]))))))) (.seq (.reg [⟨some ⟨.a, .e⟩, none, .mv (.c (.c (.b false))), []⟩]) .ret)),
  [(⟨.a, .e⟩, none)]⟩

theorem ok38 : FnR Go.Proofs.Tryz.prog 0 38 cf38 := fnC_ok [13, 14] Go.Proofs.Tryz.func38 (by kernel_rfl) (by kernel_rfl)

def cf39 : CF := ⟨42, 2, .seq (.reg [⟨some ⟨.a, .e⟩, none, .mv (.c (.c (.sl none 0 0 0))), []⟩]) (.seq (.reg [⟨some ⟨.a, .k⟩, none, .call 62 [.t ⟨.a, .a⟩, .t ⟨.a, .b⟩], []⟩, ⟨some ⟨.a, .f⟩, none, .mv (.t ⟨.a, .k⟩),
  []⟩]) (.seq (.seq (.reg [⟨some ⟨.a, .m⟩, none, .bin .eql (.t ⟨.a, .f⟩) (.c (.c (.i .i64 (.negSucc 0)))), []⟩]) (.cond (.t ⟨.a, .m⟩) (.seq (.reg [⟨some ⟨.a, .e⟩, none, .mv (.t ⟨.a, .a⟩), []⟩]) .ret)
  .skip)) (.seq (.seq (.reg [⟨some ⟨.a, .p⟩, none, .bin .add (.t ⟨.a, .f⟩) (.c (.c (.i .i64 (.ofNat 1)))), []⟩, ⟨some ⟨.a, .g⟩, none, .mv (.t ⟨.a, .p⟩), []⟩]) (.blk 0 (.loop (.seq (.seq (.reg [⟨some
  ⟨.b, .c⟩, none, .len true (.t ⟨.a, .a⟩), []⟩, ⟨some ⟨.b, .d⟩, none, .bin .lss (.t ⟨.a, .g⟩) (.t ⟨.b, .c⟩), []⟩]) (.cond (.t ⟨.b, .d⟩) .skip (.exit 0))) (.seq (.blk 1 (.seq (.reg [⟨some ⟨.b, .i⟩,
  none, .ia 2 (.t ⟨.a, .a⟩) (.t ⟨.a, .g⟩), []⟩, ⟨some ⟨.b, .j⟩, none, .ld 2 true (.t ⟨.b, .i⟩), []⟩, ⟨some ⟨.a, .h⟩, none, .new 84 (.c (.a [.s [], .s []])), []⟩, ⟨none, none, .st 2 (.t ⟨.a, .h⟩) (.t
  ⟨.b, .j⟩), []⟩]) (.seq (.reg [⟨some ⟨.b, .l⟩, none, .ld 2 true (.t ⟨.a, .h⟩), []⟩, ⟨some ⟨.b, .m⟩, none, .callv (.t ⟨.a, .b⟩) [.t ⟨.b, .l⟩], []⟩, ⟨some ⟨.b, .n⟩, none, .un .not (.t ⟨.b, .m⟩), []⟩])
  (.cond (.t ⟨.b, .n⟩) (.seq (.reg [⟨some ⟨.c, .a⟩, none, .ld 2 true (.t ⟨.a, .h⟩), []⟩, ⟨some ⟨.c, .b⟩, none, .ia 2 (.t ⟨.a, .a⟩) (.t ⟨.a, .f⟩), []⟩, ⟨none, none, .st 2 (.t ⟨.c, .b⟩) (.t ⟨.c, .a⟩),
  []⟩]) (.reg [⟨some ⟨.c, .d⟩, none, .bin .add (.t ⟨.a, .f⟩) (.c (.c (.i .i64 (.ofNat 1)))), []⟩, ⟨some ⟨.a, .f⟩, none, .mv (.t ⟨.c, .d⟩), []⟩])) .skip)))) (.reg [⟨some ⟨.b, .f⟩, none, .bin .add (.t
  ⟨.a, .g⟩) (.c (.c (.i .i64 (.ofNat 1)))), []⟩, ⟨some ⟨.a, .g⟩, none, .mv (.t ⟨.b, .f⟩), []⟩])))))) (.seq (.reg [⟨some ⟨.c, .g⟩, none, .slc 2 (.t ⟨.a, .a⟩) (some (.t ⟨.a, .f⟩)) none none, []⟩, ⟨none,
  none, .clr [.s [], .s []] (.t ⟨.c, .g⟩), []⟩]) (.seq (.reg [⟨some ⟨.c, .j⟩, none, .slc 2 (.t ⟨.a, .a⟩) none (some (.t ⟨.a, .f⟩)) none, []⟩, ⟨some ⟨.a, .e⟩, none, .mv (.t ⟨.c, .j⟩), []⟩]) .ret))))),
  [(⟨.a, .e⟩, none)]⟩

theorem ok39 : FnR Go.Proofs.Tryz.prog 0 39 cf39 := fnC_ok [8, 9, 11, 13, 14, 16, 17, 20, 22, 23, 26, 30, 31, 34, 36, 37, 39, 40] Go.Proofs.Tryz.func39 (by kernel_rfl) (by kernel_rfl)

def cf40 : CF := ⟨8, 1, .seq (.reg [⟨some ⟨.a, .c⟩, none, .mv (.c (.c (.sl none 0 0 0))), []⟩]) (.seq (.seq (.reg [⟨some ⟨.a, .e⟩, none, .sq false (.t ⟨.a, .a⟩) (.c (.c (.sl none 0 0 0))), []⟩]) (.cond (.t ⟨.a, .e⟩)
  (.seq (.reg [⟨some ⟨.a, .c⟩, none, .mv (.c (.c (.sl none 0 0 0))), []⟩]) .ret) .skip)) (.seq (.reg [⟨some ⟨.a, .f⟩, none, .bsl 84 1 0 [] [], []⟩, ⟨some ⟨.a, .h⟩, none, .app 84 2 false (.t ⟨.a, .f⟩)
  (.t ⟨.a, .a⟩), []⟩, ⟨some ⟨.a, .c⟩, none, .mv (.t ⟨.a, .h⟩), []⟩]) .ret)), [(⟨.a, .c⟩, none)]⟩

theorem ok40 : FnR Go.Proofs.Tryz.prog 0 40 cf40 := fnC_ok [3, 6] Go.Proofs.Tryz.func40 (by kernel_rfl) (by kernel_rfl)

def cf42 : CF := ⟨114, 2, .seq (.reg [⟨some ⟨.a, .d⟩, none, .new 56 (.t ⟨.a, .b⟩), []⟩, ⟨some ⟨.a, .e⟩, none, .mv (.c (.c (.b false))), []⟩]) (.seq (.seq (.reg [⟨some ⟨.a, .h⟩, none, .call 63 [.t ⟨.a, .a⟩], []⟩,
  ⟨some ⟨.a, .f⟩, none, .mv (.t ⟨.a, .h⟩), []⟩]) (.seq (.reg [⟨some ⟨.a, .j⟩, none, .nc (.t ⟨.a, .f⟩), []⟩, ⟨some ⟨.a, .k⟩, none, .fa 2 (.t ⟨.a, .j⟩), []⟩, ⟨some ⟨.a, .l⟩, none, .ld 1 false (.t ⟨.a,
  .k⟩), []⟩, ⟨some ⟨.a, .m⟩, none, .call 64 [.t ⟨.a, .l⟩], []⟩]) (.cond (.t ⟨.a, .m⟩) (.seq (.blk 0 (.seq (.reg [⟨some ⟨.a, .o⟩, none, .fa 0 (.t ⟨.a, .d⟩), []⟩, ⟨some ⟨.a, .p⟩, none, .ld 1 false (.t
  ⟨.a, .o⟩), []⟩, ⟨some ⟨.b, .a⟩, none, .bin .eql (.t ⟨.a, .p⟩) (.c (.c (.i .i64 (.ofNat 3)))), []⟩, ⟨some ⟨.a, .n⟩, none, .mv (.t ⟨.b, .a⟩), []⟩]) (.cond (.t ⟨.a, .n⟩) (.seq (.reg [⟨some ⟨.b, .c⟩,
  none, .fa 2 (.t ⟨.a, .d⟩), []⟩, ⟨some ⟨.b, .d⟩, none, .ld 1 false (.t ⟨.b, .c⟩), []⟩, ⟨some ⟨.b, .e⟩, none, .call 65 [.t ⟨.a, .a⟩, .t ⟨.b, .d⟩], []⟩]) (.seq (.reg [⟨some ⟨.a, .e⟩, none, .mv (.c (.c
  (.b false))), []⟩]) .ret)) (.seq (.dreg [⟨some ⟨.b, .g⟩, none, .ld 5 true (.t ⟨.a, .d⟩), []⟩, ⟨some ⟨.b, .h⟩, none, .mv (.t ⟨.a, .f⟩), []⟩, ⟨some ⟨.b, .i⟩, none, .nc (.t ⟨.b, .h⟩), []⟩, ⟨some ⟨.b,
  .j⟩, none, .fa 2 (.t ⟨.b, .i⟩), []⟩, ⟨some ⟨.b, .k⟩, none, .ld 1 false (.t ⟨.b, .j⟩), []⟩, ⟨some ⟨.b, .l⟩, none, .bsl 9 1 1 [.s []] [(0, (1, .t ⟨.b, .k⟩))], []⟩, ⟨some ⟨.b, .m⟩, none, .call 66 [.t
  ⟨.b, .g⟩, .t ⟨.b, .l⟩], []⟩, ⟨some ⟨.b, .f⟩, none, .mv (.t ⟨.b, .m⟩), []⟩]) (.cond (.t ⟨.b, .f⟩) (.seq (.reg [⟨some ⟨.b, .o⟩, none, .call 67 [.t ⟨.a, .a⟩, .c (.c (.i .i64 (.ofNat 1)))], []⟩]) (.seq
  (.reg [⟨some ⟨.a, .e⟩, none, .mv (.c (.c (.b false))), []⟩]) .ret)) (.seq (.reg [⟨some ⟨.c, .a⟩, none, .fa 0 (.t ⟨.a, .d⟩), []⟩, ⟨some ⟨.c, .b⟩, none, .ld 1 false (.t ⟨.c, .a⟩), []⟩, ⟨some ⟨.c, .c⟩,
  none, .bin .eql (.t ⟨.c, .b⟩) (.c (.c (.i .i64 (.ofNat 4)))), []⟩, ⟨some ⟨.c, .d⟩, none, .mv (.t ⟨.c, .c⟩), []⟩, ⟨some ⟨.c, .e⟩, some (⟨.c, .d⟩, false), .fa 0 (.t ⟨.a, .d⟩), []⟩, ⟨some ⟨.c, .f⟩, some
  (⟨.c, .d⟩, false), .ld 1 false (.t ⟨.c, .e⟩), []⟩, ⟨some ⟨.c, .g⟩, some (⟨.c, .d⟩, false), .bin .eql (.t ⟨.c, .f⟩) (.c (.c (.i .i64 (.ofNat 5)))), []⟩, ⟨some ⟨.c, .h⟩, none, .pk (.t ⟨.c, .d⟩) (.c (.c
  (.b true))) (.t ⟨.c, .g⟩), []⟩, ⟨some ⟨.c, .i⟩, none, .mv (.t ⟨.c, .h⟩), []⟩, ⟨some ⟨.c, .j⟩, some (⟨.c, .i⟩, false), .fa 0 (.t ⟨.a, .d⟩), []⟩, ⟨some ⟨.c, .k⟩, some (⟨.c, .i⟩, false), .ld 1 false (.t
  ⟨.c, .j⟩), []⟩, ⟨some ⟨.c, .l⟩, some (⟨.c, .i⟩, false), .bin .eql (.t ⟨.c, .k⟩) (.c (.c (.i .i64 (.ofNat 2)))), []⟩, ⟨some ⟨.c, .m⟩, none, .pk (.t ⟨.c, .i⟩) (.c (.c (.b true))) (.t ⟨.c, .l⟩), []⟩,
  ⟨some ⟨.b, .p⟩, none, .mv (.t ⟨.c, .m⟩), []⟩]) (.cond (.t ⟨.b, .p⟩) (.seq (.reg [⟨some ⟨.a, .e⟩, none, .mv (.c (.c (.b false))), []⟩]) .ret) .skip))))))) (.seq (.reg [⟨some ⟨.c, .o⟩, none, .call 67
  [.t ⟨.a, .a⟩, .c (.c (.i .i64 (.ofNat 1)))], []⟩]) (.seq (.reg [⟨some ⟨.a, .e⟩, none, .mv (.c (.c (.b true))), []⟩]) .ret))) .skip))) (.seq (.seq (.reg [⟨some ⟨.d, .a⟩, none, .nc (.t ⟨.a, .a⟩), []⟩,
  ⟨some ⟨.d, .b⟩, none, .fa 5 (.t ⟨.d, .a⟩), []⟩, ⟨some ⟨.d, .c⟩, none, .ld 1 false (.t ⟨.d, .b⟩), []⟩]) (.blk 1 (.seq (.reg [⟨some ⟨.d, .e⟩, none, .bin .eql (.t ⟨.d, .c⟩) (.c (.c (.i .i64 (.ofNat
  0)))), []⟩, ⟨some ⟨.d, .d⟩, none, .mv (.t ⟨.d, .e⟩), []⟩]) (.cond (.t ⟨.d, .d⟩) (.seq (.reg [⟨some ⟨.d, .g⟩, none, .ld 5 true (.t ⟨.a, .d⟩), []⟩, ⟨some ⟨.d, .h⟩, none, .call 68 [.t ⟨.a, .a⟩, .t ⟨.d,
  .g⟩], []⟩, ⟨some ⟨.a, .e⟩, none, .mv (.t ⟨.d, .h⟩), []⟩]) .ret) (.seq (.reg [⟨some ⟨.d, .j⟩, none, .bin .eql (.t ⟨.d, .c⟩) (.c (.c (.i .i64 (.ofNat 1)))), []⟩, ⟨some ⟨.d, .i⟩, none, .mv (.t ⟨.d,
  .j⟩), []⟩]) (.cond (.t ⟨.d, .i⟩) (.seq (.reg [⟨some ⟨.d, .l⟩, none, .ld 5 true (.t ⟨.a, .d⟩), []⟩, ⟨some ⟨.d, .m⟩, none, .call 69 [.t ⟨.a, .a⟩, .t ⟨.d, .l⟩], []⟩, ⟨some ⟨.a, .e⟩, none, .mv (.t ⟨.d,
  .m⟩), []⟩]) .ret) (.seq (.reg [⟨some ⟨.d, .o⟩, none, .bin .eql (.t ⟨.d, .c⟩) (.c (.c (.i .i64 (.ofNat 2)))), []⟩, ⟨some ⟨.d, .n⟩, none, .mv (.t ⟨.d, .o⟩), []⟩]) (.cond (.t ⟨.d, .n⟩) (.seq (.reg
  [⟨some ⟨.e, .a⟩, none, .ld 5 true (.t ⟨.a, .d⟩), []⟩, ⟨some ⟨.e, .b⟩, none, .call 70 [.t ⟨.a, .a⟩, .t ⟨.e, .a⟩], []⟩, ⟨some ⟨.a, .e⟩, none, .mv (.t ⟨.e, .b⟩), []⟩]) .ret) (.seq (.reg [⟨some ⟨.e, .d⟩,
  none, .bin .eql (.t ⟨.d, .c⟩) (.c (.c (.i .i64 (.ofNat 3)))), []⟩, ⟨some ⟨.e, .c⟩, none, .mv (.t ⟨.e, .d⟩), []⟩]) (.cond (.t ⟨.e, .c⟩) (.seq (.reg [⟨some ⟨.e, .f⟩, none, .ld 5 true (.t ⟨.a, .d⟩),
  []⟩, ⟨some ⟨.e, .g⟩, none, .call 71 [.t ⟨.a, .a⟩, .t ⟨.e, .f⟩], []⟩, ⟨some ⟨.a, .e⟩, none, .mv (.t ⟨.e, .g⟩), []⟩]) .ret) (.seq (.reg [⟨some ⟨.e, .i⟩, none, .bin .eql (.t ⟨.d, .c⟩) (.c (.c (.i .i64
  (.ofNat 4)))), []⟩, ⟨some ⟨.e, .h⟩, none, .mv (.t ⟨.e, .i⟩), []⟩]) (.cond (.t ⟨.e, .h⟩) (.seq (.reg [⟨some ⟨.e, .k⟩, none, .ld 5 true (.t ⟨.a, .d⟩), []⟩, ⟨some ⟨.e, .l⟩, none, .call 72 [.t ⟨.a, .a⟩,
  .t ⟨.e, .k⟩], []⟩, ⟨some ⟨.a, .e⟩, none, .mv (.t ⟨.e, .l⟩), []⟩]) .ret) (.seq (.reg [⟨some ⟨.e, .n⟩, none, .bin .eql (.t ⟨.d, .c⟩) (.c (.c (.i .i64 (.ofNat 6)))), []⟩, ⟨some ⟨.e, .m⟩, none, .mv (.t
  ⟨.e, .n⟩), []⟩]) (.cond (.t ⟨.e, .m⟩) (.seq (.reg [⟨some ⟨.e, .p⟩, none, .ld 5 true (.t ⟨.a, .d⟩), []⟩, ⟨some ⟨.f, .a⟩, none, .call 73 [.t ⟨.a, .a⟩, .t ⟨.e, .p⟩], []⟩, ⟨some ⟨.a, .e⟩, none, .mv (.t
  ⟨.f, .a⟩), []⟩]) .ret) (.seq (.reg [⟨some ⟨.f, .c⟩, none, .bin .eql (.t ⟨.d, .c⟩) (.c (.c (.i .i64 (.ofNat 7)))), []⟩, ⟨some ⟨.f, .b⟩, none, .mv (.t ⟨.f, .c⟩), []⟩]) (.cond (.t ⟨.f, .b⟩) (.seq (.reg
  [⟨some ⟨.f, .e⟩, none, .ld 5 true (.t ⟨.a, .d⟩), []⟩, ⟨some ⟨.f, .f⟩, none, .call 74 [.t ⟨.a, .a⟩, .t ⟨.f, .e⟩], []⟩, ⟨some ⟨.a, .e⟩, none, .mv (.t ⟨.f, .f⟩), []⟩]) .ret) (.seq (.reg [⟨some ⟨.f, .h⟩,
  none, .bin .eql (.t ⟨.d, .c⟩) (.c (.c (.i .i64 (.ofNat 8)))), []⟩, ⟨some ⟨.f, .g⟩, none, .mv (.t ⟨.f, .h⟩), []⟩]) (.cond (.t ⟨.f, .g⟩) (.seq (.reg [⟨some ⟨.f, .j⟩, none, .ld 5 true (.t ⟨.a, .d⟩),
  []⟩, ⟨some ⟨.f, .k⟩, none, .call 75 [.t ⟨.a, .a⟩, .t ⟨.f, .j⟩], []⟩, ⟨some ⟨.a, .e⟩, none, .mv (.t ⟨.f, .k⟩), []⟩]) .ret) (.seq (.reg [⟨some ⟨.f, .m⟩, none, .bin .eql (.t ⟨.d, .c⟩) (.c (.c (.i .i64
  (.ofNat 9)))), []⟩, ⟨some ⟨.f, .l⟩, none, .mv (.t ⟨.f, .m⟩), []⟩]) (.cond (.t ⟨.f, .l⟩) (.seq (.reg [⟨some ⟨.f, .o⟩, none, .ld 5 true (.t ⟨.a, .d⟩), []⟩, ⟨some ⟨.f, .p⟩, none, .call 76 [.t ⟨.a, .a⟩,
  .t ⟨.f, .o⟩], []⟩, ⟨some ⟨.a, .e⟩, none, .mv (.t ⟨.f, .p⟩), []⟩]) .ret) (.seq (.reg [⟨some ⟨.g, .b⟩, none, .bin .eql (.t ⟨.d, .c⟩) (.c (.c (.i .i64 (.ofNat 10)))), []⟩, ⟨some ⟨.g, .a⟩, none, .mv (.t
  ⟨.g, .b⟩), []⟩]) (.cond (.t ⟨.g, .a⟩) (.seq (.reg [⟨some ⟨.g, .d⟩, none, .ld 5 true (.t ⟨.a, .d⟩), []⟩, ⟨some ⟨.g, .e⟩, none, .call 77 [.t ⟨.a, .a⟩, .t ⟨.g, .d⟩], []⟩, ⟨some ⟨.a, .e⟩, none, .mv (.t
  ⟨.g, .e⟩), []⟩]) .ret) (.seq (.reg [⟨some ⟨.g, .g⟩, none, .bin .eql (.t ⟨.d, .c⟩) (.c (.c (.i .i64 (.ofNat 11)))), []⟩, ⟨some ⟨.g, .f⟩, none, .mv (.t ⟨.g, .g⟩), []⟩]) (.cond (.t ⟨.g, .f⟩) (.seq (.reg
  [⟨some ⟨.g, .i⟩, none, .ld 5 true (.t ⟨.a, .d⟩), []⟩, ⟨some ⟨.g, .j⟩, none, .call 78 [.t ⟨.a, .a⟩, .t ⟨.g, .i⟩], []⟩, ⟨some ⟨.a, .e⟩, none, .mv (.t ⟨.g, .j⟩), []⟩]) .ret) (.seq (.reg [⟨some ⟨.g, .l⟩,
  none, .bin .eql (.t ⟨.d, .c⟩) (.c (.c (.i .i64 (.ofNat 12)))), []⟩, ⟨some ⟨.g, .k⟩, none, .mv (.t ⟨.g, .l⟩), []⟩]) (.cond (.t ⟨.g, .k⟩) (.seq (.reg [⟨some ⟨.g, .n⟩, none, .ld 5 true (.t ⟨.a, .d⟩),
  []⟩, ⟨some ⟨.g, .o⟩, none, .call 79 [.t ⟨.a, .a⟩, .t ⟨.g, .n⟩], []⟩, ⟨some ⟨.a, .e⟩, none, .mv (.t ⟨.g, .o⟩), []⟩]) .ret) .skip)))))))))))))))))))))))))) (.seq (.reg [⟨some ⟨.h, .a⟩, none, .ld 5 true
  (.t ⟨.a, .d⟩), []⟩, ⟨some ⟨.h, .b⟩, none, .call 80 [.t ⟨.a, .a⟩, .t ⟨.h, .a⟩], []⟩, ⟨some ⟨.a, .e⟩, none, .mv (.t ⟨.h, .b⟩), []⟩]) .ret))), [(⟨.a, .e⟩, none)]⟩

theorem ok42 : FnR Go.Proofs.Tryz.prog 0 42 cf42 := fnC_ok [6, 8, 17, 29, 45, 47, 53, 58, 63, 68, 73, 78, 83, 88, 93, 98, 103, 108, 111] Go.Proofs.Tryz.func42 (by kernel_rfl) (by kernel_rfl)

def cf43 : CF := ⟨19, 1, .seq (.reg [⟨some ⟨.a, .b⟩, none, .new 28 (.t ⟨.a, .a⟩), []⟩, ⟨some ⟨.a, .c⟩, none, .mv (.c (.c (.i .i64 (.ofNat 0)))), []⟩]) (.seq (.reg [⟨some ⟨.a, .d⟩, none, .mv (.c (.c (.i .i64 (.ofNat
  1)))), []⟩]) (.seq (.seq (.reg [⟨some ⟨.a, .g⟩, none, .fa 4 (.t ⟨.a, .b⟩), []⟩, ⟨some ⟨.a, .h⟩, none, .ld 1 false (.t ⟨.a, .g⟩), []⟩, ⟨some ⟨.a, .i⟩, none, .len true (.t ⟨.a, .h⟩), []⟩, ⟨some ⟨.a,
  .j⟩, none, .mv (.c (.c (.i .i64 (.ofNat 0)))), []⟩]) (.blk 0 (.loop (.seq (.reg [⟨some ⟨.a, .k⟩, none, .bin .lss (.t ⟨.a, .j⟩) (.t ⟨.a, .i⟩), []⟩]) (.seq (.cond (.t ⟨.a, .k⟩) .skip (.exit 0)) (.seq
  (.blk 1 (.seq (.reg [⟨some ⟨.a, .l⟩, none, .ia 5 (.t ⟨.a, .h⟩) (.t ⟨.a, .j⟩), []⟩, ⟨some ⟨.a, .m⟩, none, .ld 5 true (.t ⟨.a, .l⟩), []⟩, ⟨some ⟨.a, .f⟩, none, .new 28 (.c (.a [.i .i64 (.ofNat 0), .s
  [], .s [], .sl none 0 0 0, .sl none 0 0 0])), []⟩, ⟨none, none, .st 5 (.t ⟨.a, .f⟩) (.t ⟨.a, .m⟩), []⟩]) (.reg [⟨some ⟨.a, .o⟩, none, .ld 5 true (.t ⟨.a, .f⟩), []⟩, ⟨some ⟨.a, .p⟩, none, .call 43 [.t
  ⟨.a, .o⟩], []⟩, ⟨some ⟨.b, .a⟩, none, .bin .add (.t ⟨.a, .d⟩) (.t ⟨.a, .p⟩), []⟩, ⟨some ⟨.a, .d⟩, none, .mv (.t ⟨.b, .a⟩), []⟩]))) (.reg [⟨some ⟨.b, .b⟩, none, .bin .add (.t ⟨.a, .j⟩) (.c (.c (.i
  .i64 (.ofNat 1)))), []⟩, ⟨some ⟨.a, .j⟩, none, .mv (.t ⟨.b, .b⟩), []⟩]))))))) (.seq (.reg [⟨some ⟨.a, .c⟩, none, .mv (.t ⟨.a, .d⟩), []⟩]) .ret))), [(⟨.a, .c⟩, none)]⟩

theorem ok43 : FnR Go.Proofs.Tryz.prog 0 43 cf43 := fnC_ok [13, 18] Go.Proofs.Tryz.func43 (by kernel_rfl) (by kernel_rfl)

def cf44 : CF := ⟨20, 1, .seq (.reg [⟨some ⟨.a, .b⟩, none, .new 28 (.t ⟨.a, .a⟩), []⟩, ⟨some ⟨.a, .c⟩, none, .mv (.c (.c (.i .i64 (.ofNat 0)))), []⟩]) (.seq (.reg [⟨some ⟨.a, .d⟩, none, .mv (.c (.c (.i .i64 (.ofNat
  0)))), []⟩]) (.seq (.seq (.reg [⟨some ⟨.a, .g⟩, none, .fa 4 (.t ⟨.a, .b⟩), []⟩, ⟨some ⟨.a, .h⟩, none, .ld 1 false (.t ⟨.a, .g⟩), []⟩, ⟨some ⟨.a, .i⟩, none, .len true (.t ⟨.a, .h⟩), []⟩, ⟨some ⟨.a,
  .j⟩, none, .mv (.c (.c (.i .i64 (.ofNat 0)))), []⟩]) (.blk 0 (.loop (.seq (.reg [⟨some ⟨.a, .k⟩, none, .bin .lss (.t ⟨.a, .j⟩) (.t ⟨.a, .i⟩), []⟩]) (.seq (.cond (.t ⟨.a, .k⟩) .skip (.exit 0)) (.seq
  (.blk 1 (.seq (.reg [⟨some ⟨.a, .l⟩, none, .ia 5 (.t ⟨.a, .h⟩) (.t ⟨.a, .j⟩), []⟩, ⟨some ⟨.a, .m⟩, none, .ld 5 true (.t ⟨.a, .l⟩), []⟩, ⟨some ⟨.a, .f⟩, none, .new 28 (.c (.a [.i .i64 (.ofNat 0), .s
  [], .s [], .sl none 0 0 0, .sl none 0 0 0])), []⟩, ⟨none, none, .st 5 (.t ⟨.a, .f⟩) (.t ⟨.a, .m⟩), []⟩]) (.reg [⟨some ⟨.a, .o⟩, none, .ld 5 true (.t ⟨.a, .f⟩), []⟩, ⟨some ⟨.a, .p⟩, none, .call 44 [.t
  ⟨.a, .o⟩], []⟩, ⟨some ⟨.b, .a⟩, none, .mx (.t ⟨.a, .d⟩) (.t ⟨.a, .p⟩), []⟩, ⟨some ⟨.a, .d⟩, none, .mv (.t ⟨.b, .a⟩), []⟩]))) (.reg [⟨some ⟨.b, .b⟩, none, .bin .add (.t ⟨.a, .j⟩) (.c (.c (.i .i64
  (.ofNat 1)))), []⟩, ⟨some ⟨.a, .j⟩, none, .mv (.t ⟨.b, .b⟩), []⟩]))))))) (.seq (.reg [⟨some ⟨.b, .d⟩, none, .bin .add (.t ⟨.a, .d⟩) (.c (.c (.i .i64 (.ofNat 1)))), []⟩, ⟨some ⟨.a, .c⟩, none, .mv (.t
  ⟨.b, .d⟩), []⟩]) .ret))), [(⟨.a, .c⟩, none)]⟩

theorem ok44 : FnR Go.Proofs.Tryz.prog 0 44 cf44 := fnC_ok [13, 18] Go.Proofs.Tryz.func44 (by kernel_rfl) (by kernel_rfl)

def cf45 : CF := ⟨14, 1, .seq (.reg [⟨some ⟨.a, .c⟩, none, .mv (.c (.c (.b false))), []⟩]) (.seq (.seq (.reg [⟨some ⟨.a, .f⟩, none, .mv (.t ⟨.a, .a⟩), []⟩, ⟨some ⟨.a, .g⟩, none, .len true (.t ⟨.a, .f⟩), []⟩, ⟨some
  ⟨.a, .h⟩, none, .mv (.c (.c (.i .i64 (.ofNat 0)))), []⟩]) (.blk 0 (.loop (.seq (.reg [⟨some ⟨.a, .i⟩, none, .bin .lss (.t ⟨.a, .h⟩) (.t ⟨.a, .g⟩), []⟩]) (.seq (.cond (.t ⟨.a, .i⟩) .skip (.exit 0))
  (.seq (.blk 1 (.seq (.reg [⟨some ⟨.a, .j⟩, none, .ia 1 (.t ⟨.a, .f⟩) (.t ⟨.a, .h⟩), []⟩, ⟨some ⟨.a, .k⟩, none, .ld 1 false (.t ⟨.a, .j⟩), []⟩, ⟨some ⟨.a, .e⟩, none, .mv (.t ⟨.a, .k⟩), []⟩]) (.seq
  (.reg [⟨some ⟨.a, .m⟩, none, .bin .neq (.t ⟨.a, .e⟩) (.c (.c (.s []))), []⟩]) (.cond (.t ⟨.a, .m⟩) (.seq (.reg [⟨some ⟨.a, .c⟩, none, .mv (.c (.c (.b false))), []⟩]) .ret) .skip)))) (.reg [⟨some ⟨.a,
  .n⟩, none, .bin .add (.t ⟨.a, .h⟩) (.c (.c (.i .i64 (.ofNat 1)))), []⟩, ⟨some ⟨.a, .h⟩, none, .mv (.t ⟨.a, .n⟩), []⟩]))))))) (.seq (.reg [⟨some ⟨.a, .c⟩, none, .mv (.c (.c (.b true))), []⟩]) .ret)),
  [(⟨.a, .c⟩, none)]⟩

theorem ok45 : FnR Go.Proofs.Tryz.prog 0 45 cf45 := fnC_ok [11] Go.Proofs.Tryz.func45 (by kernel_rfl) (by kernel_rfl)

def cf46 : CF := ⟨26, 1, .seq (.reg [⟨some ⟨.a, .b⟩, none, .new 28 (.t ⟨.a, .a⟩), []⟩, ⟨some ⟨.a, .c⟩, none, .mv (.c (.c (.b false))), []⟩]) (.seq (.seq (.reg [⟨some ⟨.a, .f⟩, none, .fa 4 (.t ⟨.a, .b⟩), []⟩, ⟨some
  ⟨.a, .g⟩, none, .ld 1 false (.t ⟨.a, .f⟩), []⟩, ⟨some ⟨.a, .h⟩, none, .len true (.t ⟨.a, .g⟩), []⟩, ⟨some ⟨.a, .i⟩, none, .mv (.c (.c (.i .i64 (.ofNat 0)))), []⟩]) (.blk 0 (.loop (.seq (.reg [⟨some
  ⟨.a, .j⟩, none, .bin .lss (.t ⟨.a, .i⟩) (.t ⟨.a, .h⟩), []⟩]) (.seq (.cond (.t ⟨.a, .j⟩) .skip (.exit 0)) (.seq (.blk 1 (.seq (.reg [⟨some ⟨.a, .k⟩, none, .ia 5 (.t ⟨.a, .g⟩) (.t ⟨.a, .i⟩), []⟩, ⟨some
  ⟨.a, .l⟩, none, .ld 5 true (.t ⟨.a, .k⟩), []⟩, ⟨some ⟨.a, .e⟩, none, .new 28 (.c (.a [.i .i64 (.ofNat 0), .s [], .s [], .sl none 0 0 0, .sl none 0 0 0])), []⟩, ⟨none, none, .st 5 (.t ⟨.a, .e⟩) (.t
  ⟨.a, .l⟩), []⟩]) (.seq (.reg [⟨some ⟨.a, .m⟩, none, .ld 5 true (.t ⟨.a, .e⟩), []⟩, ⟨some ⟨.a, .n⟩, none, .call 81 [.t ⟨.a, .m⟩], []⟩, ⟨some ⟨.a, .o⟩, none, .un .not (.t ⟨.a, .n⟩), []⟩, ⟨some ⟨.a,
  .p⟩, none, .mv (.t ⟨.a, .o⟩), []⟩, ⟨some ⟨.b, .a⟩, some (⟨.a, .p⟩, false), .fa 0 (.t ⟨.a, .e⟩), []⟩, ⟨some ⟨.b, .b⟩, some (⟨.a, .p⟩, false), .ld 1 false (.t ⟨.b, .a⟩), []⟩, ⟨some ⟨.b, .c⟩, some (⟨.a,
  .p⟩, false), .bin .eql (.t ⟨.b, .b⟩) (.c (.c (.i .i64 (.ofNat 5)))), []⟩, ⟨some ⟨.b, .d⟩, some (⟨.a, .p⟩, false), .mv (.t ⟨.b, .c⟩), []⟩, ⟨some ⟨.b, .e⟩, some (⟨.b, .d⟩, true), .fa 0 (.t ⟨.a, .b⟩),
  []⟩, ⟨some ⟨.b, .f⟩, some (⟨.b, .d⟩, true), .ld 1 false (.t ⟨.b, .e⟩), []⟩, ⟨some ⟨.b, .g⟩, some (⟨.b, .d⟩, true), .bin .neq (.t ⟨.b, .f⟩) (.c (.c (.i .i64 (.ofNat 1)))), []⟩, ⟨some ⟨.b, .h⟩, some
  (⟨.a, .p⟩, false), .pk (.t ⟨.b, .d⟩) (.t ⟨.b, .g⟩) (.c (.c (.b false))), []⟩, ⟨some ⟨.b, .i⟩, none, .pk (.t ⟨.a, .p⟩) (.c (.c (.b true))) (.t ⟨.b, .h⟩), []⟩]) (.cond (.t ⟨.b, .i⟩) (.seq (.reg [⟨some
  ⟨.a, .c⟩, none, .mv (.c (.c (.b false))), []⟩]) .ret) .skip)))) (.reg [⟨some ⟨.b, .j⟩, none, .bin .add (.t ⟨.a, .i⟩) (.c (.c (.i .i64 (.ofNat 1)))), []⟩, ⟨some ⟨.a, .i⟩, none, .mv (.t ⟨.b, .j⟩),
  []⟩]))))))) (.seq (.reg [⟨some ⟨.a, .c⟩, none, .mv (.c (.c (.b true))), []⟩]) .ret)), [(⟨.a, .c⟩, none)]⟩

theorem ok46 : FnR Go.Proofs.Tryz.prog 0 46 cf46 := fnC_ok [] Go.Proofs.Tryz.func46 (by kernel_rfl) (by kernel_rfl)

def cf50 : CF := ⟨106, 2, .seq (.reg [⟨some ⟨.a, .e⟩, none, .mv (.c (.c (.i .i32 (.ofNat 0)))), []⟩, ⟨some ⟨.a, .f⟩, none, .mv (.c (.c (.i .i64 (.ofNat 0)))), []⟩]) (.seq (.reg [⟨some ⟨.a, .n⟩, none, .sx (.t ⟨.a,
  .a⟩) (.t ⟨.a, .b⟩), []⟩, ⟨some ⟨.a, .o⟩, none, .cv .i64 (.t ⟨.a, .n⟩), []⟩, ⟨some ⟨.a, .g⟩, none, .mv (.t ⟨.a, .o⟩), []⟩]) (.seq (.reg [⟨some ⟨.a, .h⟩, none, .mv (.c (.c (.i .i64 (.ofNat 0)))), []⟩,
  ⟨some ⟨.a, .i⟩, none, .mv (.c (.c (.i .i64 (.ofNat 0)))), []⟩, ⟨some ⟨.a, .j⟩, none, .mv (.c (.c (.i .i64 (.ofNat 0)))), []⟩]) (.seq (.blk 0 (.seq (.reg [⟨some ⟨.b, .b⟩, none, .bin .lss (.t ⟨.a, .g⟩)
  (.c (.c (.i .i64 (.ofNat 128)))), []⟩, ⟨some ⟨.a, .p⟩, none, .mv (.t ⟨.b, .b⟩), []⟩]) (.cond (.t ⟨.a, .p⟩) (.seq (.reg [⟨some ⟨.b, .d⟩, none, .cv .i32 (.t ⟨.a, .g⟩), []⟩, ⟨some ⟨.a, .e⟩, none, .mv
  (.t ⟨.b, .d⟩), []⟩, ⟨some ⟨.a, .f⟩, none, .mv (.c (.c (.i .i64 (.ofNat 1)))), []⟩]) .ret) (.seq (.reg [⟨some ⟨.b, .g⟩, none, .bin .geq (.t ⟨.a, .g⟩) (.c (.c (.i .i64 (.ofNat 192)))), []⟩, ⟨some ⟨.b,
  .h⟩, none, .mv (.t ⟨.b, .g⟩), []⟩, ⟨some ⟨.b, .i⟩, some (⟨.b, .h⟩, true), .mv (.t ⟨.a, .g⟩), []⟩, ⟨some ⟨.b, .j⟩, some (⟨.b, .h⟩, true), .bin .lss (.t ⟨.b, .i⟩) (.c (.c (.i .i64 (.ofNat 224)))), []⟩,
  ⟨some ⟨.b, .k⟩, none, .pk (.t ⟨.b, .h⟩) (.t ⟨.b, .j⟩) (.c (.c (.b false))), []⟩, ⟨some ⟨.b, .e⟩, none, .mv (.t ⟨.b, .k⟩), []⟩]) (.cond (.t ⟨.b, .e⟩) (.reg [⟨some ⟨.b, .m⟩, none, .bin .sub (.t ⟨.a,
  .g⟩) (.c (.c (.i .i64 (.ofNat 192)))), []⟩, ⟨some ⟨.a, .h⟩, none, .mv (.c (.c (.i .i64 (.ofNat 2)))), []⟩, ⟨some ⟨.a, .i⟩, none, .mv (.t ⟨.b, .m⟩), []⟩, ⟨some ⟨.a, .j⟩, none, .mv (.c (.c (.i .i64
  (.ofNat 128)))), []⟩]) (.seq (.reg [⟨some ⟨.b, .p⟩, none, .bin .geq (.t ⟨.a, .g⟩) (.c (.c (.i .i64 (.ofNat 224)))), []⟩, ⟨some ⟨.c, .a⟩, none, .mv (.t ⟨.b, .p⟩), []⟩, ⟨some ⟨.c, .b⟩, some (⟨.c, .a⟩,
  true), .mv (.t ⟨.a, .g⟩), []⟩, ⟨some ⟨.c, .c⟩, some (⟨.c, .a⟩, true), .bin .lss (.t ⟨.c, .b⟩) (.c (.c (.i .i64 (.ofNat 240)))), []⟩, ⟨some ⟨.c, .d⟩, none, .pk (.t ⟨.c, .a⟩) (.t ⟨.c, .c⟩) (.c (.c (.b
  false))), []⟩, ⟨some ⟨.b, .n⟩, none, .mv (.t ⟨.c, .d⟩), []⟩]) (.cond (.t ⟨.b, .n⟩) (.reg [⟨some ⟨.c, .f⟩, none, .bin .sub (.t ⟨.a, .g⟩) (.c (.c (.i .i64 (.ofNat 224)))), []⟩, ⟨some ⟨.a, .h⟩, none,
  .mv (.c (.c (.i .i64 (.ofNat 3)))), []⟩, ⟨some ⟨.a, .i⟩, none, .mv (.t ⟨.c, .f⟩), []⟩, ⟨some ⟨.a, .j⟩, none, .mv (.c (.c (.i .i64 (.ofNat 2048)))), []⟩]) (.seq (.reg [⟨some ⟨.c, .i⟩, none, .bin .geq
  (.t ⟨.a, .g⟩) (.c (.c (.i .i64 (.ofNat 240)))), []⟩, ⟨some ⟨.c, .j⟩, none, .mv (.t ⟨.c, .i⟩), []⟩, ⟨some ⟨.c, .k⟩, some (⟨.c, .j⟩, true), .mv (.t ⟨.a, .g⟩), []⟩, ⟨some ⟨.c, .l⟩, some (⟨.c, .j⟩,
  true), .bin .lss (.t ⟨.c, .k⟩) (.c (.c (.i .i64 (.ofNat 248)))), []⟩, ⟨some ⟨.c, .m⟩, none, .pk (.t ⟨.c, .j⟩) (.t ⟨.c, .l⟩) (.c (.c (.b false))), []⟩, ⟨some ⟨.c, .g⟩, none, .mv (.t ⟨.c, .m⟩), []⟩])
  (.cond (.t ⟨.c, .g⟩) (.reg [⟨some ⟨.c, .o⟩, none, .bin .sub (.t ⟨.a, .g⟩) (.c (.c (.i .i64 (.ofNat 240)))), []⟩, ⟨some ⟨.a, .h⟩, none, .mv (.c (.c (.i .i64 (.ofNat 4)))), []⟩, ⟨some ⟨.a, .i⟩, none,
  .mv (.t ⟨.c, .o⟩), []⟩, ⟨some ⟨.a, .j⟩, none, .mv (.c (.c (.i .i64 (.ofNat 65536)))), []⟩]) .skip))))))))) (.seq (.seq (.reg [⟨some ⟨.a, .k⟩, none, .mv (.c (.c (.i .i64 (.ofNat 1)))), []⟩]) (.blk 1
  (.loop (.seq (.seq (.reg [⟨some ⟨.d, .b⟩, none, .bin .lss (.t ⟨.a, .k⟩) (.t ⟨.a, .h⟩), []⟩]) (.cond (.t ⟨.d, .b⟩) .skip (.exit 1))) (.seq (.blk 2 (.seq (.seq (.reg [⟨some ⟨.d, .g⟩, none, .bin .add
  (.t ⟨.a, .b⟩) (.t ⟨.a, .k⟩), []⟩, ⟨some ⟨.d, .i⟩, none, .len false (.t ⟨.a, .a⟩), []⟩, ⟨some ⟨.d, .j⟩, none, .bin .geq (.t ⟨.d, .g⟩) (.t ⟨.d, .i⟩), []⟩, ⟨some ⟨.d, .k⟩, none, .mv (.t ⟨.d, .j⟩), []⟩,
  ⟨some ⟨.d, .l⟩, some (⟨.d, .k⟩, false), .mv (.t ⟨.a, .a⟩), []⟩, ⟨some ⟨.d, .m⟩, some (⟨.d, .k⟩, false), .mv (.t ⟨.a, .b⟩), []⟩, ⟨some ⟨.d, .n⟩, some (⟨.d, .k⟩, false), .mv (.t ⟨.a, .k⟩), []⟩, ⟨some
  ⟨.d, .o⟩, some (⟨.d, .k⟩, false), .bin .add (.t ⟨.d, .m⟩) (.t ⟨.d, .n⟩), []⟩, ⟨some ⟨.d, .p⟩, some (⟨.d, .k⟩, false), .sx (.t ⟨.d, .l⟩) (.t ⟨.d, .o⟩), []⟩, ⟨some ⟨.e, .a⟩, some (⟨.d, .k⟩, false),
  .bin .lss (.t ⟨.d, .p⟩) (.c (.c (.i .u8 (.ofNat 128)))), []⟩, ⟨some ⟨.e, .b⟩, none, .pk (.t ⟨.d, .k⟩) (.c (.c (.b true))) (.t ⟨.e, .a⟩), []⟩, ⟨some ⟨.e, .c⟩, none, .mv (.t ⟨.e, .b⟩), []⟩, ⟨some ⟨.e,
  .d⟩, some (⟨.e, .c⟩, false), .mv (.t ⟨.a, .a⟩), []⟩, ⟨some ⟨.e, .e⟩, some (⟨.e, .c⟩, false), .mv (.t ⟨.a, .b⟩), []⟩, ⟨some ⟨.e, .f⟩, some (⟨.e, .c⟩, false), .mv (.t ⟨.a, .k⟩), []⟩, ⟨some ⟨.e, .g⟩,
  some (⟨.e, .c⟩, false), .bin .add (.t ⟨.e, .e⟩) (.t ⟨.e, .f⟩), []⟩, ⟨some ⟨.e, .h⟩, some (⟨.e, .c⟩, false), .sx (.t ⟨.e, .d⟩) (.t ⟨.e, .g⟩), []⟩, ⟨some ⟨.e, .i⟩, some (⟨.e, .c⟩, false), .bin .gtr (.t
  ⟨.e, .h⟩) (.c (.c (.i .u8 (.ofNat 191)))), []⟩, ⟨some ⟨.e, .j⟩, none, .pk (.t ⟨.e, .c⟩) (.c (.c (.b true))) (.t ⟨.e, .i⟩), []⟩]) (.cond (.t ⟨.e, .j⟩) (.seq (.reg [⟨some ⟨.a, .e⟩, none, .mv (.c (.c
  (.i .i32 (.ofNat 0)))), []⟩, ⟨some ⟨.a, .f⟩, none, .mv (.c (.c (.i .i64 (.ofNat 0)))), []⟩]) .ret) .skip)) (.reg [⟨some ⟨.e, .l⟩, none, .bin .mul (.c (.c (.i .i64 (.ofNat 64)))) (.t ⟨.a, .i⟩), []⟩,
  ⟨some ⟨.e, .p⟩, none, .bin .add (.t ⟨.a, .b⟩) (.t ⟨.a, .k⟩), []⟩, ⟨some ⟨.f, .a⟩, none, .sx (.t ⟨.a, .a⟩) (.t ⟨.e, .p⟩), []⟩, ⟨some ⟨.f, .b⟩, none, .cv .i64 (.t ⟨.f, .a⟩), []⟩, ⟨some ⟨.f, .c⟩, none,
  .bin .add (.t ⟨.e, .l⟩) (.t ⟨.f, .b⟩), []⟩, ⟨some ⟨.f, .d⟩, none, .bin .sub (.t ⟨.f, .c⟩) (.c (.c (.i .i64 (.ofNat 128)))), []⟩, ⟨some ⟨.a, .i⟩, none, .mv (.t ⟨.f, .d⟩), []⟩]))) (.reg [⟨some ⟨.d,
  .d⟩, none, .bin .add (.t ⟨.a, .k⟩) (.c (.c (.i .i64 (.ofNat 1)))), []⟩, ⟨some ⟨.a, .k⟩, none, .mv (.t ⟨.d, .d⟩), []⟩])))))) (.seq (.seq (.reg [⟨some ⟨.f, .f⟩, none, .bin .eql (.t ⟨.a, .h⟩) (.c (.c
  (.i .i64 (.ofNat 0)))), []⟩, ⟨some ⟨.f, .g⟩, none, .mv (.t ⟨.f, .f⟩), []⟩, ⟨some ⟨.f, .h⟩, some (⟨.f, .g⟩, false), .mv (.t ⟨.a, .i⟩), []⟩, ⟨some ⟨.f, .i⟩, some (⟨.f, .g⟩, false), .mv (.t ⟨.a, .j⟩),
  []⟩, ⟨some ⟨.f, .j⟩, some (⟨.f, .g⟩, false), .bin .lss (.t ⟨.f, .h⟩) (.t ⟨.f, .i⟩), []⟩, ⟨some ⟨.f, .k⟩, none, .pk (.t ⟨.f, .g⟩) (.c (.c (.b true))) (.t ⟨.f, .j⟩), []⟩, ⟨some ⟨.f, .l⟩, none, .mv (.t
  ⟨.f, .k⟩), []⟩, ⟨some ⟨.f, .m⟩, some (⟨.f, .l⟩, false), .mv (.t ⟨.a, .i⟩), []⟩, ⟨some ⟨.f, .n⟩, some (⟨.f, .l⟩, false), .bin .gtr (.t ⟨.f, .m⟩) (.c (.c (.i .i64 (.ofNat 1114111)))), []⟩, ⟨some ⟨.f,
  .o⟩, none, .pk (.t ⟨.f, .l⟩) (.c (.c (.b true))) (.t ⟨.f, .n⟩), []⟩, ⟨some ⟨.f, .p⟩, none, .mv (.t ⟨.f, .o⟩), []⟩, ⟨some ⟨.g, .a⟩, some (⟨.f, .p⟩, false), .mv (.t ⟨.a, .i⟩), []⟩, ⟨some ⟨.g, .b⟩, some
  (⟨.f, .p⟩, false), .bin .geq (.t ⟨.g, .a⟩) (.c (.c (.i .i64 (.ofNat 55296)))), []⟩, ⟨some ⟨.g, .c⟩, some (⟨.f, .p⟩, false), .mv (.t ⟨.g, .b⟩), []⟩, ⟨some ⟨.g, .d⟩, some (⟨.g, .c⟩, true), .mv (.t ⟨.a,
  .i⟩), []⟩, ⟨some ⟨.g, .e⟩, some (⟨.g, .c⟩, true), .bin .leq (.t ⟨.g, .d⟩) (.c (.c (.i .i64 (.ofNat 57343)))), []⟩, ⟨some ⟨.g, .f⟩, some (⟨.f, .p⟩, false), .pk (.t ⟨.g, .c⟩) (.t ⟨.g, .e⟩) (.c (.c (.b
  false))), []⟩, ⟨some ⟨.g, .g⟩, none, .pk (.t ⟨.f, .p⟩) (.c (.c (.b true))) (.t ⟨.g, .f⟩), []⟩]) (.cond (.t ⟨.g, .g⟩) (.seq (.reg [⟨some ⟨.a, .e⟩, none, .mv (.c (.c (.i .i32 (.ofNat 0)))), []⟩, ⟨some
  ⟨.a, .f⟩, none, .mv (.c (.c (.i .i64 (.ofNat 0)))), []⟩]) .ret) .skip)) (.seq (.reg [⟨some ⟨.g, .i⟩, none, .cv .i32 (.t ⟨.a, .i⟩), []⟩, ⟨some ⟨.a, .e⟩, none, .mv (.t ⟨.g, .i⟩), []⟩, ⟨some ⟨.a, .f⟩,
  none, .mv (.t ⟨.a, .h⟩), []⟩]) .ret)))))), [(⟨.a, .e⟩, none), (⟨.a, .f⟩, none)]⟩

theorem ok50 : FnR Go.Proofs.Tryz.prog 0 50 cf50 := fnC_ok [11, 12, 16, 18, 21, 27, 30, 36, 39, 45, 47, 48, 50, 52, 53, 55, 74, 76, 77, 78, 84, 103, 105] Go.Proofs.Tryz.func50 (by kernel_rfl) (by kernel_rfl)

def cf51 : CF := ⟨35, 1, .seq (.reg [⟨some ⟨.a, .c⟩, none, .mv (.c (.c (.s []))), []⟩]) (.seq (.reg [⟨some ⟨.a, .g⟩, none, .s2b 5 (.t ⟨.a, .a⟩), []⟩, ⟨some ⟨.a, .d⟩, none, .mv (.t ⟨.a, .g⟩), []⟩]) (.seq (.seq (.reg
  [⟨some ⟨.a, .e⟩, none, .mv (.c (.c (.i .i64 (.ofNat 0)))), []⟩]) (.blk 0 (.loop (.seq (.seq (.reg [⟨some ⟨.a, .j⟩, none, .len true (.t ⟨.a, .d⟩), []⟩, ⟨some ⟨.a, .k⟩, none, .bin .lss (.t ⟨.a, .e⟩)
  (.t ⟨.a, .j⟩), []⟩]) (.cond (.t ⟨.a, .k⟩) .skip (.exit 0))) (.seq (.blk 1 (.seq (.reg [⟨some ⟨.a, .p⟩, none, .ia 1 (.t ⟨.a, .d⟩) (.t ⟨.a, .e⟩), []⟩, ⟨some ⟨.b, .a⟩, none, .ld 1 false (.t ⟨.a, .p⟩),
  []⟩, ⟨some ⟨.b, .b⟩, none, .bin .geq (.t ⟨.b, .a⟩) (.c (.c (.i .u8 (.ofNat 65)))), []⟩, ⟨some ⟨.b, .c⟩, none, .mv (.t ⟨.b, .b⟩), []⟩, ⟨some ⟨.b, .d⟩, some (⟨.b, .c⟩, true), .mv (.t ⟨.a, .d⟩), []⟩,
  ⟨some ⟨.b, .e⟩, some (⟨.b, .c⟩, true), .mv (.t ⟨.a, .e⟩), []⟩, ⟨some ⟨.b, .f⟩, some (⟨.b, .c⟩, true), .ia 1 (.t ⟨.b, .d⟩) (.t ⟨.b, .e⟩), []⟩, ⟨some ⟨.b, .g⟩, some (⟨.b, .c⟩, true), .ld 1 false (.t
  ⟨.b, .f⟩), []⟩, ⟨some ⟨.b, .h⟩, some (⟨.b, .c⟩, true), .bin .leq (.t ⟨.b, .g⟩) (.c (.c (.i .u8 (.ofNat 90)))), []⟩, ⟨some ⟨.b, .i⟩, none, .pk (.t ⟨.b, .c⟩) (.t ⟨.b, .h⟩) (.c (.c (.b false))), []⟩])
  (.cond (.t ⟨.b, .i⟩) (.reg [⟨some ⟨.b, .n⟩, none, .ia 1 (.t ⟨.a, .d⟩) (.t ⟨.a, .e⟩), []⟩, ⟨some ⟨.b, .o⟩, none, .ld 1 false (.t ⟨.b, .n⟩), []⟩, ⟨some ⟨.b, .p⟩, none, .bin .add (.t ⟨.b, .o⟩) (.c (.c
  (.i .u8 (.ofNat 32)))), []⟩, ⟨some ⟨.c, .a⟩, none, .ia 1 (.t ⟨.a, .d⟩) (.t ⟨.a, .e⟩), []⟩, ⟨none, none, .st 1 (.t ⟨.c, .a⟩) (.t ⟨.b, .p⟩), []⟩]) .skip))) (.reg [⟨some ⟨.a, .m⟩, none, .bin .add (.t
  ⟨.a, .e⟩) (.c (.c (.i .i64 (.ofNat 1)))), []⟩, ⟨some ⟨.a, .e⟩, none, .mv (.t ⟨.a, .m⟩), []⟩])))))) (.seq (.reg [⟨some ⟨.c, .c⟩, none, .b2s (.t ⟨.a, .d⟩), []⟩, ⟨some ⟨.a, .c⟩, none, .mv (.t ⟨.c, .c⟩),
  []⟩]) .ret))), [(⟨.a, .c⟩, none)]⟩

theorem ok51 : FnR Go.Proofs.Tryz.prog 0 51 cf51 := fnC_ok [5, 7, 8, 11, 13, 14, 25, 26, 27, 28, 33] Go.Proofs.Tryz.func51 (by kernel_rfl) (by kernel_rfl)

def cf52 : CF := ⟨42, 3, .seq (.reg [⟨some ⟨.a, .g⟩, none, .mv (.c (.c (.b false))), []⟩]) (.seq (.reg [⟨some ⟨.a, .j⟩, none, .bin .add (.t ⟨.a, .b⟩) (.c (.c (.i .i64 (.ofNat 2)))), []⟩, ⟨some ⟨.a, .l⟩, none, .len
  false (.t ⟨.a, .c⟩), []⟩, ⟨some ⟨.a, .m⟩, none, .bin .add (.t ⟨.a, .j⟩) (.t ⟨.a, .l⟩), []⟩, ⟨some ⟨.a, .h⟩, none, .mv (.t ⟨.a, .m⟩), []⟩]) (.seq (.reg [⟨some ⟨.b, .a⟩, none, .bin .add (.c (.c (.s
  [60, 47]))) (.t ⟨.a, .c⟩), []⟩, ⟨some ⟨.b, .b⟩, none, .call 57 [.t ⟨.a, .a⟩, .t ⟨.a, .b⟩, .t ⟨.b, .a⟩], []⟩, ⟨some ⟨.b, .c⟩, none, .mv (.t ⟨.b, .b⟩), []⟩, ⟨some ⟨.b, .d⟩, some (⟨.b, .c⟩, true), .mv
  (.t ⟨.a, .h⟩), []⟩, ⟨some ⟨.b, .e⟩, some (⟨.b, .c⟩, true), .mv (.t ⟨.a, .a⟩), []⟩, ⟨some ⟨.b, .f⟩, some (⟨.b, .c⟩, true), .len false (.t ⟨.b, .e⟩), []⟩, ⟨some ⟨.b, .g⟩, some (⟨.b, .c⟩, true), .bin
  .lss (.t ⟨.b, .d⟩) (.t ⟨.b, .f⟩), []⟩, ⟨some ⟨.b, .h⟩, none, .pk (.t ⟨.b, .c⟩) (.t ⟨.b, .g⟩) (.c (.c (.b false))), []⟩, ⟨some ⟨.b, .i⟩, none, .mv (.t ⟨.b, .h⟩), []⟩, ⟨some ⟨.b, .j⟩, some (⟨.b, .i⟩,
  true), .mv (.t ⟨.a, .a⟩), []⟩, ⟨some ⟨.b, .k⟩, some (⟨.b, .i⟩, true), .mv (.t ⟨.a, .h⟩), []⟩, ⟨some ⟨.b, .l⟩, some (⟨.b, .i⟩, true), .sx (.t ⟨.b, .j⟩) (.t ⟨.b, .k⟩), []⟩, ⟨some ⟨.b, .m⟩, some (⟨.b,
  .i⟩, true), .call 84 [.t ⟨.b, .l⟩], []⟩, ⟨some ⟨.b, .n⟩, some (⟨.b, .i⟩, true), .mv (.t ⟨.b, .m⟩), []⟩, ⟨some ⟨.b, .o⟩, some (⟨.b, .n⟩, false), .mv (.t ⟨.a, .a⟩), []⟩, ⟨some ⟨.b, .p⟩, some (⟨.b, .n⟩,
  false), .mv (.t ⟨.a, .h⟩), []⟩, ⟨some ⟨.c, .a⟩, some (⟨.b, .n⟩, false), .sx (.t ⟨.b, .o⟩) (.t ⟨.b, .p⟩), []⟩, ⟨some ⟨.c, .b⟩, some (⟨.b, .n⟩, false), .bin .eql (.t ⟨.c, .a⟩) (.c (.c (.i .u8 (.ofNat
  47)))), []⟩, ⟨some ⟨.c, .c⟩, some (⟨.b, .i⟩, true), .pk (.t ⟨.b, .n⟩) (.c (.c (.b true))) (.t ⟨.c, .b⟩), []⟩, ⟨some ⟨.c, .d⟩, some (⟨.b, .i⟩, true), .mv (.t ⟨.c, .c⟩), []⟩, ⟨some ⟨.c, .e⟩, some (⟨.c,
  .d⟩, false), .mv (.t ⟨.a, .a⟩), []⟩, ⟨some ⟨.c, .f⟩, some (⟨.c, .d⟩, false), .mv (.t ⟨.a, .h⟩), []⟩, ⟨some ⟨.c, .g⟩, some (⟨.c, .d⟩, false), .sx (.t ⟨.c, .e⟩) (.t ⟨.c, .f⟩), []⟩, ⟨some ⟨.c, .h⟩, some
  (⟨.c, .d⟩, false), .bin .eql (.t ⟨.c, .g⟩) (.c (.c (.i .u8 (.ofNat 62)))), []⟩, ⟨some ⟨.c, .i⟩, some (⟨.b, .i⟩, true), .pk (.t ⟨.c, .d⟩) (.c (.c (.b true))) (.t ⟨.c, .h⟩), []⟩, ⟨some ⟨.c, .j⟩, none,
  .pk (.t ⟨.b, .i⟩) (.t ⟨.c, .i⟩) (.c (.c (.b false))), []⟩, ⟨some ⟨.a, .g⟩, none, .mv (.t ⟨.c, .j⟩), []⟩]) .ret)), [(⟨.a, .g⟩, none)]⟩

theorem ok52 : FnR Go.Proofs.Tryz.prog 0 52 cf52 := fnC_ok [8, 10, 13, 14, 15] Go.Proofs.Tryz.func52 (by kernel_rfl) (by kernel_rfl)

def cf53 : CF := ⟨40, 2, .seq (.reg [⟨some ⟨.a, .e⟩, none, .mv (.c (.c (.s []))), []⟩]) (.seq (.reg [⟨some ⟨.a, .f⟩, none, .mv (.c (.c (.s []))), []⟩]) (.seq (.seq (.reg [⟨some ⟨.a, .g⟩, none, .mv (.c (.c (.i .i64
  (.ofNat 0)))), []⟩]) (.blk 0 (.loop (.seq (.seq (.reg [⟨some ⟨.a, .l⟩, none, .len false (.t ⟨.a, .a⟩), []⟩, ⟨some ⟨.a, .m⟩, none, .bin .lss (.t ⟨.a, .g⟩) (.t ⟨.a, .l⟩), []⟩]) (.cond (.t ⟨.a, .m⟩)
  .skip (.exit 0))) (.blk 1 (.seq (.seq (.reg [⟨some ⟨.a, .p⟩, none, .sx (.t ⟨.a, .a⟩) (.t ⟨.a, .g⟩), []⟩, ⟨some ⟨.b, .a⟩, none, .bin .eql (.t ⟨.a, .p⟩) (.c (.c (.i .u8 (.ofNat 38)))), []⟩]) (.cond (.t
  ⟨.b, .a⟩) (.seq (.reg [⟨some ⟨.b, .f⟩, none, .call 85 [.t ⟨.a, .a⟩, .t ⟨.a, .g⟩, .t ⟨.a, .b⟩], []⟩, ⟨some ⟨.b, .g⟩, none, .ext 0 (.t ⟨.b, .f⟩), []⟩, ⟨some ⟨.b, .h⟩, none, .ext 1 (.t ⟨.b, .f⟩), []⟩,
  ⟨some ⟨.a, .h⟩, none, .mv (.t ⟨.b, .g⟩), []⟩, ⟨some ⟨.a, .i⟩, none, .mv (.t ⟨.b, .h⟩), []⟩]) (.seq (.reg [⟨some ⟨.b, .k⟩, none, .bin .add (.t ⟨.a, .f⟩) (.t ⟨.a, .h⟩), []⟩, ⟨some ⟨.a, .f⟩, none, .mv
  (.t ⟨.b, .k⟩), []⟩]) (.seq (.reg [⟨some ⟨.b, .n⟩, none, .bin .add (.t ⟨.a, .g⟩) (.t ⟨.a, .i⟩), []⟩, ⟨some ⟨.a, .g⟩, none, .mv (.t ⟨.b, .n⟩), []⟩]) (.exit 1)))) .skip)) (.seq (.reg [⟨some ⟨.c, .c⟩,
  none, .bin .add (.t ⟨.a, .g⟩) (.c (.c (.i .i64 (.ofNat 1)))), []⟩, ⟨some ⟨.c, .d⟩, none, .sls (.t ⟨.a, .a⟩) (some (.t ⟨.a, .g⟩)) (some (.t ⟨.c, .c⟩)), []⟩, ⟨some ⟨.c, .e⟩, none, .bin .add (.t ⟨.a,
  .f⟩) (.t ⟨.c, .d⟩), []⟩, ⟨some ⟨.a, .f⟩, none, .mv (.t ⟨.c, .e⟩), []⟩]) (.reg [⟨some ⟨.c, .g⟩, none, .bin .add (.t ⟨.a, .g⟩) (.c (.c (.i .i64 (.ofNat 1)))), []⟩, ⟨some ⟨.a, .g⟩, none, .mv (.t ⟨.c,
  .g⟩), []⟩])))))))) (.seq (.reg [⟨some ⟨.a, .e⟩, none, .mv (.t ⟨.a, .f⟩), []⟩]) .ret))), [(⟨.a, .e⟩, none)]⟩

theorem ok53 : FnR Go.Proofs.Tryz.prog 0 53 cf53 := fnC_ok [9, 10, 13, 14, 17, 18, 19, 20, 24, 25, 27, 28, 30, 31, 32, 33, 37, 39] Go.Proofs.Tryz.func53 (by kernel_rfl) (by kernel_rfl)

def cf54 : CF := ⟨39, 2, .seq (.reg [⟨some ⟨.a, .e⟩, none, .new 56 (.c (.a [.i .i64 (.ofNat 0), .s [], .s [], .sl none 0 0 0, .b false])), []⟩, ⟨some ⟨.a, .f⟩, none, .mv (.c (.c (.i .i64 (.ofNat 0)))), []⟩, ⟨some
  ⟨.a, .g⟩, none, .mv (.c (.c (.b false))), []⟩]) (.seq (.reg [⟨some ⟨.a, .h⟩, none, .mv (.t ⟨.a, .b⟩), []⟩]) (.seq (.blk 0 (.loop (.seq (.seq (.dreg [⟨some ⟨.a, .j⟩, none, .mv (.t ⟨.a, .h⟩), []⟩,
  ⟨some ⟨.a, .k⟩, none, .mv (.t ⟨.a, .a⟩), []⟩, ⟨some ⟨.a, .l⟩, none, .len false (.t ⟨.a, .k⟩), []⟩, ⟨some ⟨.a, .m⟩, none, .bin .lss (.t ⟨.a, .j⟩) (.t ⟨.a, .l⟩), []⟩, ⟨some ⟨.a, .n⟩, none, .mv (.t ⟨.a,
  .m⟩), []⟩, ⟨some ⟨.a, .o⟩, some (⟨.a, .n⟩, true), .mv (.t ⟨.a, .a⟩), []⟩, ⟨some ⟨.a, .p⟩, some (⟨.a, .n⟩, true), .mv (.t ⟨.a, .h⟩), []⟩, ⟨some ⟨.b, .a⟩, some (⟨.a, .n⟩, true), .sx (.t ⟨.a, .o⟩) (.t
  ⟨.a, .p⟩), []⟩, ⟨some ⟨.b, .b⟩, some (⟨.a, .n⟩, true), .bin .neq (.t ⟨.b, .a⟩) (.c (.c (.i .u8 (.ofNat 60)))), []⟩, ⟨some ⟨.b, .c⟩, none, .pk (.t ⟨.a, .n⟩) (.t ⟨.b, .b⟩) (.c (.c (.b false))), []⟩,
  ⟨some ⟨.b, .d⟩, none, .mv (.t ⟨.b, .c⟩), []⟩, ⟨some ⟨.b, .e⟩, some (⟨.b, .d⟩, true), .mv (.t ⟨.a, .a⟩), []⟩, ⟨some ⟨.b, .f⟩, some (⟨.b, .d⟩, true), .mv (.t ⟨.a, .h⟩), []⟩, ⟨some ⟨.b, .g⟩, some (⟨.b,
  .d⟩, true), .sx (.t ⟨.b, .e⟩) (.t ⟨.b, .f⟩), []⟩, ⟨some ⟨.b, .i⟩, some (⟨.b, .d⟩, true), .mv (.t ⟨.a, .a⟩), []⟩, ⟨some ⟨.b, .j⟩, some (⟨.b, .d⟩, true), .mv (.t ⟨.a, .b⟩), []⟩, ⟨some ⟨.b, .k⟩, some
  (⟨.b, .d⟩, true), .sx (.t ⟨.b, .i⟩) (.t ⟨.b, .j⟩), []⟩, ⟨some ⟨.b, .h⟩, some (⟨.b, .d⟩, true), .call 84 [.t ⟨.b, .g⟩], []⟩, ⟨some ⟨.b, .l⟩, some (⟨.b, .d⟩, true), .call 84 [.t ⟨.b, .k⟩], []⟩, ⟨some
  ⟨.b, .m⟩, some (⟨.b, .d⟩, true), .bq false (.t ⟨.b, .h⟩) (.t ⟨.b, .l⟩), []⟩, ⟨some ⟨.b, .n⟩, none, .pk (.t ⟨.b, .d⟩) (.t ⟨.b, .m⟩) (.c (.c (.b false))), []⟩]) (.cond (.t ⟨.b, .n⟩) .skip (.exit 0)))
  (.blk 1 (.reg [⟨some ⟨.b, .p⟩, none, .bin .add (.t ⟨.a, .h⟩) (.c (.c (.i .i64 (.ofNat 1)))), []⟩, ⟨some ⟨.a, .h⟩, none, .mv (.t ⟨.b, .p⟩), []⟩]))))) (.seq (.reg [⟨some ⟨.c, .d⟩, none, .sls (.t ⟨.a,
  .a⟩) (some (.t ⟨.a, .b⟩)) (some (.t ⟨.a, .h⟩)), []⟩, ⟨some ⟨.c, .e⟩, none, .call 53 [.t ⟨.c, .d⟩, .c (.c (.b false))], []⟩, ⟨some ⟨.c, .f⟩, none, .bld [.i .i64 (.ofNat 0), .s [], .s [], .sl none 0 0
  0, .b false] [(0, (1, .c (.c (.i .i64 (.ofNat 3))))), (2, (1, .t ⟨.c, .e⟩))], []⟩, ⟨none, none, .st 5 (.t ⟨.a, .e⟩) (.t ⟨.c, .f⟩), []⟩, ⟨some ⟨.a, .f⟩, none, .mv (.t ⟨.a, .h⟩), []⟩, ⟨some ⟨.a, .g⟩,
  none, .mv (.c (.c (.b true))), []⟩]) .ret))), [(⟨.a, .e⟩, some (5, true)), (⟨.a, .f⟩, none), (⟨.a, .g⟩, none)]⟩

theorem ok54 : FnR Go.Proofs.Tryz.prog 0 54 cf54 := fnC_ok [8, 30, 32, 33, 34, 38] Go.Proofs.Tryz.func54 (by kernel_rfl) (by kernel_rfl)

def cf55 : CF := ⟨15, 2, .seq (.reg [⟨some ⟨.a, .e⟩, none, .mv (.c (.c (.b false))), []⟩]) (.seq (.reg [⟨some ⟨.a, .h⟩, none, .len false (.t ⟨.a, .a⟩), []⟩, ⟨some ⟨.a, .i⟩, none, .bin .lss (.t ⟨.a, .b⟩) (.t ⟨.a,
  .h⟩), []⟩, ⟨some ⟨.a, .j⟩, none, .mv (.t ⟨.a, .i⟩), []⟩, ⟨some ⟨.a, .k⟩, some (⟨.a, .j⟩, true), .mv (.t ⟨.a, .a⟩), []⟩, ⟨some ⟨.a, .l⟩, some (⟨.a, .j⟩, true), .mv (.t ⟨.a, .b⟩), []⟩, ⟨some ⟨.a, .m⟩,
  some (⟨.a, .j⟩, true), .sx (.t ⟨.a, .k⟩) (.t ⟨.a, .l⟩), []⟩, ⟨some ⟨.a, .n⟩, some (⟨.a, .j⟩, true), .call 86 [.t ⟨.a, .m⟩], []⟩, ⟨some ⟨.a, .o⟩, none, .pk (.t ⟨.a, .j⟩) (.t ⟨.a, .n⟩) (.c (.c (.b
  false))), []⟩, ⟨some ⟨.a, .e⟩, none, .mv (.t ⟨.a, .o⟩), []⟩]) .ret), [(⟨.a, .e⟩, none)]⟩

theorem ok55 : FnR Go.Proofs.Tryz.prog 0 55 cf55 := fnC_ok [5, 6] Go.Proofs.Tryz.func55 (by kernel_rfl) (by kernel_rfl)

def cf56 : CF := ⟨112, 3, .seq (.reg [⟨some ⟨.a, .g⟩, none, .new 56 (.c (.a [.i .i64 (.ofNat 0), .s [], .s [], .sl none 0 0 0, .b false])), []⟩, ⟨some ⟨.a, .h⟩, none, .mv (.c (.c (.i .i64 (.ofNat 0)))), []⟩, ⟨some
  ⟨.a, .i⟩, none, .mv (.c (.c (.b false))), []⟩]) (.seq (.reg [⟨some ⟨.a, .p⟩, none, .call 87 [.t ⟨.a, .a⟩, .t ⟨.a, .b⟩, .c (.c (.s [47, 62]))], []⟩, ⟨some ⟨.a, .j⟩, none, .mv (.t ⟨.a, .p⟩), []⟩])
  (.seq (.reg [⟨some ⟨.b, .e⟩, none, .sls (.t ⟨.a, .a⟩) (some (.t ⟨.a, .b⟩)) (some (.t ⟨.a, .j⟩)), []⟩, ⟨some ⟨.b, .f⟩, none, .call 88 [.t ⟨.b, .e⟩], []⟩, ⟨some ⟨.b, .g⟩, none, .bld [.i .i64 (.ofNat
  0), .s [], .s [], .sl none 0 0 0, .b false] [(0, (1, .t ⟨.a, .c⟩)), (1, (1, .t ⟨.b, .f⟩))], []⟩, ⟨some ⟨.a, .k⟩, none, .new 56 (.c (.a [.i .i64 (.ofNat 0), .s [], .s [], .sl none 0 0 0, .b false])),
  []⟩, ⟨none, none, .st 5 (.t ⟨.a, .k⟩) (.t ⟨.b, .g⟩), []⟩]) (.blk 0 (.loop (.blk 1 (.seq (.blk 2 (.loop (.seq (.seq (.reg [⟨some ⟨.b, .j⟩, none, .len false (.t ⟨.a, .a⟩), []⟩, ⟨some ⟨.b, .k⟩, none,
  .bin .lss (.t ⟨.a, .j⟩) (.t ⟨.b, .j⟩), []⟩, ⟨some ⟨.b, .l⟩, none, .mv (.t ⟨.b, .k⟩), []⟩, ⟨some ⟨.b, .m⟩, some (⟨.b, .l⟩, true), .mv (.t ⟨.a, .a⟩), []⟩, ⟨some ⟨.b, .n⟩, some (⟨.b, .l⟩, true), .mv (.t
  ⟨.a, .j⟩), []⟩, ⟨some ⟨.b, .o⟩, some (⟨.b, .l⟩, true), .sx (.t ⟨.b, .m⟩) (.t ⟨.b, .n⟩), []⟩, ⟨some ⟨.b, .p⟩, some (⟨.b, .l⟩, true), .call 84 [.t ⟨.b, .o⟩], []⟩, ⟨some ⟨.c, .a⟩, some (⟨.b, .l⟩, true),
  .mv (.t ⟨.b, .p⟩), []⟩, ⟨some ⟨.c, .b⟩, some (⟨.c, .a⟩, false), .mv (.t ⟨.a, .a⟩), []⟩, ⟨some ⟨.c, .c⟩, some (⟨.c, .a⟩, false), .mv (.t ⟨.a, .j⟩), []⟩, ⟨some ⟨.c, .d⟩, some (⟨.c, .a⟩, false), .sx (.t
  ⟨.c, .b⟩) (.t ⟨.c, .c⟩), []⟩, ⟨some ⟨.c, .e⟩, some (⟨.c, .a⟩, false), .bin .eql (.t ⟨.c, .d⟩) (.c (.c (.i .u8 (.ofNat 47)))), []⟩, ⟨some ⟨.c, .f⟩, some (⟨.b, .l⟩, true), .pk (.t ⟨.c, .a⟩) (.c (.c (.b
  true))) (.t ⟨.c, .e⟩), []⟩, ⟨some ⟨.c, .g⟩, none, .pk (.t ⟨.b, .l⟩) (.t ⟨.c, .f⟩) (.c (.c (.b false))), []⟩]) (.cond (.t ⟨.c, .g⟩) .skip (.exit 2))) (.blk 3 (.reg [⟨some ⟨.c, .i⟩, none, .bin .add (.t
  ⟨.a, .j⟩) (.c (.c (.i .i64 (.ofNat 1)))), []⟩, ⟨some ⟨.a, .j⟩, none, .mv (.t ⟨.c, .i⟩), []⟩]))))) (.seq (.seq (.reg [⟨some ⟨.c, .l⟩, none, .len false (.t ⟨.a, .a⟩), []⟩, ⟨some ⟨.c, .m⟩, none, .bin
  .geq (.t ⟨.a, .j⟩) (.t ⟨.c, .l⟩), []⟩]) (.cond (.t ⟨.c, .m⟩) (.seq (.reg [⟨some ⟨.c, .n⟩, none, .bld [.i .i64 (.ofNat 0), .s [], .s [], .sl none 0 0 0, .b false] [], []⟩, ⟨some ⟨.c, .p⟩, none, .len
  false (.t ⟨.a, .a⟩), []⟩, ⟨none, none, .st 5 (.t ⟨.a, .g⟩) (.t ⟨.c, .n⟩), []⟩, ⟨some ⟨.a, .h⟩, none, .mv (.t ⟨.c, .p⟩), []⟩, ⟨some ⟨.a, .i⟩, none, .mv (.c (.c (.b false))), []⟩]) .ret) .skip)) (.seq
  (.seq (.reg [⟨some ⟨.d, .c⟩, none, .sx (.t ⟨.a, .a⟩) (.t ⟨.a, .j⟩), []⟩, ⟨some ⟨.d, .d⟩, none, .bin .eql (.t ⟨.d, .c⟩) (.c (.c (.i .u8 (.ofNat 62)))), []⟩]) (.cond (.t ⟨.d, .d⟩) (.seq (.seq (.reg
  [⟨some ⟨.d, .f⟩, none, .bin .eql (.t ⟨.a, .c⟩) (.c (.c (.i .i64 (.ofNat 2)))), []⟩]) (.cond (.t ⟨.d, .f⟩) (.reg [⟨some ⟨.d, .g⟩, none, .fa 3 (.t ⟨.a, .k⟩), []⟩, ⟨none, none, .st 1 (.t ⟨.d, .g⟩) (.c
  (.c (.sl none 0 0 0))), []⟩]) .skip)) (.seq (.reg [⟨some ⟨.d, .h⟩, none, .ld 5 true (.t ⟨.a, .k⟩), []⟩, ⟨some ⟨.d, .j⟩, none, .bin .add (.t ⟨.a, .j⟩) (.c (.c (.i .i64 (.ofNat 1)))), []⟩, ⟨none, none,
  .st 5 (.t ⟨.a, .g⟩) (.t ⟨.d, .h⟩), []⟩, ⟨some ⟨.a, .h⟩, none, .mv (.t ⟨.d, .j⟩), []⟩, ⟨some ⟨.a, .i⟩, none, .mv (.c (.c (.b true))), []⟩]) .ret)) .skip)) (.seq (.reg [⟨some ⟨.d, .m⟩, none, .bin .add
  (.t ⟨.a, .j⟩) (.c (.c (.i .i64 (.ofNat 1)))), []⟩, ⟨some ⟨.d, .n⟩, none, .call 87 [.t ⟨.a, .a⟩, .t ⟨.d, .m⟩, .c (.c (.s [47, 62, 61]))], []⟩, ⟨some ⟨.a, .l⟩, none, .mv (.t ⟨.d, .n⟩), []⟩]) (.seq
  (.reg [⟨some ⟨.e, .b⟩, none, .sls (.t ⟨.a, .a⟩) (some (.t ⟨.a, .j⟩)) (some (.t ⟨.a, .l⟩)), []⟩, ⟨some ⟨.e, .c⟩, none, .call 88 [.t ⟨.e, .b⟩], []⟩, ⟨some ⟨.e, .d⟩, none, .bld [.s [], .s []] [(0, (1,
  .t ⟨.e, .c⟩))], []⟩, ⟨some ⟨.a, .m⟩, none, .new 84 (.c (.a [.s [], .s []])), []⟩, ⟨none, none, .st 2 (.t ⟨.a, .m⟩) (.t ⟨.e, .d⟩), []⟩]) (.seq (.reg [⟨some ⟨.e, .g⟩, none, .call 89 [.t ⟨.a, .a⟩, .t
  ⟨.a, .l⟩], []⟩, ⟨some ⟨.a, .j⟩, none, .mv (.t ⟨.e, .g⟩), []⟩]) (.seq (.seq (.reg [⟨some ⟨.e, .j⟩, none, .len false (.t ⟨.a, .a⟩), []⟩, ⟨some ⟨.e, .k⟩, none, .bin .lss (.t ⟨.a, .j⟩) (.t ⟨.e, .j⟩),
  []⟩, ⟨some ⟨.e, .l⟩, none, .mv (.t ⟨.e, .k⟩), []⟩, ⟨some ⟨.e, .m⟩, some (⟨.e, .l⟩, true), .mv (.t ⟨.a, .a⟩), []⟩, ⟨some ⟨.e, .n⟩, some (⟨.e, .l⟩, true), .mv (.t ⟨.a, .j⟩), []⟩, ⟨some ⟨.e, .o⟩, some
  (⟨.e, .l⟩, true), .sx (.t ⟨.e, .m⟩) (.t ⟨.e, .n⟩), []⟩, ⟨some ⟨.e, .p⟩, some (⟨.e, .l⟩, true), .bin .eql (.t ⟨.e, .o⟩) (.c (.c (.i .u8 (.ofNat 61)))), []⟩, ⟨some ⟨.f, .a⟩, none, .pk (.t ⟨.e, .l⟩) (.t
  ⟨.e, .p⟩) (.c (.c (.b false))), []⟩]) (.cond (.t ⟨.f, .a⟩) (.seq (.reg [⟨some ⟨.f, .f⟩, none, .bin .add (.t ⟨.a, .j⟩) (.c (.c (.i .i64 (.ofNat 1)))), []⟩, ⟨some ⟨.f, .g⟩, none, .call 89 [.t ⟨.a, .a⟩,
  .t ⟨.f, .f⟩], []⟩, ⟨some ⟨.f, .h⟩, none, .call 90 [.t ⟨.a, .a⟩, .t ⟨.f, .g⟩], []⟩, ⟨some ⟨.f, .i⟩, none, .ext 0 (.t ⟨.f, .h⟩), []⟩, ⟨some ⟨.f, .j⟩, none, .ext 1 (.t ⟨.f, .h⟩), []⟩, ⟨some ⟨.f, .k⟩,
  none, .fa 1 (.t ⟨.a, .m⟩), []⟩, ⟨none, none, .st 1 (.t ⟨.f, .k⟩) (.t ⟨.f, .i⟩), []⟩, ⟨some ⟨.a, .j⟩, none, .mv (.t ⟨.f, .j⟩), []⟩]) (.seq (.reg [⟨some ⟨.f, .n⟩, none, .len false (.t ⟨.a, .a⟩), []⟩,
  ⟨some ⟨.f, .o⟩, none, .bin .gtr (.t ⟨.a, .j⟩) (.t ⟨.f, .n⟩), []⟩]) (.cond (.t ⟨.f, .o⟩) (.seq (.reg [⟨some ⟨.f, .p⟩, none, .bld [.i .i64 (.ofNat 0), .s [], .s [], .sl none 0 0 0, .b false] [], []⟩,
  ⟨some ⟨.g, .b⟩, none, .len false (.t ⟨.a, .a⟩), []⟩, ⟨none, none, .st 5 (.t ⟨.a, .g⟩) (.t ⟨.f, .p⟩), []⟩, ⟨some ⟨.a, .h⟩, none, .mv (.t ⟨.g, .b⟩), []⟩, ⟨some ⟨.a, .i⟩, none, .mv (.c (.c (.b false))),
  []⟩]) .ret) .skip))) .skip)) (.seq (.reg [⟨some ⟨.g, .c⟩, none, .fa 3 (.t ⟨.a, .k⟩), []⟩, ⟨some ⟨.g, .d⟩, none, .ld 1 false (.t ⟨.g, .c⟩), []⟩, ⟨some ⟨.g, .e⟩, none, .fa 0 (.t ⟨.a, .m⟩), []⟩, ⟨some
  ⟨.g, .f⟩, none, .ld 1 false (.t ⟨.g, .e⟩), []⟩, ⟨some ⟨.g, .g⟩, none, .call 91 [.t ⟨.g, .d⟩, .t ⟨.g, .f⟩], []⟩, ⟨some ⟨.g, .h⟩, none, .un .not (.t ⟨.g, .g⟩), []⟩]) (.cond (.t ⟨.g, .h⟩) (.reg [⟨some
  ⟨.g, .i⟩, none, .fa 3 (.t ⟨.a, .k⟩), []⟩, ⟨some ⟨.g, .j⟩, none, .ld 1 false (.t ⟨.g, .i⟩), []⟩, ⟨some ⟨.g, .k⟩, none, .fa 0 (.t ⟨.a, .m⟩), []⟩, ⟨some ⟨.g, .l⟩, none, .ld 1 false (.t ⟨.g, .k⟩), []⟩,
  ⟨some ⟨.g, .m⟩, none, .fa 1 (.t ⟨.a, .m⟩), []⟩, ⟨some ⟨.g, .n⟩, none, .ld 1 false (.t ⟨.g, .m⟩), []⟩, ⟨some ⟨.g, .o⟩, none, .call 92 [.t ⟨.g, .j⟩, .t ⟨.g, .l⟩, .t ⟨.g, .n⟩], []⟩, ⟨some ⟨.g, .p⟩,
  none, .fa 3 (.t ⟨.a, .k⟩), []⟩, ⟨none, none, .st 1 (.t ⟨.g, .p⟩) (.t ⟨.g, .o⟩), []⟩]) .skip)))))))))))))), [(⟨.a, .g⟩, some (5, true)), (⟨.a, .h⟩, none), (⟨.a, .i⟩, none)]⟩

theorem ok56 : FnR Go.Proofs.Tryz.prog 0 56 cf56 := fnC_ok [13, 14, 16, 17, 18, 19, 23, 24, 39, 41, 42, 46, 48, 49, 52, 56, 58, 59, 62, 63, 64, 68, 69, 71, 72, 81, 82, 83, 84, 91, 92, 96] Go.Proofs.Tryz.func56 (by kernel_rfl) (by kernel_rfl)

def cf57 : CF := ⟨30, 3, .seq (.reg [⟨some ⟨.a, .g⟩, none, .mv (.c (.c (.b false))), []⟩]) (.seq (.reg [⟨some ⟨.a, .i⟩, none, .bin .geq (.t ⟨.a, .b⟩) (.c (.c (.i .i64 (.ofNat 0)))), []⟩, ⟨some ⟨.a, .j⟩, none, .mv (.t
  ⟨.a, .i⟩), []⟩, ⟨some ⟨.a, .k⟩, some (⟨.a, .j⟩, true), .mv (.t ⟨.a, .c⟩), []⟩, ⟨some ⟨.a, .l⟩, some (⟨.a, .j⟩, true), .len false (.t ⟨.a, .k⟩), []⟩, ⟨some ⟨.a, .m⟩, some (⟨.a, .j⟩, true), .mv (.t
  ⟨.a, .a⟩), []⟩, ⟨some ⟨.a, .n⟩, some (⟨.a, .j⟩, true), .len false (.t ⟨.a, .m⟩), []⟩, ⟨some ⟨.a, .o⟩, some (⟨.a, .j⟩, true), .mv (.t ⟨.a, .b⟩), []⟩, ⟨some ⟨.a, .p⟩, some (⟨.a, .j⟩, true), .bin .sub
  (.t ⟨.a, .n⟩) (.t ⟨.a, .o⟩), []⟩, ⟨some ⟨.b, .a⟩, some (⟨.a, .j⟩, true), .bin .leq (.t ⟨.a, .l⟩) (.t ⟨.a, .p⟩), []⟩, ⟨some ⟨.b, .b⟩, none, .pk (.t ⟨.a, .j⟩) (.t ⟨.b, .a⟩) (.c (.c (.b false))), []⟩,
  ⟨some ⟨.b, .c⟩, none, .mv (.t ⟨.b, .b⟩), []⟩, ⟨some ⟨.b, .d⟩, some (⟨.b, .c⟩, true), .mv (.t ⟨.a, .a⟩), []⟩, ⟨some ⟨.b, .e⟩, some (⟨.b, .c⟩, true), .mv (.t ⟨.a, .b⟩), []⟩, ⟨some ⟨.b, .f⟩, some (⟨.b,
  .c⟩, true), .mv (.t ⟨.a, .b⟩), []⟩, ⟨some ⟨.b, .g⟩, some (⟨.b, .c⟩, true), .mv (.t ⟨.a, .c⟩), []⟩, ⟨some ⟨.b, .h⟩, some (⟨.b, .c⟩, true), .len false (.t ⟨.b, .g⟩), []⟩, ⟨some ⟨.b, .i⟩, some (⟨.b,
  .c⟩, true), .bin .add (.t ⟨.b, .f⟩) (.t ⟨.b, .h⟩), []⟩, ⟨some ⟨.b, .j⟩, some (⟨.b, .c⟩, true), .sls (.t ⟨.b, .d⟩) (some (.t ⟨.b, .e⟩)) (some (.t ⟨.b, .i⟩)), []⟩, ⟨some ⟨.b, .k⟩, some (⟨.b, .c⟩,
  true), .call 51 [.t ⟨.b, .j⟩], []⟩, ⟨some ⟨.b, .l⟩, some (⟨.b, .c⟩, true), .mv (.t ⟨.a, .c⟩), []⟩, ⟨some ⟨.b, .m⟩, some (⟨.b, .c⟩, true), .bin .eql (.t ⟨.b, .k⟩) (.t ⟨.b, .l⟩), []⟩, ⟨some ⟨.b, .n⟩,
  none, .pk (.t ⟨.b, .c⟩) (.t ⟨.b, .m⟩) (.c (.c (.b false))), []⟩, ⟨some ⟨.a, .g⟩, none, .mv (.t ⟨.b, .n⟩), []⟩]) .ret), [(⟨.a, .g⟩, none)]⟩

theorem ok57 : FnR Go.Proofs.Tryz.prog 0 57 cf57 := fnC_ok [7] Go.Proofs.Tryz.func57 (by kernel_rfl) (by kernel_rfl)

def cf62 : CF := ⟨19, 2, .seq (.reg [⟨some ⟨.a, .e⟩, none, .mv (.c (.c (.i .i64 (.ofNat 0)))), []⟩]) (.seq (.seq (.reg [⟨some ⟨.a, .h⟩, none, .len true (.t ⟨.a, .a⟩), []⟩, ⟨some ⟨.a, .i⟩, none, .mv (.c (.c (.i .i64
  (.ofNat 0)))), []⟩]) (.blk 0 (.loop (.seq (.reg [⟨some ⟨.a, .j⟩, none, .bin .lss (.t ⟨.a, .i⟩) (.t ⟨.a, .h⟩), []⟩]) (.seq (.cond (.t ⟨.a, .j⟩) .skip (.exit 0)) (.seq (.blk 1 (.seq (.reg [⟨some ⟨.a,
  .f⟩, none, .mv (.t ⟨.a, .i⟩), []⟩]) (.seq (.reg [⟨some ⟨.a, .o⟩, none, .ia 2 (.t ⟨.a, .a⟩) (.t ⟨.a, .f⟩), []⟩, ⟨some ⟨.a, .p⟩, none, .ld 2 true (.t ⟨.a, .o⟩), []⟩, ⟨some ⟨.b, .a⟩, none, .callv (.t
  ⟨.a, .b⟩) [.t ⟨.a, .p⟩], []⟩]) (.cond (.t ⟨.b, .a⟩) (.seq (.reg [⟨some ⟨.a, .e⟩, none, .mv (.t ⟨.a, .f⟩), []⟩]) .ret) .skip)))) (.reg [⟨some ⟨.b, .c⟩, none, .bin .add (.t ⟨.a, .i⟩) (.c (.c (.i .i64
  (.ofNat 1)))), []⟩, ⟨some ⟨.a, .i⟩, none, .mv (.t ⟨.b, .c⟩), []⟩]))))))) (.seq (.reg [⟨some ⟨.a, .e⟩, none, .mv (.c (.c (.i .i64 (.negSucc 0)))), []⟩]) .ret)), [(⟨.a, .e⟩, none)]⟩

theorem ok62 : FnR Go.Proofs.Tryz.prog 0 62 cf62 := fnC_ok [6, 10, 11, 12, 13, 17] Go.Proofs.Tryz.func62 (by kernel_rfl) (by kernel_rfl)

def cf63 : CF := ⟨25, 1, .seq (.reg [⟨some ⟨.a, .c⟩, none, .mv (.c (.c (.p none))), []⟩]) (.seq (.seq (.reg [⟨some ⟨.a, .e⟩, none, .nc (.t ⟨.a, .a⟩), []⟩, ⟨some ⟨.a, .f⟩, none, .fa 3 (.t ⟨.a, .e⟩), []⟩, ⟨some ⟨.a,
  .g⟩, none, .ld 1 false (.t ⟨.a, .f⟩), []⟩, ⟨some ⟨.a, .h⟩, none, .len true (.t ⟨.a, .g⟩), []⟩, ⟨some ⟨.a, .i⟩, none, .bin .eql (.t ⟨.a, .h⟩) (.c (.c (.i .i64 (.ofNat 0)))), []⟩]) (.cond (.t ⟨.a, .i⟩)
  (.seq (.reg [⟨some ⟨.a, .k⟩, none, .nc (.t ⟨.a, .a⟩), []⟩, ⟨some ⟨.a, .l⟩, none, .fa 0 (.t ⟨.a, .k⟩), []⟩, ⟨some ⟨.a, .m⟩, none, .ld 1 false (.t ⟨.a, .l⟩), []⟩, ⟨some ⟨.a, .c⟩, none, .mv (.t ⟨.a,
  .m⟩), []⟩]) .ret) .skip)) (.seq (.dreg [⟨some ⟨.a, .n⟩, none, .mv (.t ⟨.a, .a⟩), []⟩, ⟨some ⟨.a, .o⟩, none, .nc (.t ⟨.a, .n⟩), []⟩, ⟨some ⟨.a, .p⟩, none, .fa 3 (.t ⟨.a, .o⟩), []⟩, ⟨some ⟨.b, .a⟩,
  none, .ld 1 false (.t ⟨.a, .p⟩), []⟩, ⟨some ⟨.b, .b⟩, none, .mv (.t ⟨.a, .a⟩), []⟩, ⟨some ⟨.b, .c⟩, none, .nc (.t ⟨.b, .b⟩), []⟩, ⟨some ⟨.b, .d⟩, none, .fa 3 (.t ⟨.b, .c⟩), []⟩, ⟨some ⟨.b, .e⟩, none,
  .ld 1 false (.t ⟨.b, .d⟩), []⟩, ⟨some ⟨.b, .f⟩, none, .len true (.t ⟨.b, .e⟩), []⟩, ⟨some ⟨.b, .g⟩, none, .bin .sub (.t ⟨.b, .f⟩) (.c (.c (.i .i64 (.ofNat 1)))), []⟩, ⟨some ⟨.b, .h⟩, none, .ia 1 (.t
  ⟨.b, .a⟩) (.t ⟨.b, .g⟩), []⟩, ⟨some ⟨.b, .i⟩, none, .ld 1 false (.t ⟨.b, .h⟩), []⟩, ⟨some ⟨.a, .c⟩, none, .mv (.t ⟨.b, .i⟩), []⟩]) .ret)), [(⟨.a, .c⟩, none)]⟩

theorem ok63 : FnR Go.Proofs.Tryz.prog 0 63 cf63 := fnC_ok [3, 9] Go.Proofs.Tryz.func63 (by kernel_rfl) (by kernel_rfl)

def cf64 : CF := ⟨13, 1, .seq (.reg [⟨some ⟨.a, .c⟩, none, .mv (.c (.c (.b false))), []⟩]) (.seq (.seq (.reg [⟨some ⟨.a, .d⟩, none, .mv (.t ⟨.a, .a⟩), []⟩]) (.blk 0 (.seq (.seq (.reg [⟨some ⟨.a, .f⟩, none, .bin .eql
  (.t ⟨.a, .d⟩) (.c (.c (.s [116, 105, 116, 108, 101]))), []⟩, ⟨some ⟨.a, .e⟩, none, .mv (.t ⟨.a, .f⟩), []⟩]) (.cond (.t ⟨.a, .e⟩) .skip (.seq (.reg [⟨some ⟨.a, .g⟩, none, .bin .eql (.t ⟨.a, .d⟩) (.c
  (.c (.s [116, 101, 120, 116, 97, 114, 101, 97]))), []⟩, ⟨some ⟨.a, .e⟩, none, .mv (.t ⟨.a, .g⟩), []⟩]) (.cond (.t ⟨.a, .e⟩) .skip (.seq (.reg [⟨some ⟨.a, .h⟩, none, .bin .eql (.t ⟨.a, .d⟩) (.c (.c
  (.s [115, 116, 121, 108, 101]))), []⟩, ⟨some ⟨.a, .e⟩, none, .mv (.t ⟨.a, .h⟩), []⟩]) (.cond (.t ⟨.a, .e⟩) .skip (.seq (.reg [⟨some ⟨.a, .i⟩, none, .bin .eql (.t ⟨.a, .d⟩) (.c (.c (.s [115, 99, 114,
  105, 112, 116]))), []⟩, ⟨some ⟨.a, .e⟩, none, .mv (.t ⟨.a, .i⟩), []⟩]) (.cond (.t ⟨.a, .e⟩) .skip (.seq (.reg [⟨some ⟨.a, .j⟩, none, .bin .eql (.t ⟨.a, .d⟩) (.c (.c (.s [120, 109, 112]))), []⟩, ⟨some
  ⟨.a, .e⟩, none, .mv (.t ⟨.a, .j⟩), []⟩]) (.cond (.t ⟨.a, .e⟩) .skip (.seq (.reg [⟨some ⟨.a, .k⟩, none, .bin .eql (.t ⟨.a, .d⟩) (.c (.c (.s [105, 102, 114, 97, 109, 101]))), []⟩, ⟨some ⟨.a, .e⟩, none,
  .mv (.t ⟨.a, .k⟩), []⟩]) (.cond (.t ⟨.a, .e⟩) .skip (.seq (.reg [⟨some ⟨.a, .l⟩, none, .bin .eql (.t ⟨.a, .d⟩) (.c (.c (.s [110, 111, 101, 109, 98, 101, 100]))), []⟩, ⟨some ⟨.a, .e⟩, none, .mv (.t
  ⟨.a, .l⟩), []⟩]) (.cond (.t ⟨.a, .e⟩) .skip (.reg [⟨some ⟨.a, .m⟩, none, .bin .eql (.t ⟨.a, .d⟩) (.c (.c (.s [110, 111, 102, 114, 97, 109, 101, 115]))), []⟩, ⟨some ⟨.a, .e⟩, none, .mv (.t ⟨.a, .m⟩),
  []⟩]))))))))))))))) (.cond (.t ⟨.a, .e⟩) (.seq (.reg [⟨some ⟨.a, .c⟩, none, .mv (.c (.c (.b true))), []⟩]) .ret) .skip)))) (.seq (.reg [⟨some ⟨.a, .c⟩, none, .mv (.c (.c (.b false))), []⟩]) .ret)),
  [(⟨.a, .c⟩, none)]⟩

theorem ok64 : FnR Go.Proofs.Tryz.prog 0 64 cf64 := fnC_ok [] Go.Proofs.Tryz.func64 (by kernel_rfl) (by kernel_rfl)

def cf65 : CF := ⟨56, 2, .seq (.reg [⟨some ⟨.a, .i⟩, none, .call 95 [.t ⟨.a, .a⟩], []⟩, ⟨some ⟨.a, .j⟩, none, .ext 0 (.t ⟨.a, .i⟩), []⟩, ⟨some ⟨.a, .k⟩, none, .ext 1 (.t ⟨.a, .i⟩), []⟩, ⟨some ⟨.a, .e⟩, none, .mv (.t
  ⟨.a, .j⟩), []⟩, ⟨some ⟨.a, .f⟩, none, .mv (.t ⟨.a, .k⟩), []⟩]) (.blk 0 (.seq (.reg [⟨some ⟨.b, .e⟩, none, .nc (.t ⟨.a, .a⟩), []⟩, ⟨some ⟨.b, .f⟩, none, .fa 0 (.t ⟨.b, .e⟩), []⟩, ⟨some ⟨.b, .g⟩, none,
  .ld 1 false (.t ⟨.b, .f⟩), []⟩, ⟨some ⟨.b, .h⟩, none, .pq false (.t ⟨.a, .e⟩) (.t ⟨.b, .g⟩), []⟩, ⟨some ⟨.b, .b⟩, none, .mv (.t ⟨.b, .h⟩), []⟩]) (.cond (.t ⟨.b, .b⟩) .skip (.seq (.reg [⟨some ⟨.b,
  .k⟩, none, .bin .gtr (.t ⟨.a, .f⟩) (.c (.c (.i .i64 (.ofNat 0)))), []⟩, ⟨some ⟨.b, .l⟩, none, .mv (.t ⟨.b, .k⟩), []⟩, ⟨some ⟨.b, .m⟩, some (⟨.b, .l⟩, true), .mv (.t ⟨.a, .e⟩), []⟩, ⟨some ⟨.b, .n⟩,
  some (⟨.b, .l⟩, true), .nc (.t ⟨.b, .m⟩), []⟩, ⟨some ⟨.b, .o⟩, some (⟨.b, .l⟩, true), .fa 6 (.t ⟨.b, .n⟩), []⟩, ⟨some ⟨.b, .p⟩, some (⟨.b, .l⟩, true), .ld 1 false (.t ⟨.b, .o⟩), []⟩, ⟨some ⟨.c, .a⟩,
  some (⟨.b, .l⟩, true), .mv (.t ⟨.a, .f⟩), []⟩, ⟨some ⟨.c, .b⟩, some (⟨.b, .l⟩, true), .bin .sub (.t ⟨.c, .a⟩) (.c (.c (.i .i64 (.ofNat 1)))), []⟩, ⟨some ⟨.c, .c⟩, some (⟨.b, .l⟩, true), .ia 1 (.t
  ⟨.b, .p⟩) (.t ⟨.c, .b⟩), []⟩, ⟨some ⟨.c, .d⟩, some (⟨.b, .l⟩, true), .ld 1 false (.t ⟨.c, .c⟩), []⟩, ⟨some ⟨.c, .e⟩, some (⟨.b, .l⟩, true), .nc (.t ⟨.c, .d⟩), []⟩, ⟨some ⟨.c, .f⟩, some (⟨.b, .l⟩,
  true), .fa 1 (.t ⟨.c, .e⟩), []⟩, ⟨some ⟨.c, .g⟩, some (⟨.b, .l⟩, true), .ld 1 false (.t ⟨.c, .f⟩), []⟩, ⟨some ⟨.c, .h⟩, some (⟨.b, .l⟩, true), .bin .eql (.t ⟨.c, .g⟩) (.c (.c (.i .i64 (.ofNat 3)))),
  []⟩, ⟨some ⟨.c, .i⟩, none, .pk (.t ⟨.b, .l⟩) (.t ⟨.c, .h⟩) (.c (.c (.b false))), []⟩, ⟨some ⟨.b, .i⟩, none, .mv (.t ⟨.c, .i⟩), []⟩]) (.cond (.t ⟨.b, .i⟩) (.reg [⟨some ⟨.c, .k⟩, none, .nc (.t ⟨.a,
  .e⟩), []⟩, ⟨some ⟨.c, .l⟩, none, .fa 6 (.t ⟨.c, .k⟩), []⟩, ⟨some ⟨.c, .m⟩, none, .ld 1 false (.t ⟨.c, .l⟩), []⟩, ⟨some ⟨.c, .o⟩, none, .bin .sub (.t ⟨.a, .f⟩) (.c (.c (.i .i64 (.ofNat 1)))), []⟩,
  ⟨some ⟨.c, .p⟩, none, .ia 1 (.t ⟨.c, .m⟩) (.t ⟨.c, .o⟩), []⟩, ⟨some ⟨.d, .a⟩, none, .ld 1 false (.t ⟨.c, .p⟩), []⟩, ⟨some ⟨.d, .b⟩, none, .nc (.t ⟨.d, .a⟩), []⟩, ⟨some ⟨.d, .c⟩, none, .fa 3 (.t ⟨.d,
  .b⟩), []⟩, ⟨some ⟨.d, .d⟩, none, .ld 1 false (.t ⟨.d, .c⟩), []⟩, ⟨some ⟨.d, .f⟩, none, .bin .add (.t ⟨.d, .d⟩) (.t ⟨.a, .b⟩), []⟩, ⟨some ⟨.d, .g⟩, none, .nc (.t ⟨.d, .a⟩), []⟩, ⟨some ⟨.d, .h⟩, none,
  .fa 3 (.t ⟨.d, .g⟩), []⟩, ⟨none, none, .st 1 (.t ⟨.d, .h⟩) (.t ⟨.d, .f⟩), []⟩]) (.reg [⟨some ⟨.a, .o⟩, none, .call 97 [.t ⟨.a, .a⟩, .c (.c (.i .i64 (.ofNat 3))), .c (.c (.s [])), .t ⟨.a, .b⟩, .c (.c
  (.sl none 0 0 0))], []⟩, ⟨some ⟨.b, .a⟩, none, .call 96 [.t ⟨.a, .e⟩, .t ⟨.a, .o⟩, .t ⟨.a, .f⟩], []⟩])))))), []⟩

theorem ok65 : FnR Go.Proofs.Tryz.prog 0 65 cf65 := fnC_ok [6, 7, 11, 12, 13, 15, 18, 19, 25, 41, 45, 52] Go.Proofs.Tryz.func65 (by kernel_rfl) (by kernel_rfl)

def cf66 : CF := ⟨14, 2, .seq (.reg [⟨some ⟨.a, .c⟩, none, .new 56 (.t ⟨.a, .a⟩), []⟩, ⟨some ⟨.a, .e⟩, none, .mv (.c (.c (.b false))), []⟩]) (.seq (.reg [⟨some ⟨.a, .f⟩, none, .fa 0 (.t ⟨.a, .c⟩), []⟩, ⟨some ⟨.a,
  .g⟩, none, .ld 1 false (.t ⟨.a, .f⟩), []⟩, ⟨some ⟨.a, .h⟩, none, .bin .eql (.t ⟨.a, .g⟩) (.c (.c (.i .i64 (.ofNat 2)))), []⟩, ⟨some ⟨.a, .i⟩, none, .mv (.t ⟨.a, .h⟩), []⟩, ⟨some ⟨.a, .j⟩, some (⟨.a,
  .i⟩, true), .fa 1 (.t ⟨.a, .c⟩), []⟩, ⟨some ⟨.a, .k⟩, some (⟨.a, .i⟩, true), .ld 1 false (.t ⟨.a, .j⟩), []⟩, ⟨some ⟨.a, .l⟩, some (⟨.a, .i⟩, true), .mv (.t ⟨.a, .b⟩), []⟩, ⟨some ⟨.a, .m⟩, some (⟨.a,
  .i⟩, true), .call 38 [.t ⟨.a, .k⟩, .t ⟨.a, .l⟩], []⟩, ⟨some ⟨.a, .n⟩, none, .pk (.t ⟨.a, .i⟩) (.t ⟨.a, .m⟩) (.c (.c (.b false))), []⟩, ⟨some ⟨.a, .e⟩, none, .mv (.t ⟨.a, .n⟩), []⟩]) .ret), [(⟨.a,
  .e⟩, none)]⟩

theorem ok66 : FnR Go.Proofs.Tryz.prog 0 66 cf66 := fnC_ok [] Go.Proofs.Tryz.func66 (by kernel_rfl) (by kernel_rfl)

def cf67 : CF := ⟨20, 2, .dreg [⟨some ⟨.a, .e⟩, none, .mv (.t ⟨.a, .a⟩), []⟩, ⟨some ⟨.a, .f⟩, none, .mv (.t ⟨.a, .a⟩), []⟩, ⟨some ⟨.a, .g⟩, none, .nc (.t ⟨.a, .f⟩), []⟩, ⟨some ⟨.a, .h⟩, none, .fa 3 (.t ⟨.a, .g⟩),
  []⟩, ⟨some ⟨.a, .i⟩, none, .ld 1 false (.t ⟨.a, .h⟩), []⟩, ⟨some ⟨.a, .j⟩, none, .mv (.t ⟨.a, .a⟩), []⟩, ⟨some ⟨.a, .k⟩, none, .nc (.t ⟨.a, .j⟩), []⟩, ⟨some ⟨.a, .l⟩, none, .fa 3 (.t ⟨.a, .k⟩), []⟩,
  ⟨some ⟨.a, .m⟩, none, .ld 1 false (.t ⟨.a, .l⟩), []⟩, ⟨some ⟨.a, .n⟩, none, .len true (.t ⟨.a, .m⟩), []⟩, ⟨some ⟨.a, .o⟩, none, .mv (.t ⟨.a, .b⟩), []⟩, ⟨some ⟨.a, .p⟩, none, .bin .sub (.t ⟨.a, .n⟩)
  (.t ⟨.a, .o⟩), []⟩, ⟨some ⟨.b, .a⟩, none, .mx (.c (.c (.i .i64 (.ofNat 0)))) (.t ⟨.a, .p⟩), []⟩, ⟨some ⟨.b, .b⟩, none, .slc 1 (.t ⟨.a, .i⟩) none (some (.t ⟨.b, .a⟩)) none, []⟩, ⟨some ⟨.b, .c⟩, none,
  .nc (.t ⟨.a, .e⟩), []⟩, ⟨some ⟨.b, .d⟩, none, .fa 3 (.t ⟨.b, .c⟩), []⟩, ⟨none, none, .st 1 (.t ⟨.b, .d⟩) (.t ⟨.b, .b⟩), []⟩], []⟩

theorem ok67 : FnR Go.Proofs.Tryz.prog 0 67 cf67 := fnC_ok [] Go.Proofs.Tryz.func67 (by kernel_rfl) (by kernel_rfl)

def cf68 : CF := ⟨34, 2, .seq (.reg [⟨some ⟨.a, .d⟩, none, .new 56 (.t ⟨.a, .b⟩), []⟩, ⟨some ⟨.a, .e⟩, none, .mv (.c (.c (.b false))), []⟩]) (.seq (.blk 0 (.seq (.reg [⟨some ⟨.a, .j⟩, none, .fa 0 (.t ⟨.a, .d⟩), []⟩,
  ⟨some ⟨.a, .k⟩, none, .ld 1 false (.t ⟨.a, .j⟩), []⟩, ⟨some ⟨.a, .l⟩, none, .bin .eql (.t ⟨.a, .k⟩) (.c (.c (.i .i64 (.ofNat 4)))), []⟩, ⟨some ⟨.a, .i⟩, none, .mv (.t ⟨.a, .l⟩), []⟩]) (.cond (.t ⟨.a,
  .i⟩) (.reg [⟨some ⟨.a, .o⟩, none, .fa 2 (.t ⟨.a, .d⟩), []⟩, ⟨some ⟨.a, .p⟩, none, .ld 1 false (.t ⟨.a, .o⟩), []⟩, ⟨some ⟨.b, .a⟩, none, .call 97 [.t ⟨.a, .a⟩, .c (.c (.i .i64 (.ofNat 4))), .c (.c (.s
  [])), .t ⟨.a, .p⟩, .c (.c (.sl none 0 0 0))], []⟩, ⟨some ⟨.b, .b⟩, none, .call 98 [.t ⟨.a, .a⟩, .t ⟨.b, .a⟩], []⟩]) (.seq (.reg [⟨some ⟨.b, .d⟩, none, .fa 0 (.t ⟨.a, .d⟩), []⟩, ⟨some ⟨.b, .e⟩, none,
  .ld 1 false (.t ⟨.b, .d⟩), []⟩, ⟨some ⟨.b, .f⟩, none, .bin .eql (.t ⟨.b, .e⟩) (.c (.c (.i .i64 (.ofNat 5)))), []⟩, ⟨some ⟨.b, .c⟩, none, .mv (.t ⟨.b, .f⟩), []⟩]) (.cond (.t ⟨.b, .c⟩) (.seq (.reg
  [⟨some ⟨.b, .i⟩, none, .fa 1 (.t ⟨.a, .d⟩), []⟩, ⟨some ⟨.b, .j⟩, none, .ld 1 false (.t ⟨.b, .i⟩), []⟩, ⟨some ⟨.b, .k⟩, none, .call 97 [.t ⟨.a, .a⟩, .c (.c (.i .i64 (.ofNat 5))), .t ⟨.b, .j⟩, .c (.c
  (.s [])), .c (.c (.sl none 0 0 0))], []⟩, ⟨some ⟨.b, .l⟩, none, .call 98 [.t ⟨.a, .a⟩, .t ⟨.b, .k⟩], []⟩]) (.reg [⟨some ⟨.b, .n⟩, none, .nc (.t ⟨.a, .a⟩), []⟩, ⟨some ⟨.b, .o⟩, none, .fa 5 (.t ⟨.b,
  .n⟩), []⟩, ⟨none, none, .st 1 (.t ⟨.b, .o⟩) (.c (.c (.i .i64 (.ofNat 1)))), []⟩])) (.seq (.reg [⟨some ⟨.c, .a⟩, none, .ld 5 true (.t ⟨.a, .d⟩), []⟩, ⟨some ⟨.c, .b⟩, none, .call 99 [.t ⟨.c, .a⟩], []⟩,
  ⟨some ⟨.b, .p⟩, none, .mv (.t ⟨.c, .b⟩), []⟩]) (.cond (.t ⟨.b, .p⟩) .skip (.seq (.reg [⟨some ⟨.a, .g⟩, none, .nc (.t ⟨.a, .a⟩), []⟩, ⟨some ⟨.a, .h⟩, none, .fa 5 (.t ⟨.a, .g⟩), []⟩, ⟨none, none, .st 1
  (.t ⟨.a, .h⟩) (.c (.c (.i .i64 (.ofNat 1)))), []⟩]) (.seq (.reg [⟨some ⟨.a, .e⟩, none, .mv (.c (.c (.b true))), []⟩]) .ret))))))))) (.seq (.reg [⟨some ⟨.a, .e⟩, none, .mv (.c (.c (.b false))), []⟩])
  .ret)), [(⟨.a, .e⟩, none)]⟩

theorem ok68 : FnR Go.Proofs.Tryz.prog 0 68 cf68 := fnC_ok [5, 12, 13, 22, 23, 28] Go.Proofs.Tryz.func68 (by kernel_rfl) (by kernel_rfl)

def cf69 : CF := ⟨50, 2, .seq (.reg [⟨some ⟨.a, .d⟩, none, .new 56 (.t ⟨.a, .b⟩), []⟩, ⟨some ⟨.a, .e⟩, none, .mv (.c (.c (.b false))), []⟩]) (.seq (.blk 0 (.seq (.reg [⟨some ⟨.a, .l⟩, none, .fa 0 (.t ⟨.a, .d⟩), []⟩,
  ⟨some ⟨.a, .m⟩, none, .ld 1 false (.t ⟨.a, .l⟩), []⟩, ⟨some ⟨.a, .n⟩, none, .bin .eql (.t ⟨.a, .m⟩) (.c (.c (.i .i64 (.ofNat 4)))), []⟩, ⟨some ⟨.a, .k⟩, none, .mv (.t ⟨.a, .n⟩), []⟩]) (.cond (.t ⟨.a,
  .k⟩) (.reg [⟨some ⟨.b, .a⟩, none, .fa 2 (.t ⟨.a, .d⟩), []⟩, ⟨some ⟨.b, .b⟩, none, .ld 1 false (.t ⟨.b, .a⟩), []⟩, ⟨some ⟨.b, .c⟩, none, .call 97 [.t ⟨.a, .a⟩, .c (.c (.i .i64 (.ofNat 4))), .c (.c (.s
  [])), .t ⟨.b, .b⟩, .c (.c (.sl none 0 0 0))], []⟩, ⟨some ⟨.b, .d⟩, none, .call 98 [.t ⟨.a, .a⟩, .t ⟨.b, .c⟩], []⟩]) (.seq (.reg [⟨some ⟨.b, .f⟩, none, .fa 0 (.t ⟨.a, .d⟩), []⟩, ⟨some ⟨.b, .g⟩, none,
  .ld 1 false (.t ⟨.b, .f⟩), []⟩, ⟨some ⟨.b, .h⟩, none, .bin .eql (.t ⟨.b, .g⟩) (.c (.c (.i .i64 (.ofNat 5)))), []⟩, ⟨some ⟨.b, .i⟩, none, .mv (.t ⟨.b, .h⟩), []⟩, ⟨some ⟨.b, .j⟩, some (⟨.b, .i⟩,
  false), .ld 5 true (.t ⟨.a, .d⟩), []⟩, ⟨some ⟨.b, .k⟩, some (⟨.b, .i⟩, false), .call 99 [.t ⟨.b, .j⟩], []⟩, ⟨some ⟨.b, .l⟩, none, .pk (.t ⟨.b, .i⟩) (.c (.c (.b true))) (.t ⟨.b, .k⟩), []⟩, ⟨some ⟨.b,
  .e⟩, none, .mv (.t ⟨.b, .l⟩), []⟩]) (.cond (.t ⟨.b, .e⟩) .skip (.seq (.reg [⟨some ⟨.b, .n⟩, none, .ld 5 true (.t ⟨.a, .d⟩), []⟩, ⟨some ⟨.b, .o⟩, none, .bsl 9 1 1 [.s []] [(0, (1, .c (.c (.s [104,
  116, 109, 108]))))], []⟩, ⟨some ⟨.b, .p⟩, none, .call 100 [.t ⟨.b, .n⟩, .t ⟨.b, .o⟩], []⟩, ⟨some ⟨.b, .m⟩, none, .mv (.t ⟨.b, .p⟩), []⟩]) (.cond (.t ⟨.b, .m⟩) (.seq (.reg [⟨some ⟨.c, .b⟩, none, .fa 3
  (.t ⟨.a, .d⟩), []⟩, ⟨some ⟨.c, .c⟩, none, .ld 1 false (.t ⟨.c, .b⟩), []⟩, ⟨some ⟨.c, .d⟩, none, .call 101 [.t ⟨.a, .a⟩, .c (.c (.s [104, 116, 109, 108])), .t ⟨.c, .c⟩], []⟩]) (.reg [⟨some ⟨.c, .f⟩,
  none, .nc (.t ⟨.a, .a⟩), []⟩, ⟨some ⟨.c, .g⟩, none, .fa 5 (.t ⟨.c, .f⟩), []⟩, ⟨none, none, .st 1 (.t ⟨.c, .g⟩) (.c (.c (.i .i64 (.ofNat 2)))), []⟩])) (.seq (.reg [⟨some ⟨.c, .i⟩, none, .fa 0 (.t ⟨.a,
  .d⟩), []⟩, ⟨some ⟨.c, .j⟩, none, .ld 1 false (.t ⟨.c, .i⟩), []⟩, ⟨some ⟨.c, .k⟩, none, .bin .eql (.t ⟨.c, .j⟩) (.c (.c (.i .i64 (.ofNat 2)))), []⟩, ⟨some ⟨.c, .l⟩, none, .mv (.t ⟨.c, .k⟩), []⟩, ⟨some
  ⟨.c, .m⟩, some (⟨.c, .l⟩, true), .fa 1 (.t ⟨.a, .d⟩), []⟩, ⟨some ⟨.c, .n⟩, some (⟨.c, .l⟩, true), .ld 1 false (.t ⟨.c, .m⟩), []⟩, ⟨some ⟨.c, .o⟩, some (⟨.c, .l⟩, true), .bsl 9 1 4 [.s [], .s [], .s
  [], .s []] [(0, (1, .c (.c (.s [104, 101, 97, 100])))), (1, (1, .c (.c (.s [98, 111, 100, 121])))), (2, (1, .c (.c (.s [104, 116, 109, 108])))), (3, (1, .c (.c (.s [98, 114]))))], []⟩, ⟨some ⟨.c,
  .p⟩, some (⟨.c, .l⟩, true), .call 38 [.t ⟨.c, .n⟩, .t ⟨.c, .o⟩], []⟩, ⟨some ⟨.d, .a⟩, some (⟨.c, .l⟩, true), .un .not (.t ⟨.c, .p⟩), []⟩, ⟨some ⟨.d, .b⟩, none, .pk (.t ⟨.c, .l⟩) (.t ⟨.d, .a⟩) (.c (.c
  (.b false))), []⟩, ⟨some ⟨.c, .h⟩, none, .mv (.t ⟨.d, .b⟩), []⟩]) (.cond (.t ⟨.c, .h⟩) .skip (.seq (.reg [⟨some ⟨.a, .g⟩, none, .call 101 [.t ⟨.a, .a⟩, .c (.c (.s [104, 116, 109, 108])), .c (.c (.sl
  none 0 0 0))], []⟩]) (.seq (.reg [⟨some ⟨.a, .i⟩, none, .nc (.t ⟨.a, .a⟩), []⟩, ⟨some ⟨.a, .j⟩, none, .fa 5 (.t ⟨.a, .i⟩), []⟩, ⟨none, none, .st 1 (.t ⟨.a, .j⟩) (.c (.c (.i .i64 (.ofNat 2)))), []⟩])
  (.seq (.reg [⟨some ⟨.a, .e⟩, none, .mv (.c (.c (.b true))), []⟩]) .ret)))))))))))) (.seq (.reg [⟨some ⟨.a, .e⟩, none, .mv (.c (.c (.b false))), []⟩]) .ret)), [(⟨.a, .e⟩, none)]⟩

theorem ok69 : FnR Go.Proofs.Tryz.prog 0 69 cf69 := fnC_ok [5, 7, 14, 15, 32, 36] Go.Proofs.Tryz.func69 (by kernel_rfl) (by kernel_rfl)

end

end Ev
end

section
namespace Ev

set_option autoImplicit false

noncomputable section

def cf70 : CF := ⟨60, 2, .seq (.reg [⟨some ⟨.a, .d⟩, none, .new 56 (.t ⟨.a, .b⟩), []⟩, ⟨some ⟨.a, .e⟩, none, .mv (.c (.c (.b false))), []⟩]) (.seq (.blk 0 (.seq (.reg [⟨some ⟨.a, .o⟩, none, .fa 0 (.t ⟨.a, .d⟩), []⟩,
  ⟨some ⟨.a, .p⟩, none, .ld 1 false (.t ⟨.a, .o⟩), []⟩, ⟨some ⟨.b, .a⟩, none, .bin .eql (.t ⟨.a, .p⟩) (.c (.c (.i .i64 (.ofNat 4)))), []⟩, ⟨some ⟨.a, .n⟩, none, .mv (.t ⟨.b, .a⟩), []⟩]) (.cond (.t ⟨.a,
  .n⟩) (.reg [⟨some ⟨.b, .c⟩, none, .ld 5 true (.t ⟨.a, .d⟩), []⟩, ⟨some ⟨.b, .d⟩, none, .call 102 [.t ⟨.a, .a⟩, .t ⟨.b, .c⟩], []⟩]) (.seq (.reg [⟨some ⟨.b, .f⟩, none, .fa 0 (.t ⟨.a, .d⟩), []⟩, ⟨some
  ⟨.b, .g⟩, none, .ld 1 false (.t ⟨.b, .f⟩), []⟩, ⟨some ⟨.b, .h⟩, none, .bin .eql (.t ⟨.b, .g⟩) (.c (.c (.i .i64 (.ofNat 5)))), []⟩, ⟨some ⟨.b, .i⟩, none, .mv (.t ⟨.b, .h⟩), []⟩, ⟨some ⟨.b, .j⟩, some
  (⟨.b, .i⟩, false), .ld 5 true (.t ⟨.a, .d⟩), []⟩, ⟨some ⟨.b, .k⟩, some (⟨.b, .i⟩, false), .call 99 [.t ⟨.b, .j⟩], []⟩, ⟨some ⟨.b, .l⟩, none, .pk (.t ⟨.b, .i⟩) (.c (.c (.b true))) (.t ⟨.b, .k⟩), []⟩,
  ⟨some ⟨.b, .e⟩, none, .mv (.t ⟨.b, .l⟩), []⟩]) (.cond (.t ⟨.b, .e⟩) .skip (.seq (.reg [⟨some ⟨.b, .n⟩, none, .ld 5 true (.t ⟨.a, .d⟩), []⟩, ⟨some ⟨.b, .o⟩, none, .bsl 9 1 1 [.s []] [(0, (1, .c (.c
  (.s [104, 116, 109, 108]))))], []⟩, ⟨some ⟨.b, .p⟩, none, .call 100 [.t ⟨.b, .n⟩, .t ⟨.b, .o⟩], []⟩, ⟨some ⟨.b, .m⟩, none, .mv (.t ⟨.b, .p⟩), []⟩]) (.cond (.t ⟨.b, .m⟩) (.seq (.reg [⟨some ⟨.c, .b⟩,
  none, .ld 5 true (.t ⟨.a, .d⟩), []⟩, ⟨some ⟨.c, .c⟩, none, .call 80 [.t ⟨.a, .a⟩, .t ⟨.c, .b⟩], []⟩, ⟨some ⟨.a, .e⟩, none, .mv (.t ⟨.c, .c⟩), []⟩]) .ret) (.seq (.reg [⟨some ⟨.c, .e⟩, none, .ld 5 true
  (.t ⟨.a, .d⟩), []⟩, ⟨some ⟨.c, .f⟩, none, .bsl 9 1 1 [.s []] [(0, (1, .c (.c (.s [104, 101, 97, 100]))))], []⟩, ⟨some ⟨.c, .g⟩, none, .call 100 [.t ⟨.c, .e⟩, .t ⟨.c, .f⟩], []⟩, ⟨some ⟨.c, .d⟩, none,
  .mv (.t ⟨.c, .g⟩), []⟩]) (.cond (.t ⟨.c, .d⟩) (.seq (.reg [⟨some ⟨.c, .j⟩, none, .fa 3 (.t ⟨.a, .d⟩), []⟩, ⟨some ⟨.c, .k⟩, none, .ld 1 false (.t ⟨.c, .j⟩), []⟩, ⟨some ⟨.c, .l⟩, none, .call 101 [.t
  ⟨.a, .a⟩, .c (.c (.s [104, 101, 97, 100])), .t ⟨.c, .k⟩], []⟩, ⟨some ⟨.c, .m⟩, none, .nc (.t ⟨.a, .a⟩), []⟩, ⟨some ⟨.c, .n⟩, none, .fa 1 (.t ⟨.c, .m⟩), []⟩, ⟨none, none, .st 1 (.t ⟨.c, .n⟩) (.t ⟨.c,
  .l⟩), []⟩]) (.reg [⟨some ⟨.c, .p⟩, none, .nc (.t ⟨.a, .a⟩), []⟩, ⟨some ⟨.d, .a⟩, none, .fa 5 (.t ⟨.c, .p⟩), []⟩, ⟨none, none, .st 1 (.t ⟨.d, .a⟩) (.c (.c (.i .i64 (.ofNat 3)))), []⟩])) (.seq (.reg
  [⟨some ⟨.d, .c⟩, none, .fa 0 (.t ⟨.a, .d⟩), []⟩, ⟨some ⟨.d, .d⟩, none, .ld 1 false (.t ⟨.d, .c⟩), []⟩, ⟨some ⟨.d, .e⟩, none, .bin .eql (.t ⟨.d, .d⟩) (.c (.c (.i .i64 (.ofNat 2)))), []⟩, ⟨some ⟨.d,
  .f⟩, none, .mv (.t ⟨.d, .e⟩), []⟩, ⟨some ⟨.d, .g⟩, some (⟨.d, .f⟩, true), .fa 1 (.t ⟨.a, .d⟩), []⟩, ⟨some ⟨.d, .h⟩, some (⟨.d, .f⟩, true), .ld 1 false (.t ⟨.d, .g⟩), []⟩, ⟨some ⟨.d, .i⟩, some (⟨.d,
  .f⟩, true), .bsl 9 1 4 [.s [], .s [], .s [], .s []] [(0, (1, .c (.c (.s [104, 101, 97, 100])))), (1, (1, .c (.c (.s [98, 111, 100, 121])))), (2, (1, .c (.c (.s [104, 116, 109, 108])))), (3, (1, .c
  (.c (.s [98, 114]))))], []⟩, ⟨some ⟨.d, .j⟩, some (⟨.d, .f⟩, true), .call 38 [.t ⟨.d, .h⟩, .t ⟨.d, .i⟩], []⟩, ⟨some ⟨.d, .k⟩, some (⟨.d, .f⟩, true), .un .not (.t ⟨.d, .j⟩), []⟩, ⟨some ⟨.d, .l⟩, none,
  .pk (.t ⟨.d, .f⟩) (.t ⟨.d, .k⟩) (.c (.c (.b false))), []⟩, ⟨some ⟨.d, .b⟩, none, .mv (.t ⟨.d, .l⟩), []⟩]) (.cond (.t ⟨.d, .b⟩) .skip (.seq (.reg [⟨some ⟨.a, .h⟩, none, .call 101 [.t ⟨.a, .a⟩, .c (.c
  (.s [104, 101, 97, 100])), .c (.c (.sl none 0 0 0))], []⟩, ⟨some ⟨.a, .i⟩, none, .nc (.t ⟨.a, .a⟩), []⟩, ⟨some ⟨.a, .j⟩, none, .fa 1 (.t ⟨.a, .i⟩), []⟩, ⟨none, none, .st 1 (.t ⟨.a, .j⟩) (.t ⟨.a,
  .h⟩), []⟩]) (.seq (.reg [⟨some ⟨.a, .l⟩, none, .nc (.t ⟨.a, .a⟩), []⟩, ⟨some ⟨.a, .m⟩, none, .fa 5 (.t ⟨.a, .l⟩), []⟩, ⟨none, none, .st 1 (.t ⟨.a, .m⟩) (.c (.c (.i .i64 (.ofNat 3)))), []⟩]) (.seq
  (.reg [⟨some ⟨.a, .e⟩, none, .mv (.c (.c (.b true))), []⟩]) .ret)))))))))))))) (.seq (.reg [⟨some ⟨.a, .e⟩, none, .mv (.c (.c (.b false))), []⟩]) .ret)), [(⟨.a, .e⟩, none)]⟩

theorem ok70 : FnR Go.Proofs.Tryz.prog 0 70 cf70 := fnC_ok [5, 6, 10, 17, 32, 39, 40, 46] Go.Proofs.Tryz.func70 (by kernel_rfl) (by kernel_rfl)

def cf71 : CF := ⟨81, 2, .seq (.reg [⟨some ⟨.a, .d⟩, none, .new 56 (.t ⟨.a, .b⟩), []⟩, ⟨some ⟨.a, .e⟩, none, .mv (.c (.c (.b false))), []⟩]) (.seq (.blk 0 (.seq (.reg [⟨some ⟨.a, .m⟩, none, .ld 5 true (.t ⟨.a, .d⟩),
  []⟩, ⟨some ⟨.a, .n⟩, none, .call 99 [.t ⟨.a, .m⟩], []⟩, ⟨some ⟨.a, .l⟩, none, .mv (.t ⟨.a, .n⟩), []⟩]) (.cond (.t ⟨.a, .l⟩) (.reg [⟨some ⟨.a, .p⟩, none, .fa 2 (.t ⟨.a, .d⟩), []⟩, ⟨some ⟨.b, .a⟩,
  none, .ld 1 false (.t ⟨.a, .p⟩), []⟩, ⟨some ⟨.b, .b⟩, none, .call 65 [.t ⟨.a, .a⟩, .t ⟨.b, .a⟩], []⟩]) (.seq (.reg [⟨some ⟨.b, .d⟩, none, .fa 0 (.t ⟨.a, .d⟩), []⟩, ⟨some ⟨.b, .e⟩, none, .ld 1 false
  (.t ⟨.b, .d⟩), []⟩, ⟨some ⟨.b, .f⟩, none, .bin .eql (.t ⟨.b, .e⟩) (.c (.c (.i .i64 (.ofNat 4)))), []⟩, ⟨some ⟨.b, .c⟩, none, .mv (.t ⟨.b, .f⟩), []⟩]) (.cond (.t ⟨.b, .c⟩) (.reg [⟨some ⟨.b, .h⟩, none,
  .ld 5 true (.t ⟨.a, .d⟩), []⟩, ⟨some ⟨.b, .i⟩, none, .call 102 [.t ⟨.a, .a⟩, .t ⟨.b, .h⟩], []⟩]) (.seq (.reg [⟨some ⟨.b, .k⟩, none, .fa 0 (.t ⟨.a, .d⟩), []⟩, ⟨some ⟨.b, .l⟩, none, .ld 1 false (.t
  ⟨.b, .k⟩), []⟩, ⟨some ⟨.b, .m⟩, none, .bin .eql (.t ⟨.b, .l⟩) (.c (.c (.i .i64 (.ofNat 5)))), []⟩, ⟨some ⟨.b, .n⟩, none, .mv (.t ⟨.b, .m⟩), []⟩, ⟨some ⟨.b, .o⟩, some (⟨.b, .n⟩, false), .ld 5 true (.t
  ⟨.a, .d⟩), []⟩, ⟨some ⟨.b, .p⟩, some (⟨.b, .n⟩, false), .bsl 9 1 1 [.s []] [(0, (1, .c (.c (.s [104, 101, 97, 100]))))], []⟩, ⟨some ⟨.c, .a⟩, some (⟨.b, .n⟩, false), .call 100 [.t ⟨.b, .o⟩, .t ⟨.b,
  .p⟩], []⟩, ⟨some ⟨.c, .b⟩, none, .pk (.t ⟨.b, .n⟩) (.c (.c (.b true))) (.t ⟨.c, .a⟩), []⟩, ⟨some ⟨.b, .j⟩, none, .mv (.t ⟨.c, .b⟩), []⟩]) (.cond (.t ⟨.b, .j⟩) .skip (.seq (.reg [⟨some ⟨.c, .d⟩, none,
  .ld 5 true (.t ⟨.a, .d⟩), []⟩, ⟨some ⟨.c, .e⟩, none, .bsl 9 1 1 [.s []] [(0, (1, .c (.c (.s [104, 116, 109, 108]))))], []⟩, ⟨some ⟨.c, .f⟩, none, .call 100 [.t ⟨.c, .d⟩, .t ⟨.c, .e⟩], []⟩, ⟨some ⟨.c,
  .c⟩, none, .mv (.t ⟨.c, .f⟩), []⟩]) (.cond (.t ⟨.c, .c⟩) (.seq (.reg [⟨some ⟨.c, .h⟩, none, .ld 5 true (.t ⟨.a, .d⟩), []⟩, ⟨some ⟨.c, .i⟩, none, .call 80 [.t ⟨.a, .a⟩, .t ⟨.c, .h⟩], []⟩, ⟨some ⟨.a,
  .e⟩, none, .mv (.t ⟨.c, .i⟩), []⟩]) .ret) (.seq (.reg [⟨some ⟨.c, .k⟩, none, .ld 5 true (.t ⟨.a, .d⟩), []⟩, ⟨some ⟨.c, .l⟩, none, .bsl 9 1 3 [.s [], .s [], .s []] [(0, (1, .c (.c (.s [98, 97, 115,
  101])))), (1, (1, .c (.c (.s [108, 105, 110, 107])))), (2, (1, .c (.c (.s [109, 101, 116, 97]))))], []⟩, ⟨some ⟨.c, .m⟩, none, .call 100 [.t ⟨.c, .k⟩, .t ⟨.c, .l⟩], []⟩, ⟨some ⟨.c, .j⟩, none, .mv (.t
  ⟨.c, .m⟩), []⟩]) (.cond (.t ⟨.c, .j⟩) (.reg [⟨some ⟨.c, .o⟩, none, .fa 1 (.t ⟨.a, .d⟩), []⟩, ⟨some ⟨.c, .p⟩, none, .ld 1 false (.t ⟨.c, .o⟩), []⟩, ⟨some ⟨.d, .a⟩, none, .fa 3 (.t ⟨.a, .d⟩), []⟩,
  ⟨some ⟨.d, .b⟩, none, .ld 1 false (.t ⟨.d, .a⟩), []⟩, ⟨some ⟨.d, .c⟩, none, .call 103 [.t ⟨.a, .a⟩, .t ⟨.c, .p⟩, .t ⟨.d, .b⟩], []⟩]) (.seq (.reg [⟨some ⟨.d, .e⟩, none, .ld 5 true (.t ⟨.a, .d⟩), []⟩,
  ⟨some ⟨.d, .f⟩, none, .bsl 9 1 4 [.s [], .s [], .s [], .s []] [(0, (1, .c (.c (.s [116, 105, 116, 108, 101])))), (1, (1, .c (.c (.s [115, 116, 121, 108, 101])))), (2, (1, .c (.c (.s [115, 99, 114,
  105, 112, 116])))), (3, (1, .c (.c (.s [110, 111, 102, 114, 97, 109, 101, 115]))))], []⟩, ⟨some ⟨.d, .g⟩, none, .call 100 [.t ⟨.d, .e⟩, .t ⟨.d, .f⟩], []⟩, ⟨some ⟨.d, .d⟩, none, .mv (.t ⟨.d, .g⟩),
  []⟩]) (.cond (.t ⟨.d, .d⟩) (.reg [⟨some ⟨.d, .i⟩, none, .fa 1 (.t ⟨.a, .d⟩), []⟩, ⟨some ⟨.d, .j⟩, none, .ld 1 false (.t ⟨.d, .i⟩), []⟩, ⟨some ⟨.d, .k⟩, none, .fa 3 (.t ⟨.a, .d⟩), []⟩, ⟨some ⟨.d, .l⟩,
  none, .ld 1 false (.t ⟨.d, .k⟩), []⟩, ⟨some ⟨.d, .m⟩, none, .call 101 [.t ⟨.a, .a⟩, .t ⟨.d, .j⟩, .t ⟨.d, .l⟩], []⟩]) (.seq (.reg [⟨some ⟨.d, .o⟩, none, .ld 5 true (.t ⟨.a, .d⟩), []⟩, ⟨some ⟨.d, .p⟩,
  none, .bsl 9 1 1 [.s []] [(0, (1, .c (.c (.s [104, 101, 97, 100]))))], []⟩, ⟨some ⟨.e, .a⟩, none, .call 66 [.t ⟨.d, .o⟩, .t ⟨.d, .p⟩], []⟩, ⟨some ⟨.d, .n⟩, none, .mv (.t ⟨.e, .a⟩), []⟩]) (.cond (.t
  ⟨.d, .n⟩) (.seq (.reg [⟨some ⟨.e, .c⟩, none, .call 67 [.t ⟨.a, .a⟩, .c (.c (.i .i64 (.ofNat 1)))], []⟩]) (.reg [⟨some ⟨.e, .e⟩, none, .nc (.t ⟨.a, .a⟩), []⟩, ⟨some ⟨.e, .f⟩, none, .fa 5 (.t ⟨.e,
  .e⟩), []⟩, ⟨none, none, .st 1 (.t ⟨.e, .f⟩) (.c (.c (.i .i64 (.ofNat 4)))), []⟩])) (.seq (.reg [⟨some ⟨.e, .h⟩, none, .fa 0 (.t ⟨.a, .d⟩), []⟩, ⟨some ⟨.e, .i⟩, none, .ld 1 false (.t ⟨.e, .h⟩), []⟩,
  ⟨some ⟨.e, .j⟩, none, .bin .eql (.t ⟨.e, .i⟩) (.c (.c (.i .i64 (.ofNat 2)))), []⟩, ⟨some ⟨.e, .k⟩, none, .mv (.t ⟨.e, .j⟩), []⟩, ⟨some ⟨.e, .l⟩, some (⟨.e, .k⟩, true), .fa 1 (.t ⟨.a, .d⟩), []⟩, ⟨some
  ⟨.e, .m⟩, some (⟨.e, .k⟩, true), .ld 1 false (.t ⟨.e, .l⟩), []⟩, ⟨some ⟨.e, .n⟩, some (⟨.e, .k⟩, true), .bsl 9 1 3 [.s [], .s [], .s []] [(0, (1, .c (.c (.s [98, 111, 100, 121])))), (1, (1, .c (.c
  (.s [104, 116, 109, 108])))), (2, (1, .c (.c (.s [98, 114]))))], []⟩, ⟨some ⟨.e, .o⟩, some (⟨.e, .k⟩, true), .call 38 [.t ⟨.e, .m⟩, .t ⟨.e, .n⟩], []⟩, ⟨some ⟨.e, .p⟩, some (⟨.e, .k⟩, true), .un .not
  (.t ⟨.e, .o⟩), []⟩, ⟨some ⟨.f, .a⟩, none, .pk (.t ⟨.e, .k⟩) (.t ⟨.e, .p⟩) (.c (.c (.b false))), []⟩, ⟨some ⟨.e, .g⟩, none, .mv (.t ⟨.f, .a⟩), []⟩]) (.cond (.t ⟨.e, .g⟩) .skip (.seq (.reg [⟨some ⟨.a,
  .g⟩, none, .bsl 9 1 1 [.s []] [(0, (1, .c (.c (.s [104, 101, 97, 100]))))], []⟩, ⟨some ⟨.a, .h⟩, none, .call 104 [.t ⟨.a, .a⟩, .t ⟨.a, .g⟩], []⟩]) (.seq (.reg [⟨some ⟨.a, .j⟩, none, .nc (.t ⟨.a,
  .a⟩), []⟩, ⟨some ⟨.a, .k⟩, none, .fa 5 (.t ⟨.a, .j⟩), []⟩, ⟨none, none, .st 1 (.t ⟨.a, .k⟩) (.c (.c (.i .i64 (.ofNat 4)))), []⟩]) (.seq (.reg [⟨some ⟨.a, .e⟩, none, .mv (.c (.c (.b true))), []⟩])
  .ret)))))))))))))))))))) (.seq (.reg [⟨some ⟨.a, .e⟩, none, .mv (.c (.c (.b false))), []⟩]) .ret)), [(⟨.a, .e⟩, none)]⟩

theorem ok71 : FnR Go.Proofs.Tryz.prog 0 71 cf71 := fnC_ok [5, 8, 14, 22, 38, 45, 55, 65, 67] Go.Proofs.Tryz.func71 (by kernel_rfl) (by kernel_rfl)

def cf72 : CF := ⟨119, 2, .seq (.reg [⟨some ⟨.a, .d⟩, none, .new 56 (.t ⟨.a, .b⟩), []⟩, ⟨some ⟨.a, .e⟩, none, .mv (.c (.c (.b false))), []⟩]) (.seq (.blk 0 (.seq (.reg [⟨some ⟨.a, .n⟩, none, .ld 5 true (.t ⟨.a, .d⟩),
  []⟩, ⟨some ⟨.a, .o⟩, none, .call 99 [.t ⟨.a, .n⟩], []⟩, ⟨some ⟨.a, .m⟩, none, .mv (.t ⟨.a, .o⟩), []⟩]) (.cond (.t ⟨.a, .m⟩) (.reg [⟨some ⟨.b, .a⟩, none, .fa 2 (.t ⟨.a, .d⟩), []⟩, ⟨some ⟨.b, .b⟩,
  none, .ld 1 false (.t ⟨.b, .a⟩), []⟩, ⟨some ⟨.b, .c⟩, none, .call 65 [.t ⟨.a, .a⟩, .t ⟨.b, .b⟩], []⟩]) (.seq (.reg [⟨some ⟨.b, .e⟩, none, .fa 0 (.t ⟨.a, .d⟩), []⟩, ⟨some ⟨.b, .f⟩, none, .ld 1 false
  (.t ⟨.b, .e⟩), []⟩, ⟨some ⟨.b, .g⟩, none, .bin .eql (.t ⟨.b, .f⟩) (.c (.c (.i .i64 (.ofNat 4)))), []⟩, ⟨some ⟨.b, .d⟩, none, .mv (.t ⟨.b, .g⟩), []⟩]) (.cond (.t ⟨.b, .d⟩) (.reg [⟨some ⟨.b, .i⟩, none,
  .ld 5 true (.t ⟨.a, .d⟩), []⟩, ⟨some ⟨.b, .j⟩, none, .call 102 [.t ⟨.a, .a⟩, .t ⟨.b, .i⟩], []⟩]) (.seq (.reg [⟨some ⟨.b, .l⟩, none, .fa 0 (.t ⟨.a, .d⟩), []⟩, ⟨some ⟨.b, .m⟩, none, .ld 1 false (.t
  ⟨.b, .l⟩), []⟩, ⟨some ⟨.b, .n⟩, none, .bin .eql (.t ⟨.b, .m⟩) (.c (.c (.i .i64 (.ofNat 5)))), []⟩, ⟨some ⟨.b, .o⟩, none, .mv (.t ⟨.b, .n⟩), []⟩, ⟨some ⟨.b, .p⟩, some (⟨.b, .o⟩, false), .ld 5 true (.t
  ⟨.a, .d⟩), []⟩, ⟨some ⟨.c, .a⟩, some (⟨.b, .o⟩, false), .bsl 9 1 1 [.s []] [(0, (1, .c (.c (.s [104, 101, 97, 100]))))], []⟩, ⟨some ⟨.c, .b⟩, some (⟨.b, .o⟩, false), .call 100 [.t ⟨.b, .p⟩, .t ⟨.c,
  .a⟩], []⟩, ⟨some ⟨.c, .c⟩, none, .pk (.t ⟨.b, .o⟩) (.c (.c (.b true))) (.t ⟨.c, .b⟩), []⟩, ⟨some ⟨.b, .k⟩, none, .mv (.t ⟨.c, .c⟩), []⟩]) (.cond (.t ⟨.b, .k⟩) .skip (.seq (.reg [⟨some ⟨.c, .e⟩, none,
  .ld 5 true (.t ⟨.a, .d⟩), []⟩, ⟨some ⟨.c, .f⟩, none, .bsl 9 1 1 [.s []] [(0, (1, .c (.c (.s [104, 116, 109, 108]))))], []⟩, ⟨some ⟨.c, .g⟩, none, .call 100 [.t ⟨.c, .e⟩, .t ⟨.c, .f⟩], []⟩, ⟨some ⟨.c,
  .d⟩, none, .mv (.t ⟨.c, .g⟩), []⟩]) (.cond (.t ⟨.c, .d⟩) (.seq (.reg [⟨some ⟨.c, .i⟩, none, .ld 5 true (.t ⟨.a, .d⟩), []⟩, ⟨some ⟨.c, .j⟩, none, .call 80 [.t ⟨.a, .a⟩, .t ⟨.c, .i⟩], []⟩, ⟨some ⟨.a,
  .e⟩, none, .mv (.t ⟨.c, .j⟩), []⟩]) .ret) (.seq (.reg [⟨some ⟨.c, .l⟩, none, .ld 5 true (.t ⟨.a, .d⟩), []⟩, ⟨some ⟨.c, .m⟩, none, .bsl 9 1 1 [.s []] [(0, (1, .c (.c (.s [98, 111, 100, 121]))))], []⟩,
  ⟨some ⟨.c, .n⟩, none, .call 100 [.t ⟨.c, .l⟩, .t ⟨.c, .m⟩], []⟩, ⟨some ⟨.c, .k⟩, none, .mv (.t ⟨.c, .n⟩), []⟩]) (.cond (.t ⟨.c, .k⟩) (.seq (.reg [⟨some ⟨.c, .p⟩, none, .fa 3 (.t ⟨.a, .d⟩), []⟩, ⟨some
  ⟨.d, .a⟩, none, .ld 1 false (.t ⟨.c, .p⟩), []⟩, ⟨some ⟨.d, .b⟩, none, .call 101 [.t ⟨.a, .a⟩, .c (.c (.s [98, 111, 100, 121])), .t ⟨.d, .a⟩], []⟩]) (.reg [⟨some ⟨.d, .d⟩, none, .nc (.t ⟨.a, .a⟩),
  []⟩, ⟨some ⟨.d, .e⟩, none, .fa 5 (.t ⟨.d, .d⟩), []⟩, ⟨none, none, .st 1 (.t ⟨.d, .e⟩) (.c (.c (.i .i64 (.ofNat 5)))), []⟩])) (.seq (.reg [⟨some ⟨.d, .g⟩, none, .fa 0 (.t ⟨.a, .d⟩), []⟩, ⟨some ⟨.d,
  .h⟩, none, .ld 1 false (.t ⟨.d, .g⟩), []⟩, ⟨some ⟨.d, .i⟩, none, .bin .eql (.t ⟨.d, .h⟩) (.c (.c (.i .i64 (.ofNat 1)))), []⟩, ⟨some ⟨.d, .j⟩, none, .mv (.t ⟨.d, .i⟩), []⟩, ⟨some ⟨.d, .k⟩, some (⟨.d,
  .j⟩, true), .fa 1 (.t ⟨.a, .d⟩), []⟩, ⟨some ⟨.d, .l⟩, some (⟨.d, .j⟩, true), .ld 1 false (.t ⟨.d, .k⟩), []⟩, ⟨some ⟨.d, .m⟩, some (⟨.d, .j⟩, true), .call 105 [.t ⟨.d, .l⟩, .c (.c (.i .i64 (.ofNat
  8)))], []⟩, ⟨some ⟨.d, .n⟩, none, .pk (.t ⟨.d, .j⟩) (.t ⟨.d, .m⟩) (.c (.c (.b false))), []⟩, ⟨some ⟨.d, .f⟩, none, .mv (.t ⟨.d, .n⟩), []⟩]) (.cond (.t ⟨.d, .f⟩) (.seq (.dreg [⟨some ⟨.d, .o⟩, none,
  .mv (.t ⟨.a, .a⟩), []⟩, ⟨some ⟨.d, .p⟩, none, .mv (.t ⟨.a, .a⟩), []⟩, ⟨some ⟨.e, .a⟩, none, .nc (.t ⟨.d, .p⟩), []⟩, ⟨some ⟨.e, .b⟩, none, .fa 3 (.t ⟨.e, .a⟩), []⟩, ⟨some ⟨.e, .c⟩, none, .ld 1 false
  (.t ⟨.e, .b⟩), []⟩, ⟨some ⟨.e, .d⟩, none, .mv (.t ⟨.a, .a⟩), []⟩, ⟨some ⟨.e, .e⟩, none, .nc (.t ⟨.e, .d⟩), []⟩, ⟨some ⟨.e, .f⟩, none, .fa 1 (.t ⟨.e, .e⟩), []⟩, ⟨some ⟨.e, .g⟩, none, .ld 1 false (.t
  ⟨.e, .f⟩), []⟩, ⟨some ⟨.e, .h⟩, none, .bsl 58 1 1 [.p none] [(0, (1, .t ⟨.e, .g⟩))], []⟩, ⟨some ⟨.e, .i⟩, none, .app 58 1 false (.t ⟨.e, .c⟩) (.t ⟨.e, .h⟩), []⟩, ⟨some ⟨.e, .j⟩, none, .nc (.t ⟨.d,
  .o⟩), []⟩, ⟨some ⟨.e, .k⟩, none, .fa 3 (.t ⟨.e, .j⟩), []⟩, ⟨none, none, .st 1 (.t ⟨.e, .k⟩) (.t ⟨.e, .i⟩), []⟩]) (.seq (.reg [⟨some ⟨.e, .m⟩, none, .ld 5 true (.t ⟨.a, .d⟩), []⟩, ⟨some ⟨.e, .n⟩,
  none, .call 71 [.t ⟨.a, .a⟩, .t ⟨.e, .m⟩], []⟩, ⟨some ⟨.a, .f⟩, none, .mv (.t ⟨.e, .n⟩), []⟩]) (.seq (.seq (.reg [⟨some ⟨.f, .a⟩, none, .nc (.t ⟨.a, .a⟩), []⟩, ⟨some ⟨.f, .b⟩, none, .fa 1 (.t ⟨.f,
  .a⟩), []⟩, ⟨some ⟨.f, .c⟩, none, .ld 1 false (.t ⟨.f, .b⟩), []⟩, ⟨some ⟨.f, .d⟩, none, .nc (.t ⟨.f, .c⟩), []⟩, ⟨some ⟨.f, .e⟩, none, .fa 0 (.t ⟨.f, .d⟩), []⟩, ⟨some ⟨.f, .f⟩, none, .ld 1 false (.t
  ⟨.f, .e⟩), []⟩, ⟨some ⟨.f, .g⟩, none, .call 106 [.t ⟨.a, .a⟩, .t ⟨.f, .f⟩], []⟩, ⟨some ⟨.a, .g⟩, none, .mv (.t ⟨.f, .g⟩), []⟩]) (.seq (.reg [⟨some ⟨.f, .i⟩, none, .bin .geq (.t ⟨.a, .g⟩) (.c (.c (.i
  .i64 (.ofNat 0)))), []⟩]) (.cond (.t ⟨.f, .i⟩) (.dreg [⟨some ⟨.f, .j⟩, none, .mv (.t ⟨.a, .a⟩), []⟩, ⟨some ⟨.f, .k⟩, none, .mv (.t ⟨.a, .a⟩), []⟩, ⟨some ⟨.f, .l⟩, none, .nc (.t ⟨.f, .k⟩), []⟩, ⟨some
  ⟨.f, .m⟩, none, .fa 3 (.t ⟨.f, .l⟩), []⟩, ⟨some ⟨.f, .n⟩, none, .ld 1 false (.t ⟨.f, .m⟩), []⟩, ⟨some ⟨.f, .o⟩, none, .mv (.t ⟨.a, .g⟩), []⟩, ⟨some ⟨.f, .p⟩, none, .mv (.t ⟨.a, .g⟩), []⟩, ⟨some ⟨.g,
  .a⟩, none, .slc 1 (.t ⟨.f, .n⟩) none (some (.t ⟨.f, .o⟩)) (some (.t ⟨.f, .p⟩)), []⟩, ⟨some ⟨.g, .b⟩, none, .mv (.t ⟨.a, .a⟩), []⟩, ⟨some ⟨.g, .c⟩, none, .nc (.t ⟨.g, .b⟩), []⟩, ⟨some ⟨.g, .d⟩, none,
  .fa 3 (.t ⟨.g, .c⟩), []⟩, ⟨some ⟨.g, .e⟩, none, .ld 1 false (.t ⟨.g, .d⟩), []⟩, ⟨some ⟨.g, .f⟩, none, .mv (.t ⟨.a, .g⟩), []⟩, ⟨some ⟨.g, .g⟩, none, .bin .add (.t ⟨.g, .f⟩) (.c (.c (.i .i64 (.ofNat
  1)))), []⟩, ⟨some ⟨.g, .h⟩, none, .slc 1 (.t ⟨.g, .e⟩) (some (.t ⟨.g, .g⟩)) none none, []⟩, ⟨some ⟨.g, .i⟩, none, .app 58 1 false (.t ⟨.g, .a⟩) (.t ⟨.g, .h⟩), []⟩, ⟨some ⟨.g, .j⟩, none, .nc (.t ⟨.f,
  .j⟩), []⟩, ⟨some ⟨.g, .k⟩, none, .fa 3 (.t ⟨.g, .j⟩), []⟩, ⟨none, none, .st 1 (.t ⟨.g, .k⟩) (.t ⟨.g, .i⟩), []⟩]) .skip))) (.seq (.reg [⟨some ⟨.a, .e⟩, none, .mv (.t ⟨.a, .f⟩), []⟩]) .ret)))) (.seq
  (.reg [⟨some ⟨.g, .n⟩, none, .fa 0 (.t ⟨.a, .d⟩), []⟩, ⟨some ⟨.g, .o⟩, none, .ld 1 false (.t ⟨.g, .n⟩), []⟩, ⟨some ⟨.g, .p⟩, none, .bin .eql (.t ⟨.g, .o⟩) (.c (.c (.i .i64 (.ofNat 2)))), []⟩, ⟨some
  ⟨.h, .a⟩, none, .mv (.t ⟨.g, .p⟩), []⟩, ⟨some ⟨.h, .b⟩, some (⟨.h, .a⟩, true), .fa 1 (.t ⟨.a, .d⟩), []⟩, ⟨some ⟨.h, .c⟩, some (⟨.h, .a⟩, true), .ld 1 false (.t ⟨.h, .b⟩), []⟩, ⟨some ⟨.h, .d⟩, some
  (⟨.h, .a⟩, true), .bsl 9 1 3 [.s [], .s [], .s []] [(0, (1, .c (.c (.s [98, 111, 100, 121])))), (1, (1, .c (.c (.s [104, 116, 109, 108])))), (2, (1, .c (.c (.s [98, 114]))))], []⟩, ⟨some ⟨.h, .e⟩,
  some (⟨.h, .a⟩, true), .call 38 [.t ⟨.h, .c⟩, .t ⟨.h, .d⟩], []⟩, ⟨some ⟨.h, .f⟩, some (⟨.h, .a⟩, true), .un .not (.t ⟨.h, .e⟩), []⟩, ⟨some ⟨.h, .g⟩, none, .pk (.t ⟨.h, .a⟩) (.t ⟨.h, .f⟩) (.c (.c (.b
  false))), []⟩, ⟨some ⟨.g, .m⟩, none, .mv (.t ⟨.h, .g⟩), []⟩]) (.cond (.t ⟨.g, .m⟩) .skip (.seq (.reg [⟨some ⟨.a, .i⟩, none, .call 101 [.t ⟨.a, .a⟩, .c (.c (.s [98, 111, 100, 121])), .c (.c (.sl none
  0 0 0))], []⟩]) (.seq (.reg [⟨some ⟨.a, .k⟩, none, .nc (.t ⟨.a, .a⟩), []⟩, ⟨some ⟨.a, .l⟩, none, .fa 5 (.t ⟨.a, .k⟩), []⟩, ⟨none, none, .st 1 (.t ⟨.a, .l⟩) (.c (.c (.i .i64 (.ofNat 5)))), []⟩]) (.seq
  (.reg [⟨some ⟨.a, .e⟩, none, .mv (.c (.c (.b true))), []⟩]) .ret)))))))))))))))))) (.seq (.reg [⟨some ⟨.a, .e⟩, none, .mv (.c (.c (.b false))), []⟩]) .ret)), [(⟨.a, .e⟩, none)]⟩

theorem ok72 : FnR Go.Proofs.Tryz.prog 0 72 cf72 := fnC_ok [7, 9, 15, 23, 39, 46, 50, 75, 78, 79, 87, 107] Go.Proofs.Tryz.func72 (by kernel_rfl) (by kernel_rfl)

def cf74 : CF := ⟨142, 2, .seq (.reg [⟨some ⟨.a, .c⟩, none, .new 57 (.t ⟨.a, .a⟩), []⟩, ⟨some ⟨.a, .d⟩, none, .new 56 (.t ⟨.a, .b⟩), []⟩, ⟨some ⟨.a, .e⟩, none, .mv (.c (.c (.b false))), []⟩]) (.seq (.reg [⟨some ⟨.a,
  .h⟩, none, .mkf 107 [.t ⟨.a, .c⟩], []⟩, ⟨some ⟨.a, .f⟩, none, .mv (.t ⟨.a, .h⟩), []⟩]) (.seq (.blk 0 (.seq (.reg [⟨some ⟨.b, .d⟩, none, .ld 5 true (.t ⟨.a, .d⟩), []⟩, ⟨some ⟨.b, .e⟩, none, .call 99
  [.t ⟨.b, .d⟩], []⟩, ⟨some ⟨.b, .c⟩, none, .mv (.t ⟨.b, .e⟩), []⟩]) (.cond (.t ⟨.b, .c⟩) (.reg [⟨some ⟨.b, .f⟩, none, .ld 1 false (.t ⟨.a, .c⟩), []⟩, ⟨some ⟨.b, .g⟩, none, .fa 2 (.t ⟨.a, .d⟩), []⟩,
  ⟨some ⟨.b, .h⟩, none, .ld 1 false (.t ⟨.b, .g⟩), []⟩, ⟨some ⟨.b, .i⟩, none, .call 65 [.t ⟨.b, .f⟩, .t ⟨.b, .h⟩], []⟩]) (.seq (.reg [⟨some ⟨.b, .k⟩, none, .fa 0 (.t ⟨.a, .d⟩), []⟩, ⟨some ⟨.b, .l⟩,
  none, .ld 1 false (.t ⟨.b, .k⟩), []⟩, ⟨some ⟨.b, .m⟩, none, .bin .eql (.t ⟨.b, .l⟩) (.c (.c (.i .i64 (.ofNat 4)))), []⟩, ⟨some ⟨.b, .j⟩, none, .mv (.t ⟨.b, .m⟩), []⟩]) (.cond (.t ⟨.b, .j⟩) (.reg
  [⟨some ⟨.b, .n⟩, none, .ld 1 false (.t ⟨.a, .c⟩), []⟩, ⟨some ⟨.b, .o⟩, none, .ld 5 true (.t ⟨.a, .d⟩), []⟩, ⟨some ⟨.b, .p⟩, none, .call 102 [.t ⟨.b, .n⟩, .t ⟨.b, .o⟩], []⟩]) (.seq (.reg [⟨some ⟨.c,
  .b⟩, none, .fa 0 (.t ⟨.a, .d⟩), []⟩, ⟨some ⟨.c, .c⟩, none, .ld 1 false (.t ⟨.c, .b⟩), []⟩, ⟨some ⟨.c, .d⟩, none, .bin .eql (.t ⟨.c, .c⟩) (.c (.c (.i .i64 (.ofNat 5)))), []⟩, ⟨some ⟨.c, .e⟩, none, .mv
  (.t ⟨.c, .d⟩), []⟩, ⟨some ⟨.c, .f⟩, some (⟨.c, .e⟩, false), .fa 0 (.t ⟨.a, .d⟩), []⟩, ⟨some ⟨.c, .g⟩, some (⟨.c, .e⟩, false), .ld 1 false (.t ⟨.c, .f⟩), []⟩, ⟨some ⟨.c, .h⟩, some (⟨.c, .e⟩, false),
  .bin .eql (.t ⟨.c, .g⟩) (.c (.c (.i .i64 (.ofNat 6)))), []⟩, ⟨some ⟨.c, .i⟩, none, .pk (.t ⟨.c, .e⟩) (.c (.c (.b true))) (.t ⟨.c, .h⟩), []⟩, ⟨some ⟨.c, .a⟩, none, .mv (.t ⟨.c, .i⟩), []⟩]) (.cond (.t
  ⟨.c, .a⟩) .skip (.seq (.reg [⟨some ⟨.c, .k⟩, none, .ld 5 true (.t ⟨.a, .d⟩), []⟩, ⟨some ⟨.c, .l⟩, none, .bsl 9 1 1 [.s []] [(0, (1, .c (.c (.s [99, 97, 112, 116, 105, 111, 110]))))], []⟩, ⟨some ⟨.c,
  .m⟩, none, .call 100 [.t ⟨.c, .k⟩, .t ⟨.c, .l⟩], []⟩, ⟨some ⟨.c, .j⟩, none, .mv (.t ⟨.c, .m⟩), []⟩]) (.cond (.t ⟨.c, .j⟩) (.seq (.reg [⟨some ⟨.c, .o⟩, none, .callv (.t ⟨.a, .f⟩) [], []⟩]) (.seq (.reg
  [⟨some ⟨.c, .p⟩, none, .ld 1 false (.t ⟨.a, .c⟩), []⟩, ⟨some ⟨.d, .a⟩, none, .nc (.t ⟨.c, .p⟩), []⟩, ⟨some ⟨.d, .b⟩, none, .fa 4 (.t ⟨.d, .a⟩), []⟩, ⟨some ⟨.d, .c⟩, none, .ld 1 false (.t ⟨.d, .b⟩),
  []⟩, ⟨some ⟨.d, .d⟩, none, .call 109 [.t ⟨.d, .c⟩], []⟩]) (.seq (.reg [⟨some ⟨.d, .e⟩, none, .ld 1 false (.t ⟨.a, .c⟩), []⟩, ⟨some ⟨.d, .f⟩, none, .fa 1 (.t ⟨.a, .d⟩), []⟩, ⟨some ⟨.d, .g⟩, none, .ld
  1 false (.t ⟨.d, .f⟩), []⟩, ⟨some ⟨.d, .h⟩, none, .fa 3 (.t ⟨.a, .d⟩), []⟩, ⟨some ⟨.d, .i⟩, none, .ld 1 false (.t ⟨.d, .h⟩), []⟩, ⟨some ⟨.d, .j⟩, none, .call 101 [.t ⟨.d, .e⟩, .t ⟨.d, .g⟩, .t ⟨.d,
  .i⟩], []⟩]) (.reg [⟨some ⟨.d, .k⟩, none, .ld 1 false (.t ⟨.a, .c⟩), []⟩, ⟨some ⟨.d, .l⟩, none, .nc (.t ⟨.d, .k⟩), []⟩, ⟨some ⟨.d, .m⟩, none, .fa 5 (.t ⟨.d, .l⟩), []⟩, ⟨none, none, .st 1 (.t ⟨.d, .m⟩)
  (.c (.c (.i .i64 (.ofNat 8)))), []⟩])))) (.seq (.reg [⟨some ⟨.d, .o⟩, none, .ld 5 true (.t ⟨.a, .d⟩), []⟩, ⟨some ⟨.d, .p⟩, none, .bsl 9 1 1 [.s []] [(0, (1, .c (.c (.s [99, 111, 108, 103, 114, 111,
  117, 112]))))], []⟩, ⟨some ⟨.e, .a⟩, none, .call 100 [.t ⟨.d, .o⟩, .t ⟨.d, .p⟩], []⟩, ⟨some ⟨.d, .n⟩, none, .mv (.t ⟨.e, .a⟩), []⟩]) (.cond (.t ⟨.d, .n⟩) (.seq (.reg [⟨some ⟨.e, .c⟩, none, .callv (.t
  ⟨.a, .f⟩) [], []⟩]) (.seq (.reg [⟨some ⟨.e, .d⟩, none, .ld 1 false (.t ⟨.a, .c⟩), []⟩, ⟨some ⟨.e, .e⟩, none, .fa 1 (.t ⟨.a, .d⟩), []⟩, ⟨some ⟨.e, .f⟩, none, .ld 1 false (.t ⟨.e, .e⟩), []⟩, ⟨some ⟨.e,
  .g⟩, none, .fa 3 (.t ⟨.a, .d⟩), []⟩, ⟨some ⟨.e, .h⟩, none, .ld 1 false (.t ⟨.e, .g⟩), []⟩, ⟨some ⟨.e, .i⟩, none, .call 101 [.t ⟨.e, .d⟩, .t ⟨.e, .f⟩, .t ⟨.e, .h⟩], []⟩]) (.reg [⟨some ⟨.e, .j⟩, none,
  .ld 1 false (.t ⟨.a, .c⟩), []⟩, ⟨some ⟨.e, .k⟩, none, .nc (.t ⟨.e, .j⟩), []⟩, ⟨some ⟨.e, .l⟩, none, .fa 5 (.t ⟨.e, .k⟩), []⟩, ⟨none, none, .st 1 (.t ⟨.e, .l⟩) (.c (.c (.i .i64 (.ofNat 9)))), []⟩])))
  (.seq (.reg [⟨some ⟨.e, .n⟩, none, .ld 5 true (.t ⟨.a, .d⟩), []⟩, ⟨some ⟨.e, .o⟩, none, .bsl 9 1 1 [.s []] [(0, (1, .c (.c (.s [99, 111, 108]))))], []⟩, ⟨some ⟨.e, .p⟩, none, .call 100 [.t ⟨.e, .n⟩,
  .t ⟨.e, .o⟩], []⟩, ⟨some ⟨.e, .m⟩, none, .mv (.t ⟨.e, .p⟩), []⟩]) (.cond (.t ⟨.e, .m⟩) (.seq (.reg [⟨some ⟨.f, .b⟩, none, .callv (.t ⟨.a, .f⟩) [], []⟩]) (.seq (.reg [⟨some ⟨.f, .c⟩, none, .ld 1 false
  (.t ⟨.a, .c⟩), []⟩, ⟨some ⟨.f, .d⟩, none, .call 101 [.t ⟨.f, .c⟩, .c (.c (.s [99, 111, 108, 103, 114, 111, 117, 112])), .c (.c (.sl none 0 0 0))], []⟩]) (.seq (.reg [⟨some ⟨.f, .e⟩, none, .ld 1 false
  (.t ⟨.a, .c⟩), []⟩, ⟨some ⟨.f, .f⟩, none, .nc (.t ⟨.f, .e⟩), []⟩, ⟨some ⟨.f, .g⟩, none, .fa 5 (.t ⟨.f, .f⟩), []⟩, ⟨none, none, .st 1 (.t ⟨.f, .g⟩) (.c (.c (.i .i64 (.ofNat 9)))), []⟩]) (.seq (.reg
  [⟨some ⟨.a, .e⟩, none, .mv (.c (.c (.b true))), []⟩]) .ret)))) (.seq (.dreg [⟨some ⟨.f, .i⟩, none, .ld 5 true (.t ⟨.a, .d⟩), []⟩, ⟨some ⟨.f, .j⟩, none, .call 110 [], [⟨some ⟨.f, .i⟩, none, .ld 5 true
  (.t ⟨.a, .d⟩)⟩]⟩, ⟨some ⟨.f, .k⟩, none, .call 100 [.t ⟨.f, .i⟩, .t ⟨.f, .j⟩], []⟩, ⟨some ⟨.f, .h⟩, none, .mv (.t ⟨.f, .k⟩), []⟩]) (.cond (.t ⟨.f, .h⟩) (.seq (.reg [⟨some ⟨.f, .m⟩, none, .callv (.t
  ⟨.a, .f⟩) [], []⟩]) (.seq (.reg [⟨some ⟨.f, .n⟩, none, .ld 1 false (.t ⟨.a, .c⟩), []⟩, ⟨some ⟨.f, .o⟩, none, .fa 1 (.t ⟨.a, .d⟩), []⟩, ⟨some ⟨.f, .p⟩, none, .ld 1 false (.t ⟨.f, .o⟩), []⟩, ⟨some ⟨.g,
  .a⟩, none, .fa 3 (.t ⟨.a, .d⟩), []⟩, ⟨some ⟨.g, .b⟩, none, .ld 1 false (.t ⟨.g, .a⟩), []⟩, ⟨some ⟨.g, .c⟩, none, .call 101 [.t ⟨.f, .n⟩, .t ⟨.f, .p⟩, .t ⟨.g, .b⟩], []⟩]) (.reg [⟨some ⟨.g, .d⟩, none,
  .ld 1 false (.t ⟨.a, .c⟩), []⟩, ⟨some ⟨.g, .e⟩, none, .nc (.t ⟨.g, .d⟩), []⟩, ⟨some ⟨.g, .f⟩, none, .fa 5 (.t ⟨.g, .e⟩), []⟩, ⟨none, none, .st 1 (.t ⟨.g, .f⟩) (.c (.c (.i .i64 (.ofNat 10)))), []⟩])))
  (.seq (.reg [⟨some ⟨.g, .h⟩, none, .ld 5 true (.t ⟨.a, .d⟩), []⟩, ⟨some ⟨.g, .i⟩, none, .bsl 9 1 3 [.s [], .s [], .s []] [(0, (1, .c (.c (.s [116, 100])))), (1, (1, .c (.c (.s [116, 104])))), (2, (1,
  .c (.c (.s [116, 114]))))], []⟩, ⟨some ⟨.g, .j⟩, none, .call 100 [.t ⟨.g, .h⟩, .t ⟨.g, .i⟩], []⟩, ⟨some ⟨.g, .g⟩, none, .mv (.t ⟨.g, .j⟩), []⟩]) (.cond (.t ⟨.g, .g⟩) (.seq (.reg [⟨some ⟨.g, .l⟩,
  none, .callv (.t ⟨.a, .f⟩) [], []⟩]) (.seq (.reg [⟨some ⟨.g, .m⟩, none, .ld 1 false (.t ⟨.a, .c⟩), []⟩, ⟨some ⟨.g, .n⟩, none, .call 101 [.t ⟨.g, .m⟩, .c (.c (.s [116, 98, 111, 100, 121])), .c (.c
  (.sl none 0 0 0))], []⟩]) (.seq (.reg [⟨some ⟨.g, .o⟩, none, .ld 1 false (.t ⟨.a, .c⟩), []⟩, ⟨some ⟨.g, .p⟩, none, .nc (.t ⟨.g, .o⟩), []⟩, ⟨some ⟨.h, .a⟩, none, .fa 5 (.t ⟨.g, .p⟩), []⟩, ⟨none, none,
  .st 1 (.t ⟨.h, .a⟩) (.c (.c (.i .i64 (.ofNat 10)))), []⟩]) (.seq (.reg [⟨some ⟨.a, .e⟩, none, .mv (.c (.c (.b true))), []⟩]) .ret)))) (.seq (.seq (.reg [⟨some ⟨.h, .c⟩, none, .ld 5 true (.t ⟨.a,
  .d⟩), []⟩, ⟨some ⟨.h, .d⟩, none, .bsl 9 1 1 [.s []] [(0, (1, .c (.c (.s [116, 97, 98, 108, 101]))))], []⟩, ⟨some ⟨.h, .e⟩, none, .call 100 [.t ⟨.h, .c⟩, .t ⟨.h, .d⟩], []⟩, ⟨some ⟨.h, .b⟩, none, .mv
  (.t ⟨.h, .e⟩), []⟩]) (.cond (.t ⟨.h, .b⟩) .skip (.reg [⟨some ⟨.h, .f⟩, none, .ld 5 true (.t ⟨.a, .d⟩), []⟩, ⟨some ⟨.h, .g⟩, none, .bsl 9 1 1 [.s []] [(0, (1, .c (.c (.s [116, 97, 98, 108, 101]))))],
  []⟩, ⟨some ⟨.h, .h⟩, none, .call 66 [.t ⟨.h, .f⟩, .t ⟨.h, .g⟩], []⟩, ⟨some ⟨.h, .b⟩, none, .mv (.t ⟨.h, .h⟩), []⟩]))) (.cond (.t ⟨.h, .b⟩) (.seq (.seq (.reg [⟨some ⟨.h, .i⟩, none, .ld 1 false (.t
  ⟨.a, .c⟩), []⟩, ⟨some ⟨.h, .j⟩, none, .call 111 [.t ⟨.h, .i⟩, .c (.c (.s [116, 97, 98, 108, 101])), .c (.c (.i .i64 (.ofNat 4)))], []⟩, ⟨some ⟨.h, .k⟩, none, .un .not (.t ⟨.h, .j⟩), []⟩]) (.cond (.t
  ⟨.h, .k⟩) (.seq (.reg [⟨some ⟨.a, .e⟩, none, .mv (.c (.c (.b false))), []⟩]) .ret) .skip)) (.seq (.reg [⟨some ⟨.h, .l⟩, none, .ld 1 false (.t ⟨.a, .c⟩), []⟩, ⟨some ⟨.h, .m⟩, none, .bsl 9 1 1 [.s []]
  [(0, (1, .c (.c (.s [116, 97, 98, 108, 101]))))], []⟩, ⟨some ⟨.h, .n⟩, none, .call 104 [.t ⟨.h, .l⟩, .t ⟨.h, .m⟩], []⟩]) (.seq (.reg [⟨some ⟨.h, .o⟩, none, .ld 1 false (.t ⟨.a, .c⟩), []⟩, ⟨some ⟨.h,
  .p⟩, none, .call 112 [.t ⟨.h, .o⟩], []⟩]) (.seq (.reg [⟨some ⟨.i, .a⟩, none, .fa 0 (.t ⟨.a, .d⟩), []⟩, ⟨some ⟨.i, .b⟩, none, .ld 1 false (.t ⟨.i, .a⟩), []⟩, ⟨some ⟨.i, .c⟩, none, .bin .eql (.t ⟨.i,
  .b⟩) (.c (.c (.i .i64 (.ofNat 1)))), []⟩, ⟨some ⟨.a, .e⟩, none, .mv (.t ⟨.i, .c⟩), []⟩]) .ret)))) (.seq (.reg [⟨some ⟨.i, .e⟩, none, .ld 5 true (.t ⟨.a, .d⟩), []⟩, ⟨some ⟨.i, .f⟩, none, .bsl 9 1 11
  [.s [], .s [], .s [], .s [], .s [], .s [], .s [], .s [], .s [], .s [], .s []] [(0, (1, .c (.c (.s [98, 111, 100, 121])))), (1, (1, .c (.c (.s [99, 97, 112, 116, 105, 111, 110])))), (2, (1, .c (.c (.s
  [99, 111, 108])))), (3, (1, .c (.c (.s [99, 111, 108, 103, 114, 111, 117, 112])))), (4, (1, .c (.c (.s [104, 116, 109, 108])))), (5, (1, .c (.c (.s [116, 98, 111, 100, 121])))), (6, (1, .c (.c (.s
  [116, 100])))), (7, (1, .c (.c (.s [116, 102, 111, 111, 116])))), (8, (1, .c (.c (.s [116, 104])))), (9, (1, .c (.c (.s [116, 104, 101, 97, 100])))), (10, (1, .c (.c (.s [116, 114]))))], []⟩, ⟨some
  ⟨.i, .g⟩, none, .call 66 [.t ⟨.i, .e⟩, .t ⟨.i, .f⟩], []⟩, ⟨some ⟨.i, .d⟩, none, .mv (.t ⟨.i, .g⟩), []⟩]) (.cond (.t ⟨.i, .d⟩) .skip (.seq (.reg [⟨some ⟨.i, .i⟩, none, .ld 5 true (.t ⟨.a, .d⟩), []⟩,
  ⟨some ⟨.i, .j⟩, none, .bsl 9 1 2 [.s [], .s []] [(0, (1, .c (.c (.s [115, 116, 121, 108, 101])))), (1, (1, .c (.c (.s [115, 99, 114, 105, 112, 116]))))], []⟩, ⟨some ⟨.i, .k⟩, none, .call 100 [.t ⟨.i,
  .i⟩, .t ⟨.i, .j⟩], []⟩, ⟨some ⟨.i, .h⟩, none, .mv (.t ⟨.i, .k⟩), []⟩]) (.cond (.t ⟨.i, .h⟩) (.seq (.reg [⟨some ⟨.i, .l⟩, none, .ld 1 false (.t ⟨.a, .c⟩), []⟩, ⟨some ⟨.i, .m⟩, none, .ld 5 true (.t
  ⟨.a, .d⟩), []⟩, ⟨some ⟨.i, .n⟩, none, .call 71 [.t ⟨.i, .l⟩, .t ⟨.i, .m⟩], []⟩, ⟨some ⟨.a, .e⟩, none, .mv (.t ⟨.i, .n⟩), []⟩]) .ret) (.seq (.reg [⟨some ⟨.a, .i⟩, none, .ld 1 false (.t ⟨.a, .c⟩), []⟩,
  ⟨some ⟨.a, .j⟩, none, .nc (.t ⟨.a, .i⟩), []⟩, ⟨some ⟨.a, .k⟩, none, .fa 6 (.t ⟨.a, .j⟩), []⟩, ⟨none, none, .st 1 (.t ⟨.a, .k⟩) (.c (.c (.b true))), []⟩]) (.seq (.reg [⟨some ⟨.a, .l⟩, none, .ld 1
  false (.t ⟨.a, .c⟩), []⟩, ⟨some ⟨.a, .m⟩, none, .ld 5 true (.t ⟨.a, .d⟩), []⟩, ⟨some ⟨.a, .n⟩, none, .call 80 [.t ⟨.a, .l⟩, .t ⟨.a, .m⟩], []⟩, ⟨some ⟨.a, .g⟩, none, .mv (.t ⟨.a, .n⟩), []⟩]) (.seq
  (.reg [⟨some ⟨.a, .o⟩, none, .ld 1 false (.t ⟨.a, .c⟩), []⟩, ⟨some ⟨.a, .p⟩, none, .nc (.t ⟨.a, .o⟩), []⟩, ⟨some ⟨.b, .a⟩, none, .fa 6 (.t ⟨.a, .p⟩), []⟩, ⟨none, none, .st 1 (.t ⟨.b, .a⟩) (.c (.c (.b
  false))), []⟩]) (.seq (.reg [⟨some ⟨.a, .e⟩, none, .mv (.t ⟨.a, .g⟩), []⟩]) .ret))))))))))))))))))))))))))) (.seq (.reg [⟨some ⟨.a, .e⟩, none, .mv (.c (.c (.b false))), []⟩]) .ret))), [(⟨.a, .e⟩,
  none)]⟩

theorem ok74 : FnR Go.Proofs.Tryz.prog 0 74 cf74 := fnC_ok [17, 45, 65, 80, 91, 106] Go.Proofs.Tryz.func74 (by kernel_rfl) (by kernel_rfl)

def cf77 : CF := ⟨79, 2, .seq (.reg [⟨some ⟨.a, .c⟩, none, .new 57 (.t ⟨.a, .a⟩), []⟩, ⟨some ⟨.a, .d⟩, none, .new 56 (.t ⟨.a, .b⟩), []⟩, ⟨some ⟨.a, .e⟩, none, .mv (.c (.c (.b false))), []⟩]) (.seq (.reg [⟨some ⟨.a,
  .g⟩, none, .mkf 116 [.t ⟨.a, .c⟩], []⟩, ⟨some ⟨.a, .f⟩, none, .mv (.t ⟨.a, .g⟩), []⟩]) (.seq (.blk 0 (.seq (.reg [⟨some ⟨.a, .l⟩, none, .ld 5 true (.t ⟨.a, .d⟩), []⟩, ⟨some ⟨.a, .m⟩, none, .bsl 9 1 1
  [.s []] [(0, (1, .c (.c (.s [116, 114]))))], []⟩, ⟨some ⟨.a, .n⟩, none, .call 100 [.t ⟨.a, .l⟩, .t ⟨.a, .m⟩], []⟩, ⟨some ⟨.a, .k⟩, none, .mv (.t ⟨.a, .n⟩), []⟩]) (.cond (.t ⟨.a, .k⟩) (.seq (.reg
  [⟨some ⟨.a, .p⟩, none, .callv (.t ⟨.a, .f⟩) [], []⟩]) (.seq (.reg [⟨some ⟨.b, .a⟩, none, .ld 1 false (.t ⟨.a, .c⟩), []⟩, ⟨some ⟨.b, .b⟩, none, .fa 1 (.t ⟨.a, .d⟩), []⟩, ⟨some ⟨.b, .c⟩, none, .ld 1
  false (.t ⟨.b, .b⟩), []⟩, ⟨some ⟨.b, .d⟩, none, .fa 3 (.t ⟨.a, .d⟩), []⟩, ⟨some ⟨.b, .e⟩, none, .ld 1 false (.t ⟨.b, .d⟩), []⟩, ⟨some ⟨.b, .f⟩, none, .call 101 [.t ⟨.b, .a⟩, .t ⟨.b, .c⟩, .t ⟨.b,
  .e⟩], []⟩]) (.reg [⟨some ⟨.b, .g⟩, none, .ld 1 false (.t ⟨.a, .c⟩), []⟩, ⟨some ⟨.b, .h⟩, none, .nc (.t ⟨.b, .g⟩), []⟩, ⟨some ⟨.b, .i⟩, none, .fa 5 (.t ⟨.b, .h⟩), []⟩, ⟨none, none, .st 1 (.t ⟨.b, .i⟩)
  (.c (.c (.i .i64 (.ofNat 11)))), []⟩]))) (.seq (.reg [⟨some ⟨.b, .k⟩, none, .ld 5 true (.t ⟨.a, .d⟩), []⟩, ⟨some ⟨.b, .l⟩, none, .bsl 9 1 2 [.s [], .s []] [(0, (1, .c (.c (.s [116, 100])))), (1, (1,
  .c (.c (.s [116, 104]))))], []⟩, ⟨some ⟨.b, .m⟩, none, .call 100 [.t ⟨.b, .k⟩, .t ⟨.b, .l⟩], []⟩, ⟨some ⟨.b, .j⟩, none, .mv (.t ⟨.b, .m⟩), []⟩]) (.cond (.t ⟨.b, .j⟩) (.seq (.reg [⟨some ⟨.b, .o⟩,
  none, .callv (.t ⟨.a, .f⟩) [], []⟩]) (.seq (.reg [⟨some ⟨.b, .p⟩, none, .ld 1 false (.t ⟨.a, .c⟩), []⟩, ⟨some ⟨.c, .a⟩, none, .call 101 [.t ⟨.b, .p⟩, .c (.c (.s [116, 114])), .c (.c (.sl none 0 0
  0))], []⟩]) (.seq (.reg [⟨some ⟨.c, .b⟩, none, .ld 1 false (.t ⟨.a, .c⟩), []⟩, ⟨some ⟨.c, .c⟩, none, .nc (.t ⟨.c, .b⟩), []⟩, ⟨some ⟨.c, .d⟩, none, .fa 5 (.t ⟨.c, .c⟩), []⟩, ⟨none, none, .st 1 (.t
  ⟨.c, .d⟩) (.c (.c (.i .i64 (.ofNat 11)))), []⟩]) (.seq (.reg [⟨some ⟨.a, .e⟩, none, .mv (.c (.c (.b true))), []⟩]) .ret)))) (.seq (.dreg [⟨some ⟨.c, .f⟩, none, .ld 5 true (.t ⟨.a, .d⟩), []⟩, ⟨some
  ⟨.c, .g⟩, none, .call 110 [], [⟨some ⟨.c, .f⟩, none, .ld 5 true (.t ⟨.a, .d⟩)⟩]⟩, ⟨some ⟨.c, .h⟩, none, .call 66 [.t ⟨.c, .f⟩, .t ⟨.c, .g⟩], []⟩, ⟨some ⟨.c, .e⟩, none, .mv (.t ⟨.c, .h⟩), []⟩]) (.cond
  (.t ⟨.c, .e⟩) (.seq (.reg [⟨some ⟨.c, .i⟩, none, .ld 1 false (.t ⟨.a, .c⟩), []⟩, ⟨some ⟨.c, .j⟩, none, .fa 1 (.t ⟨.a, .d⟩), []⟩, ⟨some ⟨.c, .k⟩, none, .ld 1 false (.t ⟨.c, .j⟩), []⟩, ⟨some ⟨.c, .l⟩,
  none, .call 111 [.t ⟨.c, .i⟩, .t ⟨.c, .k⟩, .c (.c (.i .i64 (.ofNat 4)))], []⟩]) (.cond (.t ⟨.c, .l⟩) (.seq (.reg [⟨some ⟨.c, .n⟩, none, .callv (.t ⟨.a, .f⟩) [], []⟩]) (.seq (.reg [⟨some ⟨.c, .o⟩,
  none, .ld 1 false (.t ⟨.a, .c⟩), []⟩, ⟨some ⟨.c, .p⟩, none, .call 67 [.t ⟨.c, .o⟩, .c (.c (.i .i64 (.ofNat 1)))], []⟩]) (.reg [⟨some ⟨.d, .a⟩, none, .ld 1 false (.t ⟨.a, .c⟩), []⟩, ⟨some ⟨.d, .b⟩,
  none, .nc (.t ⟨.d, .a⟩), []⟩, ⟨some ⟨.d, .c⟩, none, .fa 5 (.t ⟨.d, .b⟩), []⟩, ⟨none, none, .st 1 (.t ⟨.d, .c⟩) (.c (.c (.i .i64 (.ofNat 7)))), []⟩]))) .skip)) (.seq (.seq (.reg [⟨some ⟨.d, .e⟩, none,
  .ld 5 true (.t ⟨.a, .d⟩), []⟩, ⟨some ⟨.d, .f⟩, none, .bsl 9 1 6 [.s [], .s [], .s [], .s [], .s [], .s []] [(0, (1, .c (.c (.s [99, 97, 112, 116, 105, 111, 110])))), (1, (1, .c (.c (.s [99, 111,
  108])))), (2, (1, .c (.c (.s [99, 111, 108, 103, 114, 111, 117, 112])))), (3, (1, .c (.c (.s [116, 98, 111, 100, 121])))), (4, (1, .c (.c (.s [116, 102, 111, 111, 116])))), (5, (1, .c (.c (.s [116,
  104, 101, 97, 100]))))], []⟩, ⟨some ⟨.d, .g⟩, none, .call 100 [.t ⟨.d, .e⟩, .t ⟨.d, .f⟩], []⟩, ⟨some ⟨.d, .d⟩, none, .mv (.t ⟨.d, .g⟩), []⟩]) (.cond (.t ⟨.d, .d⟩) .skip (.reg [⟨some ⟨.d, .h⟩, none,
  .ld 5 true (.t ⟨.a, .d⟩), []⟩, ⟨some ⟨.d, .i⟩, none, .bsl 9 1 1 [.s []] [(0, (1, .c (.c (.s [116, 97, 98, 108, 101]))))], []⟩, ⟨some ⟨.d, .j⟩, none, .call 66 [.t ⟨.d, .h⟩, .t ⟨.d, .i⟩], []⟩, ⟨some
  ⟨.d, .d⟩, none, .mv (.t ⟨.d, .j⟩), []⟩]))) (.cond (.t ⟨.d, .d⟩) (.seq (.reg [⟨some ⟨.d, .k⟩, none, .ld 1 false (.t ⟨.a, .c⟩), []⟩, ⟨some ⟨.d, .l⟩, none, .call 111 [.t ⟨.d, .k⟩, .c (.c (.s [116, 98,
  111, 100, 121])), .c (.c (.i .i64 (.ofNat 4)))], []⟩, ⟨some ⟨.d, .m⟩, none, .mv (.t ⟨.d, .l⟩), []⟩, ⟨some ⟨.d, .n⟩, some (⟨.d, .m⟩, false), .ld 1 false (.t ⟨.a, .c⟩), []⟩, ⟨some ⟨.d, .o⟩, some (⟨.d,
  .m⟩, false), .call 111 [.t ⟨.d, .n⟩, .c (.c (.s [116, 102, 111, 111, 116])), .c (.c (.i .i64 (.ofNat 4)))], []⟩, ⟨some ⟨.d, .p⟩, none, .pk (.t ⟨.d, .m⟩) (.c (.c (.b true))) (.t ⟨.d, .o⟩), []⟩, ⟨some
  ⟨.e, .a⟩, none, .mv (.t ⟨.d, .p⟩), []⟩, ⟨some ⟨.e, .b⟩, some (⟨.e, .a⟩, false), .ld 1 false (.t ⟨.a, .c⟩), []⟩, ⟨some ⟨.e, .c⟩, some (⟨.e, .a⟩, false), .call 111 [.t ⟨.e, .b⟩, .c (.c (.s [116, 104,
  101, 97, 100])), .c (.c (.i .i64 (.ofNat 4)))], []⟩, ⟨some ⟨.e, .d⟩, none, .pk (.t ⟨.e, .a⟩) (.c (.c (.b true))) (.t ⟨.e, .c⟩), []⟩]) (.cond (.t ⟨.e, .d⟩) (.seq (.reg [⟨some ⟨.e, .f⟩, none, .callv
  (.t ⟨.a, .f⟩) [], []⟩]) (.seq (.reg [⟨some ⟨.e, .g⟩, none, .ld 1 false (.t ⟨.a, .c⟩), []⟩, ⟨some ⟨.e, .h⟩, none, .call 67 [.t ⟨.e, .g⟩, .c (.c (.i .i64 (.ofNat 1)))], []⟩]) (.seq (.reg [⟨some ⟨.e,
  .i⟩, none, .ld 1 false (.t ⟨.a, .c⟩), []⟩, ⟨some ⟨.e, .j⟩, none, .nc (.t ⟨.e, .i⟩), []⟩, ⟨some ⟨.e, .k⟩, none, .fa 5 (.t ⟨.e, .j⟩), []⟩, ⟨none, none, .st 1 (.t ⟨.e, .k⟩) (.c (.c (.i .i64 (.ofNat
  7)))), []⟩]) (.seq (.reg [⟨some ⟨.a, .e⟩, none, .mv (.c (.c (.b true))), []⟩]) .ret)))) .skip)) (.seq (.reg [⟨some ⟨.e, .m⟩, none, .ld 5 true (.t ⟨.a, .d⟩), []⟩, ⟨some ⟨.e, .n⟩, none, .bsl 9 1 8 [.s
  [], .s [], .s [], .s [], .s [], .s [], .s [], .s []] [(0, (1, .c (.c (.s [98, 111, 100, 121])))), (1, (1, .c (.c (.s [99, 97, 112, 116, 105, 111, 110])))), (2, (1, .c (.c (.s [99, 111, 108])))), (3,
  (1, .c (.c (.s [99, 111, 108, 103, 114, 111, 117, 112])))), (4, (1, .c (.c (.s [104, 116, 109, 108])))), (5, (1, .c (.c (.s [116, 100])))), (6, (1, .c (.c (.s [116, 104])))), (7, (1, .c (.c (.s [116,
  114]))))], []⟩, ⟨some ⟨.e, .o⟩, none, .call 66 [.t ⟨.e, .m⟩, .t ⟨.e, .n⟩], []⟩, ⟨some ⟨.e, .l⟩, none, .mv (.t ⟨.e, .o⟩), []⟩]) (.cond (.t ⟨.e, .l⟩) .skip (.seq (.reg [⟨some ⟨.a, .h⟩, none, .ld 1
  false (.t ⟨.a, .c⟩), []⟩, ⟨some ⟨.a, .i⟩, none, .ld 5 true (.t ⟨.a, .d⟩), []⟩, ⟨some ⟨.a, .j⟩, none, .call 74 [.t ⟨.a, .h⟩, .t ⟨.a, .i⟩], []⟩, ⟨some ⟨.a, .e⟩, none, .mv (.t ⟨.a, .j⟩), []⟩])
  .ret)))))))))))) (.seq (.reg [⟨some ⟨.a, .e⟩, none, .mv (.c (.c (.b false))), []⟩]) .ret))), [(⟨.a, .e⟩, none)]⟩

theorem ok77 : FnR Go.Proofs.Tryz.prog 0 77 cf77 := fnC_ok [14, 29, 44, 68] Go.Proofs.Tryz.func77 (by kernel_rfl) (by kernel_rfl)

def cf78 : CF := ⟨64, 2, .seq (.reg [⟨some ⟨.a, .c⟩, none, .new 57 (.t ⟨.a, .a⟩), []⟩, ⟨some ⟨.a, .d⟩, none, .new 56 (.t ⟨.a, .b⟩), []⟩, ⟨some ⟨.a, .e⟩, none, .mv (.c (.c (.b false))), []⟩]) (.seq (.reg [⟨some ⟨.a,
  .g⟩, none, .mkf 117 [.t ⟨.a, .c⟩], []⟩, ⟨some ⟨.a, .f⟩, none, .mv (.t ⟨.a, .g⟩), []⟩]) (.seq (.blk 0 (.seq (.reg [⟨some ⟨.a, .l⟩, none, .ld 5 true (.t ⟨.a, .d⟩), []⟩, ⟨some ⟨.a, .m⟩, none, .bsl 9 1 2
  [.s [], .s []] [(0, (1, .c (.c (.s [116, 100])))), (1, (1, .c (.c (.s [116, 104]))))], []⟩, ⟨some ⟨.a, .n⟩, none, .call 100 [.t ⟨.a, .l⟩, .t ⟨.a, .m⟩], []⟩, ⟨some ⟨.a, .k⟩, none, .mv (.t ⟨.a, .n⟩),
  []⟩]) (.cond (.t ⟨.a, .k⟩) (.seq (.reg [⟨some ⟨.a, .o⟩, none, .ld 1 false (.t ⟨.a, .c⟩), []⟩, ⟨some ⟨.a, .p⟩, none, .bsl 9 1 2 [.s [], .s []] [(0, (1, .c (.c (.s [116, 114])))), (1, (1, .c (.c (.s
  [104, 116, 109, 108]))))], []⟩, ⟨some ⟨.b, .a⟩, none, .call 108 [.t ⟨.a, .o⟩, .t ⟨.a, .p⟩], []⟩]) (.seq (.reg [⟨some ⟨.b, .b⟩, none, .ld 1 false (.t ⟨.a, .c⟩), []⟩, ⟨some ⟨.b, .c⟩, none, .fa 1 (.t
  ⟨.a, .d⟩), []⟩, ⟨some ⟨.b, .d⟩, none, .ld 1 false (.t ⟨.b, .c⟩), []⟩, ⟨some ⟨.b, .e⟩, none, .fa 3 (.t ⟨.a, .d⟩), []⟩, ⟨some ⟨.b, .f⟩, none, .ld 1 false (.t ⟨.b, .e⟩), []⟩, ⟨some ⟨.b, .g⟩, none, .call
  101 [.t ⟨.b, .b⟩, .t ⟨.b, .d⟩, .t ⟨.b, .f⟩], []⟩]) (.seq (.reg [⟨some ⟨.b, .h⟩, none, .ld 1 false (.t ⟨.a, .c⟩), []⟩, ⟨some ⟨.b, .i⟩, none, .nc (.t ⟨.b, .h⟩), []⟩, ⟨some ⟨.b, .j⟩, none, .fa 4 (.t
  ⟨.b, .i⟩), []⟩, ⟨some ⟨.b, .k⟩, none, .ld 1 false (.t ⟨.b, .j⟩), []⟩, ⟨some ⟨.b, .l⟩, none, .call 109 [.t ⟨.b, .k⟩], []⟩]) (.reg [⟨some ⟨.b, .m⟩, none, .ld 1 false (.t ⟨.a, .c⟩), []⟩, ⟨some ⟨.b, .n⟩,
  none, .nc (.t ⟨.b, .m⟩), []⟩, ⟨some ⟨.b, .o⟩, none, .fa 5 (.t ⟨.b, .n⟩), []⟩, ⟨none, none, .st 1 (.t ⟨.b, .o⟩) (.c (.c (.i .i64 (.ofNat 12)))), []⟩])))) (.seq (.seq (.reg [⟨some ⟨.c, .a⟩, none, .ld 5
  true (.t ⟨.a, .d⟩), []⟩, ⟨some ⟨.c, .b⟩, none, .bsl 9 1 2 [.s [], .s []] [(0, (1, .c (.c (.s [116, 114])))), (1, (1, .c (.c (.s [116, 97, 98, 108, 101]))))], []⟩, ⟨some ⟨.c, .c⟩, none, .call 66 [.t
  ⟨.c, .a⟩, .t ⟨.c, .b⟩], []⟩, ⟨some ⟨.b, .p⟩, none, .mv (.t ⟨.c, .c⟩), []⟩]) (.cond (.t ⟨.b, .p⟩) .skip (.reg [⟨some ⟨.c, .d⟩, none, .ld 5 true (.t ⟨.a, .d⟩), []⟩, ⟨some ⟨.c, .e⟩, none, .bsl 9 1 7 [.s
  [], .s [], .s [], .s [], .s [], .s [], .s []] [(0, (1, .c (.c (.s [99, 97, 112, 116, 105, 111, 110])))), (1, (1, .c (.c (.s [99, 111, 108])))), (2, (1, .c (.c (.s [99, 111, 108, 103, 114, 111, 117,
  112])))), (3, (1, .c (.c (.s [116, 98, 111, 100, 121])))), (4, (1, .c (.c (.s [116, 102, 111, 111, 116])))), (5, (1, .c (.c (.s [116, 104, 101, 97, 100])))), (6, (1, .c (.c (.s [116, 114]))))], []⟩,
  ⟨some ⟨.c, .f⟩, none, .call 100 [.t ⟨.c, .d⟩, .t ⟨.c, .e⟩], []⟩, ⟨some ⟨.b, .p⟩, none, .mv (.t ⟨.c, .f⟩), []⟩]))) (.cond (.t ⟨.b, .p⟩) (.seq (.reg [⟨some ⟨.c, .g⟩, none, .ld 1 false (.t ⟨.a, .c⟩),
  []⟩, ⟨some ⟨.c, .h⟩, none, .call 111 [.t ⟨.c, .g⟩, .c (.c (.s [116, 114])), .c (.c (.i .i64 (.ofNat 4)))], []⟩]) (.cond (.t ⟨.c, .h⟩) (.seq (.reg [⟨some ⟨.c, .j⟩, none, .callv (.t ⟨.a, .f⟩) [], []⟩])
  (.seq (.reg [⟨some ⟨.c, .k⟩, none, .ld 5 true (.t ⟨.a, .d⟩), []⟩, ⟨some ⟨.c, .l⟩, none, .bsl 9 1 1 [.s []] [(0, (1, .c (.c (.s [116, 114]))))], []⟩, ⟨some ⟨.c, .m⟩, none, .call 66 [.t ⟨.c, .k⟩, .t
  ⟨.c, .l⟩], []⟩, ⟨some ⟨.c, .n⟩, none, .un .not (.t ⟨.c, .m⟩), []⟩, ⟨some ⟨.a, .e⟩, none, .mv (.t ⟨.c, .n⟩), []⟩]) .ret)) .skip)) (.seq (.dreg [⟨some ⟨.c, .p⟩, none, .ld 5 true (.t ⟨.a, .d⟩), []⟩,
  ⟨some ⟨.d, .a⟩, none, .call 110 [], [⟨some ⟨.c, .p⟩, none, .ld 5 true (.t ⟨.a, .d⟩)⟩]⟩, ⟨some ⟨.d, .b⟩, none, .call 66 [.t ⟨.c, .p⟩, .t ⟨.d, .a⟩], []⟩, ⟨some ⟨.c, .o⟩, none, .mv (.t ⟨.d, .b⟩), []⟩])
  (.cond (.t ⟨.c, .o⟩) (.seq (.reg [⟨some ⟨.d, .c⟩, none, .ld 1 false (.t ⟨.a, .c⟩), []⟩, ⟨some ⟨.d, .d⟩, none, .fa 1 (.t ⟨.a, .d⟩), []⟩, ⟨some ⟨.d, .e⟩, none, .ld 1 false (.t ⟨.d, .d⟩), []⟩, ⟨some
  ⟨.d, .f⟩, none, .call 111 [.t ⟨.d, .c⟩, .t ⟨.d, .e⟩, .c (.c (.i .i64 (.ofNat 4)))], []⟩, ⟨some ⟨.d, .g⟩, none, .mv (.t ⟨.d, .f⟩), []⟩, ⟨some ⟨.d, .h⟩, some (⟨.d, .g⟩, true), .ld 1 false (.t ⟨.a,
  .c⟩), []⟩, ⟨some ⟨.d, .i⟩, some (⟨.d, .g⟩, true), .call 111 [.t ⟨.d, .h⟩, .c (.c (.s [116, 114])), .c (.c (.i .i64 (.ofNat 4)))], []⟩, ⟨some ⟨.d, .j⟩, none, .pk (.t ⟨.d, .g⟩) (.t ⟨.d, .i⟩) (.c (.c
  (.b false))), []⟩]) (.cond (.t ⟨.d, .j⟩) (.seq (.reg [⟨some ⟨.d, .l⟩, none, .callv (.t ⟨.a, .f⟩) [], []⟩]) (.seq (.reg [⟨some ⟨.a, .e⟩, none, .mv (.c (.c (.b true))), []⟩]) .ret)) .skip)) (.seq (.reg
  [⟨some ⟨.d, .n⟩, none, .ld 5 true (.t ⟨.a, .d⟩), []⟩, ⟨some ⟨.d, .o⟩, none, .bsl 9 1 7 [.s [], .s [], .s [], .s [], .s [], .s [], .s []] [(0, (1, .c (.c (.s [98, 111, 100, 121])))), (1, (1, .c (.c
  (.s [99, 97, 112, 116, 105, 111, 110])))), (2, (1, .c (.c (.s [99, 111, 108])))), (3, (1, .c (.c (.s [99, 111, 108, 103, 114, 111, 117, 112])))), (4, (1, .c (.c (.s [104, 116, 109, 108])))), (5, (1,
  .c (.c (.s [116, 100])))), (6, (1, .c (.c (.s [116, 104]))))], []⟩, ⟨some ⟨.d, .p⟩, none, .call 66 [.t ⟨.d, .n⟩, .t ⟨.d, .o⟩], []⟩, ⟨some ⟨.d, .m⟩, none, .mv (.t ⟨.d, .p⟩), []⟩]) (.cond (.t ⟨.d, .m⟩)
  .skip (.seq (.reg [⟨some ⟨.a, .h⟩, none, .ld 1 false (.t ⟨.a, .c⟩), []⟩, ⟨some ⟨.a, .i⟩, none, .ld 5 true (.t ⟨.a, .d⟩), []⟩, ⟨some ⟨.a, .j⟩, none, .call 74 [.t ⟨.a, .h⟩, .t ⟨.a, .i⟩], []⟩, ⟨some
  ⟨.a, .e⟩, none, .mv (.t ⟨.a, .j⟩), []⟩]) .ret)))))))))) (.seq (.reg [⟨some ⟨.a, .e⟩, none, .mv (.c (.c (.b false))), []⟩]) .ret))), [(⟨.a, .e⟩, none)]⟩

theorem ok78 : FnR Go.Proofs.Tryz.prog 0 78 cf78 := fnC_ok [40, 58] Go.Proofs.Tryz.func78 (by kernel_rfl) (by kernel_rfl)

def cf79 : CF := ⟨62, 2, .seq (.reg [⟨some ⟨.a, .c⟩, none, .new 57 (.t ⟨.a, .a⟩), []⟩, ⟨some ⟨.a, .d⟩, none, .new 56 (.t ⟨.a, .b⟩), []⟩, ⟨some ⟨.a, .e⟩, none, .mv (.c (.c (.b false))), []⟩]) (.seq (.reg [⟨some ⟨.a,
  .g⟩, none, .mkf 118 [.t ⟨.a, .c⟩], []⟩, ⟨some ⟨.a, .f⟩, none, .mv (.t ⟨.a, .g⟩), []⟩]) (.seq (.blk 0 (.seq (.reg [⟨some ⟨.a, .l⟩, none, .ld 5 true (.t ⟨.a, .d⟩), []⟩, ⟨some ⟨.a, .m⟩, none, .bsl 9 1 2
  [.s [], .s []] [(0, (1, .c (.c (.s [116, 100])))), (1, (1, .c (.c (.s [116, 104]))))], []⟩, ⟨some ⟨.a, .n⟩, none, .call 66 [.t ⟨.a, .l⟩, .t ⟨.a, .m⟩], []⟩, ⟨some ⟨.a, .k⟩, none, .mv (.t ⟨.a, .n⟩),
  []⟩]) (.cond (.t ⟨.a, .k⟩) (.seq (.reg [⟨some ⟨.a, .o⟩, none, .ld 1 false (.t ⟨.a, .c⟩), []⟩, ⟨some ⟨.a, .p⟩, none, .fa 1 (.t ⟨.a, .d⟩), []⟩, ⟨some ⟨.b, .a⟩, none, .ld 1 false (.t ⟨.a, .p⟩), []⟩,
  ⟨some ⟨.b, .b⟩, none, .call 111 [.t ⟨.a, .o⟩, .t ⟨.b, .a⟩, .c (.c (.i .i64 (.ofNat 4)))], []⟩]) (.cond (.t ⟨.b, .b⟩) (.seq (.reg [⟨some ⟨.b, .c⟩, none, .ld 1 false (.t ⟨.a, .c⟩), []⟩, ⟨some ⟨.b, .d⟩,
  none, .call 114 [.t ⟨.b, .c⟩, .c (.c (.s []))], []⟩]) (.seq (.reg [⟨some ⟨.b, .e⟩, none, .ld 1 false (.t ⟨.a, .c⟩), []⟩, ⟨some ⟨.b, .f⟩, none, .fa 1 (.t ⟨.a, .d⟩), []⟩, ⟨some ⟨.b, .g⟩, none, .ld 1
  false (.t ⟨.b, .f⟩), []⟩, ⟨some ⟨.b, .h⟩, none, .bsl 9 1 1 [.s []] [(0, (1, .t ⟨.b, .g⟩))], []⟩, ⟨some ⟨.b, .i⟩, none, .call 104 [.t ⟨.b, .e⟩, .t ⟨.b, .h⟩], []⟩]) (.seq (.reg [⟨some ⟨.b, .j⟩, none,
  .ld 1 false (.t ⟨.a, .c⟩), []⟩, ⟨some ⟨.b, .k⟩, none, .nc (.t ⟨.b, .j⟩), []⟩, ⟨some ⟨.b, .l⟩, none, .fa 4 (.t ⟨.b, .k⟩), []⟩, ⟨some ⟨.b, .m⟩, none, .ld 1 false (.t ⟨.b, .l⟩), []⟩, ⟨some ⟨.b, .n⟩,
  none, .call 115 [.t ⟨.b, .m⟩], []⟩]) (.reg [⟨some ⟨.b, .o⟩, none, .ld 1 false (.t ⟨.a, .c⟩), []⟩, ⟨some ⟨.b, .p⟩, none, .nc (.t ⟨.b, .o⟩), []⟩, ⟨some ⟨.c, .a⟩, none, .fa 5 (.t ⟨.b, .p⟩), []⟩, ⟨none,
  none, .st 1 (.t ⟨.c, .a⟩) (.c (.c (.i .i64 (.ofNat 11)))), []⟩])))) .skip)) (.seq (.reg [⟨some ⟨.c, .c⟩, none, .ld 5 true (.t ⟨.a, .d⟩), []⟩, ⟨some ⟨.c, .d⟩, none, .call 113 [.t ⟨.c, .c⟩], []⟩, ⟨some
  ⟨.c, .b⟩, none, .mv (.t ⟨.c, .d⟩), []⟩]) (.cond (.t ⟨.c, .b⟩) (.seq (.reg [⟨some ⟨.c, .e⟩, none, .ld 1 false (.t ⟨.a, .c⟩), []⟩, ⟨some ⟨.c, .f⟩, none, .call 111 [.t ⟨.c, .e⟩, .c (.c (.s [116, 100])),
  .c (.c (.i .i64 (.ofNat 4)))], []⟩, ⟨some ⟨.c, .g⟩, none, .mv (.t ⟨.c, .f⟩), []⟩, ⟨some ⟨.c, .h⟩, some (⟨.c, .g⟩, false), .ld 1 false (.t ⟨.a, .c⟩), []⟩, ⟨some ⟨.c, .i⟩, some (⟨.c, .g⟩, false), .call
  111 [.t ⟨.c, .h⟩, .c (.c (.s [116, 104])), .c (.c (.i .i64 (.ofNat 4)))], []⟩, ⟨some ⟨.c, .j⟩, none, .pk (.t ⟨.c, .g⟩) (.c (.c (.b true))) (.t ⟨.c, .i⟩), []⟩, ⟨some ⟨.c, .k⟩, none, .mv (.t ⟨.c, .j⟩),
  []⟩, ⟨some ⟨.c, .l⟩, some (⟨.c, .k⟩, true), .mv (.t ⟨.a, .f⟩), []⟩, ⟨some ⟨.c, .m⟩, some (⟨.c, .k⟩, true), .callv (.t ⟨.c, .l⟩) [], []⟩, ⟨some ⟨.c, .n⟩, none, .pk (.t ⟨.c, .k⟩) (.t ⟨.c, .m⟩) (.c (.c
  (.b false))), []⟩, ⟨some ⟨.a, .e⟩, none, .mv (.t ⟨.c, .n⟩), []⟩]) .ret) (.seq (.reg [⟨some ⟨.c, .p⟩, none, .ld 5 true (.t ⟨.a, .d⟩), []⟩, ⟨some ⟨.d, .a⟩, none, .bsl 9 1 5 [.s [], .s [], .s [], .s [],
  .s []] [(0, (1, .c (.c (.s [98, 111, 100, 121])))), (1, (1, .c (.c (.s [99, 97, 112, 116, 105, 111, 110])))), (2, (1, .c (.c (.s [99, 111, 108])))), (3, (1, .c (.c (.s [99, 111, 108, 103, 114, 111,
  117, 112])))), (4, (1, .c (.c (.s [104, 116, 109, 108]))))], []⟩, ⟨some ⟨.d, .b⟩, none, .call 66 [.t ⟨.c, .p⟩, .t ⟨.d, .a⟩], []⟩, ⟨some ⟨.c, .o⟩, none, .mv (.t ⟨.d, .b⟩), []⟩]) (.cond (.t ⟨.c, .o⟩)
  .skip (.seq (.reg [⟨some ⟨.d, .d⟩, none, .ld 5 true (.t ⟨.a, .d⟩), []⟩, ⟨some ⟨.d, .e⟩, none, .bsl 9 1 5 [.s [], .s [], .s [], .s [], .s []] [(0, (1, .c (.c (.s [116, 97, 98, 108, 101])))), (1, (1,
  .c (.c (.s [116, 98, 111, 100, 121])))), (2, (1, .c (.c (.s [116, 102, 111, 111, 116])))), (3, (1, .c (.c (.s [116, 104, 101, 97, 100])))), (4, (1, .c (.c (.s [116, 114]))))], []⟩, ⟨some ⟨.d, .f⟩,
  none, .call 66 [.t ⟨.d, .d⟩, .t ⟨.d, .e⟩], []⟩, ⟨some ⟨.d, .c⟩, none, .mv (.t ⟨.d, .f⟩), []⟩]) (.cond (.t ⟨.d, .c⟩) (.seq (.reg [⟨some ⟨.d, .g⟩, none, .ld 1 false (.t ⟨.a, .c⟩), []⟩, ⟨some ⟨.d, .h⟩,
  none, .fa 1 (.t ⟨.a, .d⟩), []⟩, ⟨some ⟨.d, .i⟩, none, .ld 1 false (.t ⟨.d, .h⟩), []⟩, ⟨some ⟨.d, .j⟩, none, .call 111 [.t ⟨.d, .g⟩, .t ⟨.d, .i⟩, .c (.c (.i .i64 (.ofNat 4)))], []⟩, ⟨some ⟨.d, .k⟩,
  none, .mv (.t ⟨.d, .j⟩), []⟩, ⟨some ⟨.d, .l⟩, some (⟨.d, .k⟩, true), .mv (.t ⟨.a, .f⟩), []⟩, ⟨some ⟨.d, .m⟩, some (⟨.d, .k⟩, true), .callv (.t ⟨.d, .l⟩) [], []⟩, ⟨some ⟨.d, .n⟩, none, .pk (.t ⟨.d,
  .k⟩) (.t ⟨.d, .m⟩) (.c (.c (.b false))), []⟩, ⟨some ⟨.a, .e⟩, none, .mv (.t ⟨.d, .n⟩), []⟩]) .ret) (.seq (.reg [⟨some ⟨.a, .h⟩, none, .ld 1 false (.t ⟨.a, .c⟩), []⟩, ⟨some ⟨.a, .i⟩, none, .ld 5 true
  (.t ⟨.a, .d⟩), []⟩, ⟨some ⟨.a, .j⟩, none, .call 80 [.t ⟨.a, .h⟩, .t ⟨.a, .i⟩], []⟩, ⟨some ⟨.a, .e⟩, none, .mv (.t ⟨.a, .j⟩), []⟩]) .ret)))))))))) (.seq (.reg [⟨some ⟨.a, .e⟩, none, .mv (.c (.c (.b
  false))), []⟩]) .ret))), [(⟨.a, .e⟩, none)]⟩

theorem ok79 : FnR Go.Proofs.Tryz.prog 0 79 cf79 := fnC_ok [] Go.Proofs.Tryz.func79 (by kernel_rfl) (by kernel_rfl)

def cf80 : CF := ⟨30, 2, .seq (.reg [⟨some ⟨.a, .d⟩, none, .new 56 (.t ⟨.a, .b⟩), []⟩, ⟨some ⟨.a, .e⟩, none, .mv (.c (.c (.b false))), []⟩]) (.seq (.seq (.reg [⟨some ⟨.a, .f⟩, none, .fa 0 (.t ⟨.a, .d⟩), []⟩, ⟨some
  ⟨.a, .g⟩, none, .ld 1 false (.t ⟨.a, .f⟩), []⟩]) (.blk 0 (.seq (.reg [⟨some ⟨.a, .i⟩, none, .bin .eql (.t ⟨.a, .g⟩) (.c (.c (.i .i64 (.ofNat 3)))), []⟩, ⟨some ⟨.a, .h⟩, none, .mv (.t ⟨.a, .i⟩), []⟩])
  (.cond (.t ⟨.a, .h⟩) (.seq (.reg [⟨some ⟨.a, .k⟩, none, .call 119 [.t ⟨.a, .a⟩], []⟩]) (.reg [⟨some ⟨.a, .m⟩, none, .fa 2 (.t ⟨.a, .d⟩), []⟩, ⟨some ⟨.a, .n⟩, none, .ld 1 false (.t ⟨.a, .m⟩), []⟩,
  ⟨some ⟨.a, .o⟩, none, .call 65 [.t ⟨.a, .a⟩, .t ⟨.a, .n⟩], []⟩])) (.seq (.reg [⟨some ⟨.b, .a⟩, none, .bin .eql (.t ⟨.a, .g⟩) (.c (.c (.i .i64 (.ofNat 4)))), []⟩, ⟨some ⟨.a, .p⟩, none, .mv (.t ⟨.b,
  .a⟩), []⟩]) (.cond (.t ⟨.a, .p⟩) (.reg [⟨some ⟨.b, .c⟩, none, .ld 5 true (.t ⟨.a, .d⟩), []⟩, ⟨some ⟨.b, .d⟩, none, .call 102 [.t ⟨.a, .a⟩, .t ⟨.b, .c⟩], []⟩]) (.seq (.reg [⟨some ⟨.b, .f⟩, none, .bin
  .eql (.t ⟨.a, .g⟩) (.c (.c (.i .i64 (.ofNat 1)))), []⟩, ⟨some ⟨.b, .e⟩, none, .mv (.t ⟨.b, .f⟩), []⟩]) (.cond (.t ⟨.b, .e⟩) (.seq (.reg [⟨some ⟨.b, .h⟩, none, .ld 5 true (.t ⟨.a, .d⟩), []⟩, ⟨some
  ⟨.b, .i⟩, none, .call 120 [.t ⟨.a, .a⟩, .t ⟨.b, .h⟩], []⟩, ⟨some ⟨.a, .e⟩, none, .mv (.t ⟨.b, .i⟩), []⟩]) .ret) (.seq (.reg [⟨some ⟨.b, .k⟩, none, .bin .eql (.t ⟨.a, .g⟩) (.c (.c (.i .i64 (.ofNat
  2)))), []⟩, ⟨some ⟨.b, .j⟩, none, .mv (.t ⟨.b, .k⟩), []⟩]) (.cond (.t ⟨.b, .j⟩) (.seq (.reg [⟨some ⟨.b, .m⟩, none, .ld 5 true (.t ⟨.a, .d⟩), []⟩, ⟨some ⟨.b, .n⟩, none, .call 121 [.t ⟨.a, .a⟩, .t ⟨.b,
  .m⟩], []⟩, ⟨some ⟨.a, .e⟩, none, .mv (.t ⟨.b, .n⟩), []⟩]) .ret) .skip)))))))))) (.seq (.reg [⟨some ⟨.a, .e⟩, none, .mv (.c (.c (.b false))), []⟩]) .ret)), [(⟨.a, .e⟩, none)]⟩

theorem ok80 : FnR Go.Proofs.Tryz.prog 0 80 cf80 := fnC_ok [9, 11, 17, 22, 27] Go.Proofs.Tryz.func80 (by kernel_rfl) (by kernel_rfl)

def cf81 : CF := ⟨73, 1, .seq (.reg [⟨some ⟨.a, .b⟩, none, .new 28 (.t ⟨.a, .a⟩), []⟩, ⟨some ⟨.a, .c⟩, none, .mv (.c (.c (.b false))), []⟩]) (.seq (.seq (.reg [⟨some ⟨.a, .d⟩, none, .fa 0 (.t ⟨.a, .b⟩), []⟩, ⟨some
  ⟨.a, .e⟩, none, .ld 1 false (.t ⟨.a, .d⟩), []⟩, ⟨some ⟨.a, .f⟩, none, .bin .eql (.t ⟨.a, .e⟩) (.c (.c (.i .i64 (.ofNat 2)))), []⟩]) (.cond (.t ⟨.a, .f⟩) (.seq (.reg [⟨some ⟨.a, .g⟩, none, .fa 1 (.t
  ⟨.a, .b⟩), []⟩, ⟨some ⟨.a, .h⟩, none, .ld 1 false (.t ⟨.a, .g⟩), []⟩, ⟨some ⟨.a, .i⟩, none, .call 36 [.t ⟨.a, .h⟩], []⟩, ⟨some ⟨.a, .j⟩, none, .mv (.t ⟨.a, .i⟩), []⟩, ⟨some ⟨.a, .k⟩, some (⟨.a, .j⟩,
  true), .fa 2 (.t ⟨.a, .b⟩), []⟩, ⟨some ⟨.a, .l⟩, some (⟨.a, .j⟩, true), .ld 1 false (.t ⟨.a, .k⟩), []⟩, ⟨some ⟨.a, .m⟩, some (⟨.a, .j⟩, true), .bin .eql (.t ⟨.a, .l⟩) (.c (.c (.s []))), []⟩, ⟨some
  ⟨.a, .n⟩, none, .pk (.t ⟨.a, .j⟩) (.t ⟨.a, .m⟩) (.c (.c (.b false))), []⟩, ⟨some ⟨.a, .o⟩, none, .mv (.t ⟨.a, .n⟩), []⟩, ⟨some ⟨.a, .p⟩, some (⟨.a, .o⟩, true), .fa 3 (.t ⟨.a, .b⟩), []⟩, ⟨some ⟨.b,
  .a⟩, some (⟨.a, .o⟩, true), .ld 1 false (.t ⟨.a, .p⟩), []⟩, ⟨some ⟨.b, .b⟩, some (⟨.a, .o⟩, true), .call 122 [.t ⟨.b, .a⟩], []⟩, ⟨some ⟨.b, .c⟩, none, .pk (.t ⟨.a, .o⟩) (.t ⟨.b, .b⟩) (.c (.c (.b
  false))), []⟩, ⟨some ⟨.b, .d⟩, none, .mv (.t ⟨.b, .c⟩), []⟩, ⟨some ⟨.b, .e⟩, some (⟨.b, .d⟩, true), .ld 5 true (.t ⟨.a, .b⟩), []⟩, ⟨some ⟨.b, .f⟩, some (⟨.b, .d⟩, true), .call 46 [.t ⟨.b, .e⟩], []⟩,
  ⟨some ⟨.b, .g⟩, none, .pk (.t ⟨.b, .d⟩) (.t ⟨.b, .f⟩) (.c (.c (.b false))), []⟩, ⟨some ⟨.a, .c⟩, none, .mv (.t ⟨.b, .g⟩), []⟩]) .ret) .skip)) (.seq (.seq (.reg [⟨some ⟨.b, .h⟩, none, .fa 3 (.t ⟨.a,
  .b⟩), []⟩, ⟨some ⟨.b, .i⟩, none, .ld 1 false (.t ⟨.b, .h⟩), []⟩, ⟨some ⟨.b, .j⟩, none, .len true (.t ⟨.b, .i⟩), []⟩, ⟨some ⟨.b, .k⟩, none, .bin .gtr (.t ⟨.b, .j⟩) (.c (.c (.i .i64 (.ofNat 0)))), []⟩,
  ⟨some ⟨.b, .l⟩, none, .mv (.t ⟨.b, .k⟩), []⟩, ⟨some ⟨.b, .m⟩, some (⟨.b, .l⟩, false), .fa 4 (.t ⟨.a, .b⟩), []⟩, ⟨some ⟨.b, .n⟩, some (⟨.b, .l⟩, false), .ld 1 false (.t ⟨.b, .m⟩), []⟩, ⟨some ⟨.b, .o⟩,
  some (⟨.b, .l⟩, false), .len true (.t ⟨.b, .n⟩), []⟩, ⟨some ⟨.b, .p⟩, some (⟨.b, .l⟩, false), .bin .gtr (.t ⟨.b, .o⟩) (.c (.c (.i .i64 (.ofNat 0)))), []⟩, ⟨some ⟨.c, .a⟩, none, .pk (.t ⟨.b, .l⟩) (.c
  (.c (.b true))) (.t ⟨.b, .p⟩), []⟩]) (.cond (.t ⟨.c, .a⟩) (.seq (.reg [⟨some ⟨.a, .c⟩, none, .mv (.c (.c (.b false))), []⟩]) .ret) .skip)) (.seq (.seq (.reg [⟨some ⟨.c, .b⟩, none, .fa 0 (.t ⟨.a,
  .b⟩), []⟩, ⟨some ⟨.c, .c⟩, none, .ld 1 false (.t ⟨.c, .b⟩), []⟩]) (.blk 0 (.seq (.reg [⟨some ⟨.c, .e⟩, none, .bin .eql (.t ⟨.c, .c⟩) (.c (.c (.i .i64 (.ofNat 3)))), []⟩, ⟨some ⟨.c, .d⟩, none, .mv (.t
  ⟨.c, .e⟩), []⟩]) (.cond (.t ⟨.c, .d⟩) (.seq (.reg [⟨some ⟨.c, .f⟩, none, .fa 1 (.t ⟨.a, .b⟩), []⟩, ⟨some ⟨.c, .g⟩, none, .ld 1 false (.t ⟨.c, .f⟩), []⟩, ⟨some ⟨.c, .h⟩, none, .bin .eql (.t ⟨.c, .g⟩)
  (.c (.c (.s []))), []⟩, ⟨some ⟨.c, .i⟩, none, .mv (.t ⟨.c, .h⟩), []⟩, ⟨some ⟨.c, .j⟩, some (⟨.c, .i⟩, true), .fa 2 (.t ⟨.a, .b⟩), []⟩, ⟨some ⟨.c, .k⟩, some (⟨.c, .i⟩, true), .ld 1 false (.t ⟨.c,
  .j⟩), []⟩, ⟨some ⟨.c, .l⟩, some (⟨.c, .i⟩, true), .bin .neq (.t ⟨.c, .k⟩) (.c (.c (.s []))), []⟩, ⟨some ⟨.c, .m⟩, none, .pk (.t ⟨.c, .i⟩) (.t ⟨.c, .l⟩) (.c (.c (.b false))), []⟩, ⟨some ⟨.c, .n⟩,
  none, .mv (.t ⟨.c, .m⟩), []⟩, ⟨some ⟨.c, .o⟩, some (⟨.c, .n⟩, true), .fa 2 (.t ⟨.a, .b⟩), []⟩, ⟨some ⟨.c, .p⟩, some (⟨.c, .n⟩, true), .ld 1 false (.t ⟨.c, .o⟩), []⟩, ⟨some ⟨.d, .a⟩, some (⟨.c, .n⟩,
  true), .len false (.t ⟨.c, .p⟩), []⟩, ⟨some ⟨.d, .b⟩, some (⟨.c, .n⟩, true), .bin .leq (.t ⟨.d, .a⟩) (.c (.c (.i .i64 (.ofNat 4096)))), []⟩, ⟨some ⟨.d, .c⟩, none, .pk (.t ⟨.c, .n⟩) (.t ⟨.d, .b⟩) (.c
  (.c (.b false))), []⟩, ⟨some ⟨.a, .c⟩, none, .mv (.t ⟨.d, .c⟩), []⟩]) .ret) (.seq (.reg [⟨some ⟨.d, .e⟩, none, .bin .eql (.t ⟨.c, .c⟩) (.c (.c (.i .i64 (.ofNat 4)))), []⟩, ⟨some ⟨.d, .d⟩, none, .mv
  (.t ⟨.d, .e⟩), []⟩]) (.cond (.t ⟨.d, .d⟩) (.seq (.reg [⟨some ⟨.d, .f⟩, none, .fa 1 (.t ⟨.a, .b⟩), []⟩, ⟨some ⟨.d, .g⟩, none, .ld 1 false (.t ⟨.d, .f⟩), []⟩, ⟨some ⟨.d, .h⟩, none, .bin .eql (.t ⟨.d,
  .g⟩) (.c (.c (.s []))), []⟩, ⟨some ⟨.d, .i⟩, none, .mv (.t ⟨.d, .h⟩), []⟩, ⟨some ⟨.d, .j⟩, some (⟨.d, .i⟩, true), .fa 2 (.t ⟨.a, .b⟩), []⟩, ⟨some ⟨.d, .k⟩, some (⟨.d, .i⟩, true), .ld 1 false (.t ⟨.d,
  .j⟩), []⟩, ⟨some ⟨.d, .l⟩, some (⟨.d, .i⟩, true), .len false (.t ⟨.d, .k⟩), []⟩, ⟨some ⟨.d, .m⟩, some (⟨.d, .i⟩, true), .bin .leq (.t ⟨.d, .l⟩) (.c (.c (.i .i64 (.ofNat 4096)))), []⟩, ⟨some ⟨.d, .n⟩,
  none, .pk (.t ⟨.d, .i⟩) (.t ⟨.d, .m⟩) (.c (.c (.b false))), []⟩, ⟨some ⟨.a, .c⟩, none, .mv (.t ⟨.d, .n⟩), []⟩]) .ret) (.seq (.reg [⟨some ⟨.d, .p⟩, none, .bin .eql (.t ⟨.c, .c⟩) (.c (.c (.i .i64
  (.ofNat 5)))), []⟩, ⟨some ⟨.d, .o⟩, none, .mv (.t ⟨.d, .p⟩), []⟩]) (.cond (.t ⟨.d, .o⟩) (.seq (.reg [⟨some ⟨.e, .a⟩, none, .fa 2 (.t ⟨.a, .b⟩), []⟩, ⟨some ⟨.e, .b⟩, none, .ld 1 false (.t ⟨.e, .a⟩),
  []⟩, ⟨some ⟨.e, .c⟩, none, .bin .eql (.t ⟨.e, .b⟩) (.c (.c (.s []))), []⟩, ⟨some ⟨.e, .d⟩, none, .mv (.t ⟨.e, .c⟩), []⟩, ⟨some ⟨.e, .e⟩, some (⟨.e, .d⟩, true), .fa 1 (.t ⟨.a, .b⟩), []⟩, ⟨some ⟨.e,
  .f⟩, some (⟨.e, .d⟩, true), .ld 1 false (.t ⟨.e, .e⟩), []⟩, ⟨some ⟨.e, .g⟩, some (⟨.e, .d⟩, true), .len false (.t ⟨.e, .f⟩), []⟩, ⟨some ⟨.e, .h⟩, some (⟨.e, .d⟩, true), .bin .leq (.t ⟨.e, .g⟩) (.c
  (.c (.i .i64 (.ofNat 32)))), []⟩, ⟨some ⟨.e, .i⟩, none, .pk (.t ⟨.e, .d⟩) (.t ⟨.e, .h⟩) (.c (.c (.b false))), []⟩, ⟨some ⟨.a, .c⟩, none, .mv (.t ⟨.e, .i⟩), []⟩]) .ret) .skip)))))))) (.seq (.reg
  [⟨some ⟨.a, .c⟩, none, .mv (.c (.c (.b false))), []⟩]) .ret)))), [(⟨.a, .c⟩, none)]⟩

theorem ok81 : FnR Go.Proofs.Tryz.prog 0 81 cf81 := fnC_ok [] Go.Proofs.Tryz.func81 (by kernel_rfl) (by kernel_rfl)

def cf84 : CF := ⟨17, 1, .seq (.reg [⟨some ⟨.a, .c⟩, none, .mv (.c (.c (.b false))), []⟩]) (.seq (.reg [⟨some ⟨.a, .e⟩, none, .bin .eql (.t ⟨.a, .a⟩) (.c (.c (.i .u8 (.ofNat 9)))), []⟩, ⟨some ⟨.a, .f⟩, none, .mv (.t
  ⟨.a, .e⟩), []⟩, ⟨some ⟨.a, .g⟩, some (⟨.a, .f⟩, false), .mv (.t ⟨.a, .a⟩), []⟩, ⟨some ⟨.a, .h⟩, some (⟨.a, .f⟩, false), .bin .eql (.t ⟨.a, .g⟩) (.c (.c (.i .u8 (.ofNat 10)))), []⟩, ⟨some ⟨.a, .i⟩,
  none, .pk (.t ⟨.a, .f⟩) (.c (.c (.b true))) (.t ⟨.a, .h⟩), []⟩, ⟨some ⟨.a, .j⟩, none, .mv (.t ⟨.a, .i⟩), []⟩, ⟨some ⟨.a, .k⟩, some (⟨.a, .j⟩, false), .mv (.t ⟨.a, .a⟩), []⟩, ⟨some ⟨.a, .l⟩, some
  (⟨.a, .j⟩, false), .bin .eql (.t ⟨.a, .k⟩) (.c (.c (.i .u8 (.ofNat 12)))), []⟩, ⟨some ⟨.a, .m⟩, none, .pk (.t ⟨.a, .j⟩) (.c (.c (.b true))) (.t ⟨.a, .l⟩), []⟩, ⟨some ⟨.a, .n⟩, none, .mv (.t ⟨.a,
  .m⟩), []⟩, ⟨some ⟨.a, .o⟩, some (⟨.a, .n⟩, false), .mv (.t ⟨.a, .a⟩), []⟩, ⟨some ⟨.a, .p⟩, some (⟨.a, .n⟩, false), .bin .eql (.t ⟨.a, .o⟩) (.c (.c (.i .u8 (.ofNat 32)))), []⟩, ⟨some ⟨.b, .a⟩, none,
  .pk (.t ⟨.a, .n⟩) (.c (.c (.b true))) (.t ⟨.a, .p⟩), []⟩, ⟨some ⟨.a, .c⟩, none, .mv (.t ⟨.b, .a⟩), []⟩]) .ret), [(⟨.a, .c⟩, none)]⟩

theorem ok84 : FnR Go.Proofs.Tryz.prog 0 84 cf84 := fnC_ok [3] Go.Proofs.Tryz.func84 (by kernel_rfl) (by kernel_rfl)

def cf86 : CF := ⟨17, 1, .seq (.reg [⟨some ⟨.a, .c⟩, none, .mv (.c (.c (.b false))), []⟩]) (.seq (.reg [⟨some ⟨.a, .e⟩, none, .bin .geq (.t ⟨.a, .a⟩) (.c (.c (.i .u8 (.ofNat 97)))), []⟩, ⟨some ⟨.a, .f⟩, none, .mv (.t
  ⟨.a, .e⟩), []⟩, ⟨some ⟨.a, .g⟩, some (⟨.a, .f⟩, true), .mv (.t ⟨.a, .a⟩), []⟩, ⟨some ⟨.a, .h⟩, some (⟨.a, .f⟩, true), .bin .leq (.t ⟨.a, .g⟩) (.c (.c (.i .u8 (.ofNat 122)))), []⟩, ⟨some ⟨.a, .i⟩,
  none, .pk (.t ⟨.a, .f⟩) (.t ⟨.a, .h⟩) (.c (.c (.b false))), []⟩, ⟨some ⟨.a, .j⟩, none, .mv (.t ⟨.a, .i⟩), []⟩, ⟨some ⟨.a, .k⟩, some (⟨.a, .j⟩, false), .mv (.t ⟨.a, .a⟩), []⟩, ⟨some ⟨.a, .l⟩, some
  (⟨.a, .j⟩, false), .bin .geq (.t ⟨.a, .k⟩) (.c (.c (.i .u8 (.ofNat 65)))), []⟩, ⟨some ⟨.a, .m⟩, some (⟨.a, .j⟩, false), .mv (.t ⟨.a, .l⟩), []⟩, ⟨some ⟨.a, .n⟩, some (⟨.a, .m⟩, true), .mv (.t ⟨.a,
  .a⟩), []⟩, ⟨some ⟨.a, .o⟩, some (⟨.a, .m⟩, true), .bin .leq (.t ⟨.a, .n⟩) (.c (.c (.i .u8 (.ofNat 90)))), []⟩, ⟨some ⟨.a, .p⟩, some (⟨.a, .j⟩, false), .pk (.t ⟨.a, .m⟩) (.t ⟨.a, .o⟩) (.c (.c (.b
  false))), []⟩, ⟨some ⟨.b, .a⟩, none, .pk (.t ⟨.a, .j⟩) (.c (.c (.b true))) (.t ⟨.a, .p⟩), []⟩, ⟨some ⟨.a, .c⟩, none, .mv (.t ⟨.b, .a⟩), []⟩]) .ret), [(⟨.a, .c⟩, none)]⟩

theorem ok86 : FnR Go.Proofs.Tryz.prog 0 86 cf86 := fnC_ok [3] Go.Proofs.Tryz.func86 (by kernel_rfl) (by kernel_rfl)

def cf87 : CF := ⟨36, 3, .seq (.reg [⟨some ⟨.a, .g⟩, none, .mv (.c (.c (.i .i64 (.ofNat 0)))), []⟩]) (.seq (.blk 0 (.loop (.seq (.seq (.reg [⟨some ⟨.a, .k⟩, none, .len false (.t ⟨.a, .a⟩), []⟩, ⟨some ⟨.a, .l⟩, none,
  .bin .lss (.t ⟨.a, .b⟩) (.t ⟨.a, .k⟩), []⟩, ⟨some ⟨.a, .m⟩, none, .mv (.t ⟨.a, .l⟩), []⟩, ⟨some ⟨.a, .n⟩, some (⟨.a, .m⟩, true), .mv (.t ⟨.a, .a⟩), []⟩, ⟨some ⟨.a, .o⟩, some (⟨.a, .m⟩, true), .mv (.t
  ⟨.a, .b⟩), []⟩, ⟨some ⟨.a, .p⟩, some (⟨.a, .m⟩, true), .sx (.t ⟨.a, .n⟩) (.t ⟨.a, .o⟩), []⟩, ⟨some ⟨.b, .a⟩, some (⟨.a, .m⟩, true), .call 84 [.t ⟨.a, .p⟩], []⟩, ⟨some ⟨.b, .b⟩, some (⟨.a, .m⟩, true),
  .un .not (.t ⟨.b, .a⟩), []⟩, ⟨some ⟨.b, .c⟩, none, .pk (.t ⟨.a, .m⟩) (.t ⟨.b, .b⟩) (.c (.c (.b false))), []⟩]) (.cond (.t ⟨.b, .c⟩) .skip (.exit 0))) (.blk 1 (.seq (.seq (.reg [⟨some ⟨.a, .h⟩, none,
  .mv (.c (.c (.i .i64 (.ofNat 0)))), []⟩]) (.blk 2 (.loop (.seq (.seq (.reg [⟨some ⟨.b, .f⟩, none, .len false (.t ⟨.a, .c⟩), []⟩, ⟨some ⟨.b, .g⟩, none, .bin .lss (.t ⟨.a, .h⟩) (.t ⟨.b, .f⟩), []⟩])
  (.cond (.t ⟨.b, .g⟩) .skip (.exit 2))) (.seq (.blk 3 (.seq (.dreg [⟨some ⟨.b, .j⟩, none, .mv (.t ⟨.a, .a⟩), []⟩, ⟨some ⟨.b, .k⟩, none, .mv (.t ⟨.a, .b⟩), []⟩, ⟨some ⟨.b, .l⟩, none, .sx (.t ⟨.b, .j⟩)
  (.t ⟨.b, .k⟩), []⟩, ⟨some ⟨.b, .m⟩, none, .mv (.t ⟨.a, .c⟩), []⟩, ⟨some ⟨.b, .n⟩, none, .mv (.t ⟨.a, .h⟩), []⟩, ⟨some ⟨.b, .o⟩, none, .sx (.t ⟨.b, .m⟩) (.t ⟨.b, .n⟩), []⟩, ⟨some ⟨.b, .p⟩, none, .bin
  .eql (.t ⟨.b, .l⟩) (.t ⟨.b, .o⟩), []⟩]) (.cond (.t ⟨.b, .p⟩) (.seq (.reg [⟨some ⟨.a, .g⟩, none, .mv (.t ⟨.a, .b⟩), []⟩]) .ret) .skip))) (.reg [⟨some ⟨.b, .i⟩, none, .bin .add (.t ⟨.a, .h⟩) (.c (.c
  (.i .i64 (.ofNat 1)))), []⟩, ⟨some ⟨.a, .h⟩, none, .mv (.t ⟨.b, .i⟩), []⟩])))))) (.reg [⟨some ⟨.c, .c⟩, none, .bin .add (.t ⟨.a, .b⟩) (.c (.c (.i .i64 (.ofNat 1)))), []⟩, ⟨some ⟨.a, .b⟩, none, .mv
  (.t ⟨.c, .c⟩), []⟩])))))) (.seq (.reg [⟨some ⟨.a, .g⟩, none, .mv (.t ⟨.a, .b⟩), []⟩]) .ret)), [(⟨.a, .g⟩, none)]⟩

theorem ok87 : FnR Go.Proofs.Tryz.prog 0 87 cf87 := fnC_ok [8, 9, 19, 20, 23, 32, 33, 35] Go.Proofs.Tryz.func87 (by kernel_rfl) (by kernel_rfl)

def cf88 : CF := ⟨45, 1, .seq (.reg [⟨some ⟨.a, .c⟩, none, .mv (.c (.c (.s []))), []⟩]) (.seq (.reg [⟨some ⟨.a, .g⟩, none, .call 51 [.t ⟨.a, .a⟩], []⟩, ⟨some ⟨.a, .h⟩, none, .s2b 5 (.t ⟨.a, .g⟩), []⟩, ⟨some ⟨.a, .d⟩,
  none, .mv (.t ⟨.a, .h⟩), []⟩]) (.seq (.seq (.reg [⟨some ⟨.a, .e⟩, none, .mv (.c (.c (.i .i64 (.ofNat 0)))), []⟩]) (.blk 0 (.loop (.seq (.seq (.reg [⟨some ⟨.a, .k⟩, none, .len true (.t ⟨.a, .d⟩), []⟩,
  ⟨some ⟨.a, .l⟩, none, .bin .lss (.t ⟨.a, .e⟩) (.t ⟨.a, .k⟩), []⟩]) (.cond (.t ⟨.a, .l⟩) .skip (.exit 0))) (.seq (.blk 1 (.seq (.reg [⟨some ⟨.b, .a⟩, none, .ia 1 (.t ⟨.a, .d⟩) (.t ⟨.a, .e⟩), []⟩,
  ⟨some ⟨.b, .b⟩, none, .ld 1 false (.t ⟨.b, .a⟩), []⟩, ⟨some ⟨.b, .c⟩, none, .bin .eql (.t ⟨.b, .b⟩) (.c (.c (.i .u8 (.ofNat 34)))), []⟩, ⟨some ⟨.b, .d⟩, none, .mv (.t ⟨.b, .c⟩), []⟩, ⟨some ⟨.b, .e⟩,
  some (⟨.b, .d⟩, false), .mv (.t ⟨.a, .d⟩), []⟩, ⟨some ⟨.b, .f⟩, some (⟨.b, .d⟩, false), .mv (.t ⟨.a, .e⟩), []⟩, ⟨some ⟨.b, .g⟩, some (⟨.b, .d⟩, false), .ia 1 (.t ⟨.b, .e⟩) (.t ⟨.b, .f⟩), []⟩, ⟨some
  ⟨.b, .h⟩, some (⟨.b, .d⟩, false), .ld 1 false (.t ⟨.b, .g⟩), []⟩, ⟨some ⟨.b, .i⟩, some (⟨.b, .d⟩, false), .bin .eql (.t ⟨.b, .h⟩) (.c (.c (.i .u8 (.ofNat 39)))), []⟩, ⟨some ⟨.b, .j⟩, none, .pk (.t
  ⟨.b, .d⟩) (.c (.c (.b true))) (.t ⟨.b, .i⟩), []⟩, ⟨some ⟨.b, .k⟩, none, .mv (.t ⟨.b, .j⟩), []⟩, ⟨some ⟨.b, .l⟩, some (⟨.b, .k⟩, false), .mv (.t ⟨.a, .d⟩), []⟩, ⟨some ⟨.b, .m⟩, some (⟨.b, .k⟩, false),
  .mv (.t ⟨.a, .e⟩), []⟩, ⟨some ⟨.b, .n⟩, some (⟨.b, .k⟩, false), .ia 1 (.t ⟨.b, .l⟩) (.t ⟨.b, .m⟩), []⟩, ⟨some ⟨.b, .o⟩, some (⟨.b, .k⟩, false), .ld 1 false (.t ⟨.b, .n⟩), []⟩, ⟨some ⟨.b, .p⟩, some
  (⟨.b, .k⟩, false), .bin .eql (.t ⟨.b, .o⟩) (.c (.c (.i .u8 (.ofNat 60)))), []⟩, ⟨some ⟨.c, .a⟩, none, .pk (.t ⟨.b, .k⟩) (.c (.c (.b true))) (.t ⟨.b, .p⟩), []⟩, ⟨some ⟨.c, .b⟩, none, .mv (.t ⟨.c,
  .a⟩), []⟩, ⟨some ⟨.c, .c⟩, some (⟨.c, .b⟩, false), .mv (.t ⟨.a, .d⟩), []⟩, ⟨some ⟨.c, .d⟩, some (⟨.c, .b⟩, false), .mv (.t ⟨.a, .e⟩), []⟩, ⟨some ⟨.c, .e⟩, some (⟨.c, .b⟩, false), .ia 1 (.t ⟨.c, .c⟩)
  (.t ⟨.c, .d⟩), []⟩, ⟨some ⟨.c, .f⟩, some (⟨.c, .b⟩, false), .ld 1 false (.t ⟨.c, .e⟩), []⟩, ⟨some ⟨.c, .g⟩, some (⟨.c, .b⟩, false), .bin .eql (.t ⟨.c, .f⟩) (.c (.c (.i .u8 (.ofNat 61)))), []⟩, ⟨some
  ⟨.c, .h⟩, none, .pk (.t ⟨.c, .b⟩) (.c (.c (.b true))) (.t ⟨.c, .g⟩), []⟩]) (.cond (.t ⟨.c, .h⟩) (.reg [⟨some ⟨.c, .k⟩, none, .ia 1 (.t ⟨.a, .d⟩) (.t ⟨.a, .e⟩), []⟩, ⟨none, none, .st 1 (.t ⟨.c, .k⟩)
  (.c (.c (.i .u8 (.ofNat 95)))), []⟩]) .skip))) (.reg [⟨some ⟨.a, .n⟩, none, .bin .add (.t ⟨.a, .e⟩) (.c (.c (.i .i64 (.ofNat 1)))), []⟩, ⟨some ⟨.a, .e⟩, none, .mv (.t ⟨.a, .n⟩), []⟩])))))) (.seq
  (.reg [⟨some ⟨.c, .m⟩, none, .b2s (.t ⟨.a, .d⟩), []⟩, ⟨some ⟨.a, .c⟩, none, .mv (.t ⟨.c, .m⟩), []⟩]) .ret))), [(⟨.a, .c⟩, none)]⟩

theorem ok88 : FnR Go.Proofs.Tryz.prog 0 88 cf88 := fnC_ok [5, 8, 9, 12, 14, 15, 40, 41, 43] Go.Proofs.Tryz.func88 (by kernel_rfl) (by kernel_rfl)

def cf95 : CF := ⟨28, 1, .seq (.reg [⟨some ⟨.a, .c⟩, none, .mv (.c (.c (.p none))), []⟩, ⟨some ⟨.a, .d⟩, none, .mv (.c (.c (.i .i64 (.ofNat 0)))), []⟩]) (.seq (.reg [⟨some ⟨.a, .g⟩, none, .call 63 [.t ⟨.a, .a⟩], []⟩,
  ⟨some ⟨.a, .e⟩, none, .mv (.t ⟨.a, .g⟩), []⟩]) (.seq (.seq (.reg [⟨some ⟨.a, .i⟩, none, .nc (.t ⟨.a, .a⟩), []⟩, ⟨some ⟨.a, .j⟩, none, .fa 6 (.t ⟨.a, .i⟩), []⟩, ⟨some ⟨.a, .k⟩, none, .ld 1 false (.t
  ⟨.a, .j⟩), []⟩, ⟨some ⟨.a, .l⟩, none, .mv (.t ⟨.a, .k⟩), []⟩, ⟨some ⟨.a, .m⟩, some (⟨.a, .l⟩, true), .mv (.t ⟨.a, .e⟩), []⟩, ⟨some ⟨.a, .n⟩, some (⟨.a, .l⟩, true), .nc (.t ⟨.a, .m⟩), []⟩, ⟨some ⟨.a,
  .o⟩, some (⟨.a, .l⟩, true), .fa 2 (.t ⟨.a, .n⟩), []⟩, ⟨some ⟨.a, .p⟩, some (⟨.a, .l⟩, true), .ld 1 false (.t ⟨.a, .o⟩), []⟩, ⟨some ⟨.b, .a⟩, some (⟨.a, .l⟩, true), .call 126 [.t ⟨.a, .p⟩], []⟩, ⟨some
  ⟨.b, .b⟩, none, .pk (.t ⟨.a, .l⟩) (.t ⟨.b, .a⟩) (.c (.c (.b false))), []⟩]) (.cond (.t ⟨.b, .b⟩) (.seq (.reg [⟨some ⟨.b, .d⟩, none, .call 127 [.t ⟨.a, .a⟩], []⟩, ⟨some ⟨.b, .e⟩, none, .ext 0 (.t ⟨.b,
  .d⟩), []⟩, ⟨some ⟨.b, .f⟩, none, .ext 1 (.t ⟨.b, .d⟩), []⟩, ⟨some ⟨.a, .c⟩, none, .mv (.t ⟨.b, .e⟩), []⟩, ⟨some ⟨.a, .d⟩, none, .mv (.t ⟨.b, .f⟩), []⟩]) .ret) .skip)) (.seq (.dreg [⟨some ⟨.b, .g⟩,
  none, .mv (.t ⟨.a, .e⟩), []⟩, ⟨some ⟨.b, .h⟩, none, .mv (.t ⟨.a, .e⟩), []⟩, ⟨some ⟨.b, .i⟩, none, .nc (.t ⟨.b, .h⟩), []⟩, ⟨some ⟨.b, .j⟩, none, .fa 6 (.t ⟨.b, .i⟩), []⟩, ⟨some ⟨.b, .k⟩, none, .ld 1
  false (.t ⟨.b, .j⟩), []⟩, ⟨some ⟨.b, .l⟩, none, .len true (.t ⟨.b, .k⟩), []⟩, ⟨some ⟨.a, .c⟩, none, .mv (.t ⟨.b, .g⟩), []⟩, ⟨some ⟨.a, .d⟩, none, .mv (.t ⟨.b, .l⟩), []⟩]) .ret))), [(⟨.a, .c⟩, none),
  (⟨.a, .d⟩, none)]⟩

theorem ok95 : FnR Go.Proofs.Tryz.prog 0 95 cf95 := fnC_ok [5, 7, 18] Go.Proofs.Tryz.func95 (by kernel_rfl) (by kernel_rfl)

def cf96 : CF := ⟨21, 3, .seq (.reg [⟨some ⟨.a, .i⟩, none, .nc (.t ⟨.a, .b⟩), []⟩, ⟨some ⟨.a, .j⟩, none, .fa 5 (.t ⟨.a, .i⟩), []⟩, ⟨none, none, .st 1 (.t ⟨.a, .j⟩) (.t ⟨.a, .a⟩), []⟩]) (.reg [⟨some ⟨.a, .m⟩, none,
  .nc (.t ⟨.a, .a⟩), []⟩, ⟨some ⟨.a, .n⟩, none, .fa 6 (.t ⟨.a, .m⟩), []⟩, ⟨some ⟨.a, .o⟩, none, .ld 1 false (.t ⟨.a, .n⟩), []⟩, ⟨some ⟨.b, .b⟩, none, .bsl 58 1 1 [.p none] [(0, (1, .t ⟨.a, .b⟩))], []⟩,
  ⟨some ⟨.b, .c⟩, none, .call 128 [.t ⟨.a, .o⟩, .t ⟨.a, .c⟩, .t ⟨.b, .b⟩], []⟩, ⟨some ⟨.b, .d⟩, none, .nc (.t ⟨.a, .a⟩), []⟩, ⟨some ⟨.b, .e⟩, none, .fa 6 (.t ⟨.b, .d⟩), []⟩, ⟨none, none, .st 1 (.t ⟨.b,
  .e⟩) (.t ⟨.b, .c⟩), []⟩]), []⟩

theorem ok96 : FnR Go.Proofs.Tryz.prog 0 96 cf96 := fnC_ok [6, 7, 10, 11, 15, 16] Go.Proofs.Tryz.func96 (by kernel_rfl) (by kernel_rfl)

def cf97 : CF := ⟨29, 5, .seq (.reg [⟨some ⟨.a, .k⟩, none, .mv (.c (.c (.p none))), []⟩]) (.seq (.reg [⟨some ⟨.a, .m⟩, none, .nc (.t ⟨.a, .a⟩), []⟩, ⟨some ⟨.a, .n⟩, none, .fa 2 (.t ⟨.a, .m⟩), []⟩, ⟨some ⟨.a, .o⟩,
  none, .ld 1 false (.t ⟨.a, .n⟩), []⟩, ⟨some ⟨.a, .p⟩, none, .bin .add (.t ⟨.a, .o⟩) (.c (.c (.i .i64 (.ofNat 1)))), []⟩, ⟨some ⟨.b, .a⟩, none, .nc (.t ⟨.a, .a⟩), []⟩, ⟨some ⟨.b, .b⟩, none, .fa 2 (.t
  ⟨.b, .a⟩), []⟩, ⟨none, none, .st 1 (.t ⟨.b, .b⟩) (.t ⟨.a, .p⟩), []⟩]) (.seq (.dreg [⟨some ⟨.b, .c⟩, none, .mv (.t ⟨.a, .a⟩), []⟩, ⟨some ⟨.b, .d⟩, none, .nc (.t ⟨.b, .c⟩), []⟩, ⟨some ⟨.b, .e⟩, none,
  .fa 2 (.t ⟨.b, .d⟩), []⟩, ⟨some ⟨.b, .f⟩, none, .ld 1 false (.t ⟨.b, .e⟩), []⟩, ⟨some ⟨.b, .g⟩, none, .mv (.t ⟨.a, .b⟩), []⟩, ⟨some ⟨.b, .h⟩, none, .mv (.t ⟨.a, .c⟩), []⟩, ⟨some ⟨.b, .i⟩, none, .mv
  (.t ⟨.a, .d⟩), []⟩, ⟨some ⟨.b, .j⟩, none, .mv (.t ⟨.a, .e⟩), []⟩, ⟨some ⟨.b, .k⟩, none, .call 40 [.t ⟨.b, .j⟩], [⟨some ⟨.b, .f⟩, none, .ld 1 false (.t ⟨.b, .e⟩)⟩]⟩, ⟨some ⟨.b, .l⟩, none, .bld [.i
  .i64 (.ofNat 0), .i .i64 (.ofNat 0), .s [], .s [], .sl none 0 0 0, .p none, .sl none 0 0 0] [(0, (1, .t ⟨.b, .f⟩)), (1, (1, .t ⟨.b, .g⟩)), (2, (1, .t ⟨.b, .h⟩)), (3, (1, .t ⟨.b, .i⟩)), (4, (1, .t
  ⟨.b, .k⟩))], []⟩, ⟨some ⟨.b, .m⟩, none, .new 61 (.t ⟨.b, .l⟩), []⟩, ⟨some ⟨.a, .k⟩, none, .mv (.t ⟨.b, .m⟩), []⟩]) .ret)), [(⟨.a, .k⟩, none)]⟩

theorem ok97 : FnR Go.Proofs.Tryz.prog 0 97 cf97 := fnC_ok [11] Go.Proofs.Tryz.func97 (by kernel_rfl) (by kernel_rfl)

def cf99 : CF := ⟨20, 1, .seq (.reg [⟨some ⟨.a, .b⟩, none, .new 56 (.t ⟨.a, .a⟩), []⟩, ⟨some ⟨.a, .c⟩, none, .mv (.c (.c (.b false))), []⟩]) (.seq (.seq (.reg [⟨some ⟨.a, .e⟩, none, .fa 0 (.t ⟨.a, .b⟩), []⟩, ⟨some
  ⟨.a, .f⟩, none, .ld 1 false (.t ⟨.a, .e⟩), []⟩, ⟨some ⟨.a, .g⟩, none, .bin .neq (.t ⟨.a, .f⟩) (.c (.c (.i .i64 (.ofNat 3)))), []⟩]) (.cond (.t ⟨.a, .g⟩) (.seq (.reg [⟨some ⟨.a, .c⟩, none, .mv (.c (.c
  (.b false))), []⟩]) .ret) .skip)) (.seq (.seq (.reg [⟨some ⟨.a, .h⟩, none, .fa 2 (.t ⟨.a, .b⟩), []⟩, ⟨some ⟨.a, .i⟩, none, .ld 1 false (.t ⟨.a, .h⟩), []⟩, ⟨some ⟨.a, .j⟩, none, .len false (.t ⟨.a,
  .i⟩), []⟩, ⟨some ⟨.a, .k⟩, none, .mv (.c (.c (.i .i64 (.ofNat 0)))), []⟩]) (.blk 0 (.loop (.seq (.reg [⟨some ⟨.a, .l⟩, none, .bin .lss (.t ⟨.a, .k⟩) (.t ⟨.a, .j⟩), []⟩]) (.seq (.cond (.t ⟨.a, .l⟩)
  .skip (.exit 0)) (.seq (.blk 1 (.seq (.reg [⟨some ⟨.a, .d⟩, none, .mv (.t ⟨.a, .k⟩), []⟩]) (.seq (.reg [⟨some ⟨.a, .n⟩, none, .fa 2 (.t ⟨.a, .b⟩), []⟩, ⟨some ⟨.a, .o⟩, none, .ld 1 false (.t ⟨.a,
  .n⟩), []⟩, ⟨some ⟨.b, .a⟩, none, .sx (.t ⟨.a, .o⟩) (.t ⟨.a, .d⟩), []⟩, ⟨some ⟨.b, .b⟩, none, .call 129 [.t ⟨.b, .a⟩], []⟩, ⟨some ⟨.b, .c⟩, none, .un .not (.t ⟨.b, .b⟩), []⟩]) (.cond (.t ⟨.b, .c⟩)
  (.seq (.reg [⟨some ⟨.a, .c⟩, none, .mv (.c (.c (.b false))), []⟩]) .ret) .skip)))) (.reg [⟨some ⟨.b, .d⟩, none, .bin .add (.t ⟨.a, .k⟩) (.c (.c (.i .i64 (.ofNat 1)))), []⟩, ⟨some ⟨.a, .k⟩, none, .mv
  (.t ⟨.b, .d⟩), []⟩]))))))) (.seq (.reg [⟨some ⟨.a, .c⟩, none, .mv (.c (.c (.b true))), []⟩]) .ret))), [(⟨.a, .c⟩, none)]⟩

theorem ok99 : FnR Go.Proofs.Tryz.prog 0 99 cf99 := fnC_ok [12, 15] Go.Proofs.Tryz.func99 (by kernel_rfl) (by kernel_rfl)

def cf100 : CF := ⟨14, 2, .seq (.reg [⟨some ⟨.a, .c⟩, none, .new 56 (.t ⟨.a, .a⟩), []⟩, ⟨some ⟨.a, .e⟩, none, .mv (.c (.c (.b false))), []⟩]) (.seq (.reg [⟨some ⟨.a, .f⟩, none, .fa 0 (.t ⟨.a, .c⟩), []⟩, ⟨some ⟨.a,
  .g⟩, none, .ld 1 false (.t ⟨.a, .f⟩), []⟩, ⟨some ⟨.a, .h⟩, none, .bin .eql (.t ⟨.a, .g⟩) (.c (.c (.i .i64 (.ofNat 1)))), []⟩, ⟨some ⟨.a, .i⟩, none, .mv (.t ⟨.a, .h⟩), []⟩, ⟨some ⟨.a, .j⟩, some (⟨.a,
  .i⟩, true), .fa 1 (.t ⟨.a, .c⟩), []⟩, ⟨some ⟨.a, .k⟩, some (⟨.a, .i⟩, true), .ld 1 false (.t ⟨.a, .j⟩), []⟩, ⟨some ⟨.a, .l⟩, some (⟨.a, .i⟩, true), .mv (.t ⟨.a, .b⟩), []⟩, ⟨some ⟨.a, .m⟩, some (⟨.a,
  .i⟩, true), .call 38 [.t ⟨.a, .k⟩, .t ⟨.a, .l⟩], []⟩, ⟨some ⟨.a, .n⟩, none, .pk (.t ⟨.a, .i⟩) (.t ⟨.a, .m⟩) (.c (.c (.b false))), []⟩, ⟨some ⟨.a, .e⟩, none, .mv (.t ⟨.a, .n⟩), []⟩]) .ret), [(⟨.a,
  .e⟩, none)]⟩

theorem ok100 : FnR Go.Proofs.Tryz.prog 0 100 cf100 := fnC_ok [] Go.Proofs.Tryz.func100 (by kernel_rfl) (by kernel_rfl)

def cf101 : CF := ⟨23, 3, .seq (.reg [⟨some ⟨.a, .g⟩, none, .mv (.c (.c (.p none))), []⟩]) (.seq (.reg [⟨some ⟨.a, .l⟩, none, .call 103 [.t ⟨.a, .a⟩, .t ⟨.a, .b⟩, .t ⟨.a, .c⟩], []⟩, ⟨some ⟨.a, .h⟩, none, .mv (.t ⟨.a,
  .l⟩), []⟩]) (.seq (.reg [⟨some ⟨.a, .o⟩, none, .nc (.t ⟨.a, .a⟩), []⟩, ⟨some ⟨.a, .p⟩, none, .fa 3 (.t ⟨.a, .o⟩), []⟩, ⟨some ⟨.b, .a⟩, none, .ld 1 false (.t ⟨.a, .p⟩), []⟩, ⟨some ⟨.b, .c⟩, none, .bsl
  58 1 1 [.p none] [(0, (1, .t ⟨.a, .h⟩))], []⟩, ⟨some ⟨.b, .d⟩, none, .app 58 1 false (.t ⟨.b, .a⟩) (.t ⟨.b, .c⟩), []⟩, ⟨some ⟨.b, .e⟩, none, .nc (.t ⟨.a, .a⟩), []⟩, ⟨some ⟨.b, .f⟩, none, .fa 3 (.t
  ⟨.b, .e⟩), []⟩, ⟨none, none, .st 1 (.t ⟨.b, .f⟩) (.t ⟨.b, .d⟩), []⟩]) (.seq (.reg [⟨some ⟨.a, .g⟩, none, .mv (.t ⟨.a, .h⟩), []⟩]) .ret))), [(⟨.a, .g⟩, none)]⟩

theorem ok101 : FnR Go.Proofs.Tryz.prog 0 101 cf101 := fnC_ok [8, 9, 10, 12, 13, 17, 22] Go.Proofs.Tryz.func101 (by kernel_rfl) (by kernel_rfl)

def cf103 : CF := ⟨16, 3, .seq (.reg [⟨some ⟨.a, .g⟩, none, .mv (.c (.c (.p none))), []⟩]) (.seq (.reg [⟨some ⟨.a, .l⟩, none, .call 97 [.t ⟨.a, .a⟩, .c (.c (.i .i64 (.ofNat 2))), .t ⟨.a, .b⟩, .c (.c (.s [])), .t ⟨.a,
  .c⟩], []⟩, ⟨some ⟨.a, .h⟩, none, .mv (.t ⟨.a, .l⟩), []⟩]) (.seq (.reg [⟨some ⟨.a, .o⟩, none, .call 130 [.t ⟨.a, .a⟩, .t ⟨.a, .h⟩], []⟩]) (.seq (.reg [⟨some ⟨.a, .g⟩, none, .mv (.t ⟨.a, .h⟩), []⟩])
  .ret))), [(⟨.a, .g⟩, none)]⟩

theorem ok103 : FnR Go.Proofs.Tryz.prog 0 103 cf103 := fnC_ok [8, 9, 10, 12, 13, 15] Go.Proofs.Tryz.func103 (by kernel_rfl) (by kernel_rfl)

def cf104 : CF := ⟨10, 2, .reg [⟨some ⟨.a, .g⟩, none, .call 132 [.t ⟨.a, .a⟩], []⟩, ⟨some ⟨.a, .i⟩, none, .call 131 [.t ⟨.a, .g⟩, .t ⟨.a, .b⟩], []⟩, ⟨some ⟨.a, .j⟩, none, .call 67 [.t ⟨.a, .a⟩, .t ⟨.a, .i⟩], []⟩], []⟩

theorem ok104 : FnR Go.Proofs.Tryz.prog 0 104 cf104 := fnC_ok [4, 5, 7] Go.Proofs.Tryz.func104 (by kernel_rfl) (by kernel_rfl)

def cf105 : CF := ⟨9, 2, .seq (.reg [⟨some ⟨.a, .e⟩, none, .mv (.c (.c (.b false))), []⟩]) (.seq (.reg [⟨some ⟨.a, .g⟩, none, .call 134 [.t ⟨.a, .b⟩], []⟩, ⟨some ⟨.a, .i⟩, none, .call 133 [.t ⟨.a, .g⟩, .t ⟨.a, .a⟩],
  []⟩, ⟨some ⟨.a, .e⟩, none, .mv (.t ⟨.a, .i⟩), []⟩]) .ret), [(⟨.a, .e⟩, none)]⟩

theorem ok105 : FnR Go.Proofs.Tryz.prog 0 105 cf105 := fnC_ok [5, 7] Go.Proofs.Tryz.func105 (by kernel_rfl) (by kernel_rfl)

def cf106 : CF := ⟨11, 2, .seq (.reg [⟨some ⟨.a, .d⟩, none, .new 3 (.t ⟨.a, .b⟩), []⟩, ⟨some ⟨.a, .e⟩, none, .mv (.c (.c (.i .i64 (.ofNat 0)))), []⟩]) (.seq (.reg [⟨some ⟨.a, .g⟩, none, .nc (.t ⟨.a, .a⟩), []⟩, ⟨some
  ⟨.a, .h⟩, none, .fa 3 (.t ⟨.a, .g⟩), []⟩, ⟨some ⟨.a, .i⟩, none, .ld 1 false (.t ⟨.a, .h⟩), []⟩, ⟨some ⟨.a, .j⟩, none, .mkf 136 [.t ⟨.a, .d⟩], []⟩, ⟨some ⟨.a, .k⟩, none, .call 135 [.t ⟨.a, .i⟩, .t
  ⟨.a, .j⟩], []⟩, ⟨some ⟨.a, .e⟩, none, .mv (.t ⟨.a, .k⟩), []⟩]) .ret), [(⟨.a, .e⟩, none)]⟩

theorem ok106 : FnR Go.Proofs.Tryz.prog 0 106 cf106 := fnC_ok [5] Go.Proofs.Tryz.func106 (by kernel_rfl) (by kernel_rfl)

def cf107 : CF := ⟨4, 1, .reg [⟨some ⟨.a, .b⟩, none, .ld 1 false (.t ⟨.a, .a⟩), []⟩, ⟨some ⟨.a, .c⟩, none, .bsl 9 1 2 [.s [], .s []] [(0, (1, .c (.c (.s [116, 97, 98, 108, 101])))), (1, (1, .c (.c (.s [104, 116, 109,
  108]))))], []⟩, ⟨some ⟨.a, .d⟩, none, .call 108 [.t ⟨.a, .b⟩, .t ⟨.a, .c⟩], []⟩], []⟩

theorem ok107 : FnR Go.Proofs.Tryz.prog 0 107 cf107 := fnC_ok [] Go.Proofs.Tryz.func107 (by kernel_rfl) (by kernel_rfl)

def cf108 : CF := ⟨12, 2, .reg [⟨some ⟨.a, .g⟩, none, .call 132 [.t ⟨.a, .a⟩], []⟩, ⟨some ⟨.a, .i⟩, none, .call 131 [.t ⟨.a, .g⟩, .t ⟨.a, .b⟩], []⟩, ⟨some ⟨.a, .j⟩, none, .bin .sub (.t ⟨.a, .i⟩) (.c (.c (.i .i64
  (.ofNat 1)))), []⟩, ⟨some ⟨.a, .k⟩, none, .mx (.c (.c (.i .i64 (.ofNat 0)))) (.t ⟨.a, .j⟩), []⟩, ⟨some ⟨.a, .l⟩, none, .call 67 [.t ⟨.a, .a⟩, .t ⟨.a, .k⟩], []⟩], []⟩

theorem ok108 : FnR Go.Proofs.Tryz.prog 0 108 cf108 := fnC_ok [4, 5, 7] Go.Proofs.Tryz.func108 (by kernel_rfl) (by kernel_rfl)

def cf109 : CF := ⟨12, 1, .reg [⟨some ⟨.a, .e⟩, none, .nc (.t ⟨.a, .a⟩), []⟩, ⟨some ⟨.a, .f⟩, none, .fa 0 (.t ⟨.a, .e⟩), []⟩, ⟨some ⟨.a, .g⟩, none, .ld 1 false (.t ⟨.a, .f⟩), []⟩, ⟨some ⟨.a, .h⟩, none, .bld [.i .i64
  (.ofNat 0), .s [], .sl none 0 0 0, .b false] [(3, (1, .c (.c (.b true))))], []⟩, ⟨some ⟨.a, .i⟩, none, .bsl 130 4 1 [.i .i64 (.ofNat 0), .s [], .sl none 0 0 0, .b false] [(0, (4, .t ⟨.a, .h⟩))], []⟩,
  ⟨some ⟨.a, .j⟩, none, .app 130 4 false (.t ⟨.a, .g⟩) (.t ⟨.a, .i⟩), []⟩, ⟨some ⟨.a, .k⟩, none, .nc (.t ⟨.a, .a⟩), []⟩, ⟨some ⟨.a, .l⟩, none, .fa 0 (.t ⟨.a, .k⟩), []⟩, ⟨none, none, .st 1 (.t ⟨.a, .l⟩)
  (.t ⟨.a, .j⟩), []⟩], []⟩

theorem ok109 : FnR Go.Proofs.Tryz.prog 0 109 cf109 := fnC_ok [2, 3] Go.Proofs.Tryz.func109 (by kernel_rfl) (by kernel_rfl)

def cf110 : CF := ⟨2, 0, .seq (.reg [⟨some ⟨.a, .a⟩, none, .mv (.c (.c (.sl none 0 0 0))), []⟩]) (.seq (.reg [⟨some ⟨.a, .b⟩, none, .bsl 9 1 3 [.s [], .s [], .s []] [(0, (1, .c (.c (.s [116, 98, 111, 100, 121])))),
  (1, (1, .c (.c (.s [116, 102, 111, 111, 116])))), (2, (1, .c (.c (.s [116, 104, 101, 97, 100]))))], []⟩, ⟨some ⟨.a, .a⟩, none, .mv (.t ⟨.a, .b⟩), []⟩]) .ret), [(⟨.a, .a⟩, none)]⟩

theorem ok110 : FnR Go.Proofs.Tryz.prog 0 110 cf110 := fnC_ok [] Go.Proofs.Tryz.func110 (by kernel_rfl) (by kernel_rfl)

def cf111 : CF := ⟨12, 3, .seq (.reg [⟨some ⟨.a, .g⟩, none, .mv (.c (.c (.b false))), []⟩]) (.seq (.reg [⟨some ⟨.a, .i⟩, none, .call 132 [.t ⟨.a, .a⟩], []⟩, ⟨some ⟨.a, .l⟩, none, .call 137 [.t ⟨.a, .i⟩, .t ⟨.a, .b⟩,
  .t ⟨.a, .c⟩], []⟩, ⟨some ⟨.a, .g⟩, none, .mv (.t ⟨.a, .l⟩), []⟩]) .ret), [(⟨.a, .g⟩, none)]⟩

theorem ok111 : FnR Go.Proofs.Tryz.prog 0 111 cf111 := fnC_ok [7, 9, 10] Go.Proofs.Tryz.func111 (by kernel_rfl) (by kernel_rfl)

def cf113 : CF := ⟨6, 1, .seq (.reg [⟨some ⟨.a, .b⟩, none, .new 56 (.t ⟨.a, .a⟩), []⟩, ⟨some ⟨.a, .c⟩, none, .mv (.c (.c (.b false))), []⟩]) (.seq (.reg [⟨some ⟨.a, .d⟩, none, .ld 5 true (.t ⟨.a, .b⟩), []⟩, ⟨some ⟨.a,
  .e⟩, none, .bsl 9 1 9 [.s [], .s [], .s [], .s [], .s [], .s [], .s [], .s [], .s []] [(0, (1, .c (.c (.s [99, 97, 112, 116, 105, 111, 110])))), (1, (1, .c (.c (.s [99, 111, 108])))), (2, (1, .c (.c
  (.s [99, 111, 108, 103, 114, 111, 117, 112])))), (3, (1, .c (.c (.s [116, 98, 111, 100, 121])))), (4, (1, .c (.c (.s [116, 100])))), (5, (1, .c (.c (.s [116, 102, 111, 111, 116])))), (6, (1, .c (.c
  (.s [116, 104])))), (7, (1, .c (.c (.s [116, 104, 101, 97, 100])))), (8, (1, .c (.c (.s [116, 114]))))], []⟩, ⟨some ⟨.a, .f⟩, none, .call 100 [.t ⟨.a, .d⟩, .t ⟨.a, .e⟩], []⟩, ⟨some ⟨.a, .c⟩, none,
  .mv (.t ⟨.a, .f⟩), []⟩]) .ret), [(⟨.a, .c⟩, none)]⟩

theorem ok113 : FnR Go.Proofs.Tryz.prog 0 113 cf113 := fnC_ok [] Go.Proofs.Tryz.func113 (by kernel_rfl) (by kernel_rfl)

def cf114 : CF := ⟨10, 2, .reg [⟨some ⟨.a, .g⟩, none, .call 132 [.t ⟨.a, .a⟩], []⟩, ⟨some ⟨.a, .i⟩, none, .call 139 [.t ⟨.a, .g⟩, .t ⟨.a, .b⟩], []⟩, ⟨some ⟨.a, .j⟩, none, .call 67 [.t ⟨.a, .a⟩, .t ⟨.a, .i⟩], []⟩], []⟩

theorem ok114 : FnR Go.Proofs.Tryz.prog 0 114 cf114 := fnC_ok [4, 5, 7] Go.Proofs.Tryz.func114 (by kernel_rfl) (by kernel_rfl)

def cf115 : CF := ⟨14, 1, .dreg [⟨some ⟨.a, .c⟩, none, .mv (.t ⟨.a, .a⟩), []⟩, ⟨some ⟨.a, .d⟩, none, .mv (.t ⟨.a, .a⟩), []⟩, ⟨some ⟨.a, .e⟩, none, .nc (.t ⟨.a, .d⟩), []⟩, ⟨some ⟨.a, .f⟩, none, .fa 0 (.t ⟨.a, .e⟩),
  []⟩, ⟨some ⟨.a, .g⟩, none, .ld 1 false (.t ⟨.a, .f⟩), []⟩, ⟨some ⟨.a, .h⟩, none, .mv (.t ⟨.a, .a⟩), []⟩, ⟨some ⟨.a, .i⟩, none, .call 140 [.t ⟨.a, .h⟩], [⟨some ⟨.a, .g⟩, none, .ld 1 false (.t ⟨.a,
  .f⟩)⟩]⟩, ⟨some ⟨.a, .j⟩, none, .bin .sub (.t ⟨.a, .i⟩) (.c (.c (.i .i64 (.ofNat 1)))), []⟩, ⟨some ⟨.a, .k⟩, none, .mx (.c (.c (.i .i64 (.ofNat 0)))) (.t ⟨.a, .j⟩), []⟩, ⟨some ⟨.a, .l⟩, none, .slc 4
  (.t ⟨.a, .g⟩) none (some (.t ⟨.a, .k⟩)) none, []⟩, ⟨some ⟨.a, .m⟩, none, .nc (.t ⟨.a, .c⟩), []⟩, ⟨some ⟨.a, .n⟩, none, .fa 0 (.t ⟨.a, .m⟩), []⟩, ⟨none, none, .st 1 (.t ⟨.a, .n⟩) (.t ⟨.a, .l⟩), []⟩],
  []⟩

theorem ok115 : FnR Go.Proofs.Tryz.prog 0 115 cf115 := fnC_ok [] Go.Proofs.Tryz.func115 (by kernel_rfl) (by kernel_rfl)

def cf116 : CF := ⟨6, 1, .dreg [⟨some ⟨.a, .b⟩, none, .ld 1 false (.t ⟨.a, .a⟩), []⟩, ⟨some ⟨.a, .d⟩, none, .bsl 9 1 1 [.s []] [(0, (1, .c (.c (.s [104, 116, 109, 108]))))], []⟩, ⟨some ⟨.a, .c⟩, none, .call 110 [],
  [⟨some ⟨.a, .b⟩, none, .ld 1 false (.t ⟨.a, .a⟩)⟩]⟩, ⟨some ⟨.a, .e⟩, none, .app 9 1 false (.t ⟨.a, .c⟩) (.t ⟨.a, .d⟩), [⟨some ⟨.a, .b⟩, none, .ld 1 false (.t ⟨.a, .a⟩)⟩]⟩, ⟨some ⟨.a, .f⟩, none, .call
  108 [.t ⟨.a, .b⟩, .t ⟨.a, .e⟩], []⟩], []⟩

theorem ok116 : FnR Go.Proofs.Tryz.prog 0 116 cf116 := fnC_ok [] Go.Proofs.Tryz.func116 (by kernel_rfl) (by kernel_rfl)

def cf117 : CF := ⟨9, 1, .seq (.reg [⟨some ⟨.a, .b⟩, none, .ld 1 false (.t ⟨.a, .a⟩), []⟩, ⟨some ⟨.a, .c⟩, none, .bsl 9 1 2 [.s [], .s []] [(0, (1, .c (.c (.s [116, 114])))), (1, (1, .c (.c (.s [104, 116, 109,
  108]))))], []⟩, ⟨some ⟨.a, .d⟩, none, .call 108 [.t ⟨.a, .b⟩, .t ⟨.a, .c⟩], []⟩]) (.seq (.reg [⟨some ⟨.a, .e⟩, none, .ld 1 false (.t ⟨.a, .a⟩), []⟩, ⟨some ⟨.a, .f⟩, none, .call 67 [.t ⟨.a, .e⟩, .c
  (.c (.i .i64 (.ofNat 1)))], []⟩]) (.reg [⟨some ⟨.a, .g⟩, none, .ld 1 false (.t ⟨.a, .a⟩), []⟩, ⟨some ⟨.a, .h⟩, none, .nc (.t ⟨.a, .g⟩), []⟩, ⟨some ⟨.a, .i⟩, none, .fa 5 (.t ⟨.a, .h⟩), []⟩, ⟨none,
  none, .st 1 (.t ⟨.a, .i⟩) (.c (.c (.i .i64 (.ofNat 10)))), []⟩])), []⟩

theorem ok117 : FnR Go.Proofs.Tryz.prog 0 117 cf117 := fnC_ok [] Go.Proofs.Tryz.func117 (by kernel_rfl) (by kernel_rfl)

def cf118 : CF := ⟨15, 1, .seq (.reg [⟨some ⟨.a, .b⟩, none, .mv (.c (.c (.b false))), []⟩]) (.seq (.reg [⟨some ⟨.a, .c⟩, none, .ld 1 false (.t ⟨.a, .a⟩), []⟩, ⟨some ⟨.a, .d⟩, none, .call 114 [.t ⟨.a, .c⟩, .c (.c (.s
  []))], []⟩]) (.seq (.reg [⟨some ⟨.a, .e⟩, none, .ld 1 false (.t ⟨.a, .a⟩), []⟩, ⟨some ⟨.a, .f⟩, none, .bsl 9 1 2 [.s [], .s []] [(0, (1, .c (.c (.s [116, 100])))), (1, (1, .c (.c (.s [116, 104]))))],
  []⟩, ⟨some ⟨.a, .g⟩, none, .call 104 [.t ⟨.a, .e⟩, .t ⟨.a, .f⟩], []⟩]) (.seq (.reg [⟨some ⟨.a, .h⟩, none, .ld 1 false (.t ⟨.a, .a⟩), []⟩, ⟨some ⟨.a, .i⟩, none, .nc (.t ⟨.a, .h⟩), []⟩, ⟨some ⟨.a, .j⟩,
  none, .fa 4 (.t ⟨.a, .i⟩), []⟩, ⟨some ⟨.a, .k⟩, none, .ld 1 false (.t ⟨.a, .j⟩), []⟩, ⟨some ⟨.a, .l⟩, none, .call 115 [.t ⟨.a, .k⟩], []⟩]) (.seq (.reg [⟨some ⟨.a, .m⟩, none, .ld 1 false (.t ⟨.a,
  .a⟩), []⟩, ⟨some ⟨.a, .n⟩, none, .nc (.t ⟨.a, .m⟩), []⟩, ⟨some ⟨.a, .o⟩, none, .fa 5 (.t ⟨.a, .n⟩), []⟩, ⟨none, none, .st 1 (.t ⟨.a, .o⟩) (.c (.c (.i .i64 (.ofNat 11)))), []⟩]) (.seq (.reg [⟨some
  ⟨.a, .b⟩, none, .mv (.c (.c (.b true))), []⟩]) .ret))))), [(⟨.a, .b⟩, none)]⟩

theorem ok118 : FnR Go.Proofs.Tryz.prog 0 118 cf118 := fnC_ok [] Go.Proofs.Tryz.func118 (by kernel_rfl) (by kernel_rfl)

def cf119 : CF := ⟨53, 1, .seq (.reg [⟨some ⟨.a, .g⟩, none, .nc (.t ⟨.a, .a⟩), []⟩, ⟨some ⟨.a, .h⟩, none, .fa 4 (.t ⟨.a, .g⟩), []⟩, ⟨some ⟨.a, .i⟩, none, .ld 1 false (.t ⟨.a, .h⟩), []⟩, ⟨some ⟨.a, .j⟩, none, .call 141
  [.t ⟨.a, .i⟩], []⟩, ⟨some ⟨.a, .c⟩, none, .mv (.t ⟨.a, .j⟩), []⟩]) (.seq (.blk 0 (.loop (.seq (.seq (.reg [⟨some ⟨.a, .l⟩, none, .bin .gtr (.t ⟨.a, .c⟩) (.c (.c (.i .i64 (.ofNat 0)))), []⟩, ⟨some
  ⟨.a, .m⟩, none, .mv (.t ⟨.a, .l⟩), []⟩, ⟨some ⟨.a, .n⟩, some (⟨.a, .m⟩, true), .mv (.t ⟨.a, .a⟩), []⟩, ⟨some ⟨.a, .o⟩, some (⟨.a, .m⟩, true), .mv (.t ⟨.a, .c⟩), []⟩, ⟨some ⟨.a, .p⟩, some (⟨.a, .m⟩,
  true), .bin .sub (.t ⟨.a, .o⟩) (.c (.c (.i .i64 (.ofNat 1)))), []⟩, ⟨some ⟨.b, .a⟩, some (⟨.a, .m⟩, true), .call 142 [.t ⟨.a, .n⟩, .t ⟨.a, .p⟩], []⟩, ⟨some ⟨.b, .b⟩, some (⟨.a, .m⟩, true), .un .not
  (.t ⟨.b, .a⟩), []⟩, ⟨some ⟨.b, .c⟩, none, .pk (.t ⟨.a, .m⟩) (.t ⟨.b, .b⟩) (.c (.c (.b false))), []⟩]) (.cond (.t ⟨.b, .c⟩) .skip (.exit 0))) (.blk 1 (.reg [⟨some ⟨.b, .e⟩, none, .bin .sub (.t ⟨.a,
  .c⟩) (.c (.c (.i .i64 (.ofNat 1)))), []⟩, ⟨some ⟨.a, .c⟩, none, .mv (.t ⟨.b, .e⟩), []⟩]))))) (.blk 2 (.loop (.seq (.seq (.reg [⟨some ⟨.b, .h⟩, none, .nc (.t ⟨.a, .a⟩), []⟩, ⟨some ⟨.b, .i⟩, none, .fa
  4 (.t ⟨.b, .h⟩), []⟩, ⟨some ⟨.b, .j⟩, none, .ld 1 false (.t ⟨.b, .i⟩), []⟩, ⟨some ⟨.b, .k⟩, none, .call 141 [.t ⟨.b, .j⟩], []⟩, ⟨some ⟨.b, .l⟩, none, .bin .lss (.t ⟨.a, .c⟩) (.t ⟨.b, .k⟩), []⟩])
  (.cond (.t ⟨.b, .l⟩) .skip (.exit 2))) (.seq (.blk 3 (.seq (.reg [⟨some ⟨.c, .a⟩, none, .nc (.t ⟨.a, .a⟩), []⟩, ⟨some ⟨.c, .b⟩, none, .fa 4 (.t ⟨.c, .a⟩), []⟩, ⟨some ⟨.c, .c⟩, none, .ld 1 false (.t
  ⟨.c, .b⟩), []⟩, ⟨some ⟨.c, .e⟩, none, .call 143 [.t ⟨.c, .c⟩, .t ⟨.a, .c⟩], []⟩, ⟨some ⟨.c, .f⟩, none, .ext 0 (.t ⟨.c, .e⟩), []⟩, ⟨some ⟨.c, .g⟩, none, .ext 1 (.t ⟨.c, .e⟩), []⟩, ⟨some ⟨.a, .d⟩,
  none, .new 128 (.c (.a [.i .i64 (.ofNat 0), .s [], .sl none 0 0 0])), []⟩, ⟨none, none, .st 3 (.t ⟨.a, .d⟩) (.t ⟨.c, .f⟩), []⟩]) (.dreg [⟨some ⟨.c, .h⟩, none, .mv (.t ⟨.a, .a⟩), []⟩, ⟨some ⟨.c, .i⟩,
  none, .nc (.t ⟨.c, .h⟩), []⟩, ⟨some ⟨.c, .j⟩, none, .fa 4 (.t ⟨.c, .i⟩), []⟩, ⟨some ⟨.c, .k⟩, none, .ld 1 false (.t ⟨.c, .j⟩), []⟩, ⟨some ⟨.c, .l⟩, none, .fa 0 (.t ⟨.a, .d⟩), []⟩, ⟨some ⟨.c, .m⟩,
  none, .ld 1 false (.t ⟨.c, .l⟩), []⟩, ⟨some ⟨.c, .n⟩, none, .mv (.t ⟨.a, .a⟩), []⟩, ⟨some ⟨.c, .o⟩, none, .fa 1 (.t ⟨.a, .d⟩), []⟩, ⟨some ⟨.c, .p⟩, none, .ld 1 false (.t ⟨.c, .o⟩), []⟩, ⟨some ⟨.d,
  .a⟩, none, .fa 2 (.t ⟨.a, .d⟩), []⟩, ⟨some ⟨.d, .b⟩, none, .ld 1 false (.t ⟨.d, .a⟩), []⟩, ⟨some ⟨.d, .c⟩, none, .call 101 [.t ⟨.c, .n⟩, .t ⟨.c, .p⟩, .t ⟨.d, .b⟩], [⟨some ⟨.c, .k⟩, none, .ld 1 false
  (.t ⟨.c, .j⟩)⟩, ⟨some ⟨.c, .m⟩, none, .ld 1 false (.t ⟨.c, .l⟩)⟩]⟩, ⟨some ⟨.d, .d⟩, none, .call 145 [.t ⟨.d, .c⟩], [⟨some ⟨.c, .k⟩, none, .ld 1 false (.t ⟨.c, .j⟩)⟩, ⟨some ⟨.c, .m⟩, none, .ld 1 false
  (.t ⟨.c, .l⟩)⟩]⟩, ⟨some ⟨.d, .e⟩, none, .call 144 [.t ⟨.c, .k⟩, .t ⟨.c, .m⟩, .t ⟨.d, .d⟩], []⟩]))) (.reg [⟨some ⟨.b, .n⟩, none, .bin .add (.t ⟨.a, .c⟩) (.c (.c (.i .i64 (.ofNat 1)))), []⟩, ⟨some ⟨.a,
  .c⟩, none, .mv (.t ⟨.b, .n⟩), []⟩])))))), []⟩

theorem ok119 : FnR Go.Proofs.Tryz.prog 0 119 cf119 := fnC_ok [4, 5, 10, 19, 21, 22, 28, 30, 31, 35] Go.Proofs.Tryz.func119 (by kernel_rfl) (by kernel_rfl)

end

end Ev
end


end Go.Proofs.YtmmikhhklifjhaaGreatDoor
