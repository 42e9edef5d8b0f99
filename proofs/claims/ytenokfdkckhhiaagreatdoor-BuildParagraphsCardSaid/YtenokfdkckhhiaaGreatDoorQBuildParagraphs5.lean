/-
  What the proof of the statement leans on: texts one behind the other.
-/
import Derived.Test.YtenokfdkckhhiaaGreatDoorQBuildParagraphs4
import Derived.Test.YtenokfdkckhhiaaGreatDoorQBuildParagraphs3
import Derived.Test.YtenokfdkckhhiaaGreatDoorQBuildParagraphsGbld
import Derived.Test.YtenokfdkckhhiaaGreatDoorQBuildParagraphsGformat
import Derived.Test.YtenokfdkckhhiaaGreatDoorQBuildParagraphsGT
import Derived.Test.YtenokfdkckhhiaaGreatDoorQBuildParagraphs2
import Derived.Test.YtenokfdkckhhiaaGreatDoorQBuildParagraphsGlaw14BuildParagraphs
import Derived.Test.YtenokfdkckhhiaaGreatDoorQBuildParagraphs0
import Derived.Test.YtenokfdkckhhiaaGreatDoorRows
import Derived.Deep.Grids
import Derived.MakeChecks
import Derived.Lib.LaidTab
import Derived.LaidSub
namespace Go.Proofs.YtenokfdkckhhiaaGreatDoor
section
open Go.RowKit
def srcs (ps : List Pc) : Str := (ps.map Pc.src).flatten
def Sep : List Pc → Prop
 |[] => True
 |p :: r => (∀ x, p = .t x → r = [] ∨ ∃ q r', r = q :: r' ∧ ∀ y, q ≠ .t y) ∧ Sep r
def tkc (p : Pc) : List Value := [.int .i64 p.kind, .string (Bs p.name), .string (Bs p.text), Sl.v Sl.nil, .bool false]
def tkc0 : List Value := [.int .i64 6, .string (Bs ([] : Str)), .string (Bs ([] : Str)), Sl.v Sl.nil, .bool false]
theorem srcs_cons (p : Pc) (ps : List Pc) : srcs (p :: ps) = p.src ++ srcs ps := rfl
theorem src_sign {p : Pc} (hp : p.Ok) : ∀ c ∈ p.src, 33 ≤ c.toNat ∧ c.toNat ≤ 126 := by
 have g : ∀ c, goodB c = true → 33 ≤ c.toNat ∧ c.toNat ≤ 126 := fun c h => ⟨(good_iff h).1, (good_iff h).2.1⟩
 intro c hc
 cases p with
 |s nm =>
  simp only [Pc.src, List.mem_cons, List.mem_append, List.not_mem_nil, or_false] at hc
  rcases hc with rfl | hc | rfl
  ·decide
  ·exact g c (hp.good c (by simp [Pc.name, hc]))
  ·decide
 |e nm =>
  simp only [Pc.src, List.mem_cons, List.mem_append, List.not_mem_nil, or_false] at hc
  rcases hc with rfl | rfl | hc | rfl
  ·decide
  ·decide
  ·exact g c (hp.good c (by simp [Pc.name, hc]))
  ·decide
 |t x => exact g c (hp.good c (by simp [Pc.name, Pc.text]; exact hc))
theorem runeC {w : World} {s : Str} {k : Nat} (hk : k < s.length) (hc : (s.getD k 0).toNat < 128) : Calls Tryz.prog 45 #[.string (Bs s), .int .i64 (k : Int)] w (Ret fun v w' => Ext w w' ∧ v = .tuple #[.int .i32 (IntKind.i32.wrap ((s.getD k 0).toNat : Int)), .int .i64 1]) := by
 refine ref04_Next.ok _ _ ?_
 unfold ref04_Next.vc
 rw [Int.toNat_natCast]
 refine ⟨⟨by omega, by omega⟩, ⟨by omega, by omega⟩, fun _ _ _ _ => False, ⟨fun _ => ⟨Chg.refl _ _, rfl⟩, fun h => absurd (by exact_mod_cast hc) h⟩, fun _ _ _ _ h => h.elim⟩
theorem cleanC {w : World} {s : Str} (hs : ∀ c ∈ s, 33 ≤ c.toNat ∧ c.toNat ≤ 126) (hl : s.length ≤ 1000000) : Calls Tryz.prog 28 #[.string (Bs s)] w (Ret fun v w' => Ext w w' ∧ v = .string (Bs s)) := by
 refine ref04_Clean.ok _ ?_
 unfold ref04_Clean.vc
 refine ⟨fun t a w1 => ∃ j : Nat, a = (j : Int) ∧ j ≤ s.length ∧ t = s.take j ∧ Ext w w1, fun _ a _ => s.length - a.toNat, ⟨0, rfl, Nat.zero_le _, rfl, Chg.refl _ _⟩, ?_⟩
 rintro _ _ w1 ⟨j, rfl, hj, rfl, hE⟩
 rw [Int.toNat_natCast]
 refine ⟨fun hlt => ?_, fun hge => ⟨hE, by rw [show j = s.length by omega, List.take_length]⟩⟩
 have hj' : j < s.length := by omega
 have hc : s.getD j 0 = s[j] := by rw [List.getD_eq_getElem?_getD, List.getElem?_eq_getElem hj']; rfl
 obtain ⟨h1, h2⟩ := hs _ (List.getElem_mem hj')
 rw [← hc] at h1 h2
 have e : s.take j ++ (s.drop j).take (((j : Int) + 1).toNat - j) = s.take (j + 1) := by
  rw [show ((j : Int) + 1).toNat - j = 1 by omega, List.take_add]
 refine CallK.exact (runeC hj' (by omega)) fun w2 hE2 => ⟨_, _, rfl, fun _ => ⟨by omega, hlt⟩, fun h => ?_, fun _ => ⟨⟨by omega, hlt⟩, fun h => ?_, fun _ => ⟨⟨by omega, by omega⟩, ⟨by omega, by omega, by omega⟩, ?_, ⟨by omega, by omega⟩, ⟨j + 1, by omega, by omega, e, hE.trans hE2⟩, ?_⟩⟩⟩
 ·rcases h with h | h
  ·omega
  ·omega
 ·omega
 ·simp only [List.length_take, List.length_drop]; omega
 ·dsimp only; omega
theorem nextEnd {w : World} {s : Str} : Calls Tryz.prog 29 #[.string (Bs s), .int .i64 (s.length : Int), .string (Bs ([] : Str))] w (Ret fun v w' => Ext w w' ∧ v = .tuple #[.agg #[.int .i64 6, .string (Bs ([] : Str)), .string (Bs ([] : Str)), Sl.v Sl.nil, .bool false], .int .i64 (s.length : Int), .bool true]) := by
 refine ref10_Next.ok _ _ _ ?_
 unfold ref10_Next.vc
 exact ⟨fun _ w1 B4 hN hE => ⟨hE, rfl⟩, fun h => by omega⟩
theorem sep_next {p : Pc} {ps : List Pc} (h : Sep (p :: ps)) (hok : ∀ q ∈ ps, q.Ok) : ∀ x, p = .t x → srcs ps = [] ∨ ∃ q, srcs ps = 60 :: q := fun x hx => by
 rcases h.1 x hx with rfl | ⟨q, r', rfl, hq⟩
 ·exact .inl rfl
 ·cases q with
  |s nm => exact .inr ⟨_, rfl⟩
  |e nm => exact .inr ⟨_, rfl⟩
  |t y => exact absurd rfl (hq y)
theorem tkc_one (p : Pc) : ∀ u ∈ ([tkc p].flatten), u.oneCell' = true := by
 intro u hu
 simp only [List.flatten_cons, List.flatten_nil, List.append_nil, tkc, List.mem_cons, List.not_mem_nil, or_false] at hu
 rcases hu with rfl | rfl | rfl | rfl | rfl <;> rfl
theorem tkc0_one : ∀ u ∈ ([tkc0].flatten), u.oneCell' = true := by
 intro u hu
 simp only [List.flatten_cons, List.flatten_nil, List.append_nil, tkc0, List.mem_cons, List.not_mem_nil, or_false] at hu
 rcases hu with rfl | rfl | rfl | rfl | rfl <;> rfl
theorem Own.many {A : List Nat} {w : World} {B size : Nat} {S : TypeId} {us : List (List Value)} (h : Box w B S us.flatten) (hu : ∀ u ∈ us, u.length = size) (hn : us.length ≤ maxLen) (hA : B ∉ A) : Own A w ⟨some ⟨B, 0, none⟩, us.length, us.length⟩ size S us :=
 ⟨rfl, Nat.le_refl _, hn, hu, .inr ⟨B, us.flatten, rfl, hA, h, flatten_len us hu, by rw [← flatten_len us hu, List.take_length]⟩⟩
theorem allC {w : World} {Q : World → Prop} (hq : Q w) (hQ : ∀ {a b : World}, Q a → Ext a b → Q b) (ps : List Pc) (hok : ∀ p ∈ ps, p.Ok) (hsep : Sep ps) (hl : (srcs ps).length ≤ 100000)
  (hn : ∀ p ∈ ps, (∀ x, p ≠ .t x) → ∀ w : World, Q w → Calls Tryz.prog 83 #[.string (Bs p.name)] w (Ret fun v w' => Ext w w' ∧ v = .string (Bs p.name)))
  (hraw : ∀ p ∈ ps, p.kind = 1 → ∀ w : World, Q w → Calls Tryz.prog 30 #[.string (Bs p.name)] w (Ret fun v w' => Ext w w' ∧ v = .int .i64 0))
  (hlow : ∀ w : World, Q w → Calls Tryz.prog 46 #[.string (Bs ([60, 47] : Str))] w (Ret fun v w' => Ext w w' ∧ v = .string (Bs ([60, 47] : Str)))) :
  Calls Tryz.prog 16 #[.string (Bs (srcs ps))] w (Ret fun v w' => Ext w w' ∧ ∃ l : Sl, v = l.v ∧ Row [] w' l 5 (ps.map tkc ++ [tkc0])) := by
 refine ref11_All.ok _ ?_
 unfold ref11_All.vc
 have hsig : ∀ c ∈ srcs ps, 33 ≤ c.toNat ∧ c.toNat ≤ 126 := fun c hc => by
  obtain ⟨l, hl, hc⟩ := List.mem_flatten.1 hc
  obtain ⟨p, hp, rfl⟩ := List.mem_map.1 hl
  exact src_sign (hok p hp) c hc
 have hnum : ∀ l : List Pc, (∀ p ∈ l, p.Ok) → l.length ≤ (srcs l).length := fun l => by
  induction l with
  |nil => intro _; exact Nat.zero_le _
  |cons p l ih =>
   intro h
   have h1 := ih fun q hq => h q (by simp [hq])
   have h2 : 0 < p.src.length := by
    have hp := h p (by simp)
    cases p with
    |s nm => simp [Pc.src]
    |e nm => simp [Pc.src]
    |t x => cases x with
     |nil => exact absurd rfl (hp.word _ rfl)
     |cons a b => simp [Pc.src]
   rw [srcs_cons, List.length_append, List.length_cons]; omega
 refine CallK.exact (cleanC hsig (by omega)) fun w1 hE1 => ⟨_, rfl, ?_⟩
 generalize hs : srcs ps = s at hl hsig
 refine ⟨fun l raw a w2 => ∃ (dn td : List Pc) (k : Nat), a = (k : Int) ∧ raw = [] ∧ ps = dn ++ td ∧ Sep td ∧ k ≤ s.length ∧ s.drop k = srcs td ∧ Own (List.range w.heap.size) w2 l 5 51 (dn.map tkc) ∧ Ext w w2, fun _ _ a _ => s.length - a.toNat, ⟨[], ps, 0, rfl, rfl, rfl, hsep, Nat.zero_le _, hs.symm, Own.nil _ _ _ _, hE1⟩, ?_⟩
 rintro l _ _ w2 ⟨dn, td, k, rfl, rfl, hps, hst, hk, hd, hO, hE2⟩
 have hdn : dn.length ≤ 100000 := by
  have := hnum ps hok
  rw [hs, hps, List.length_append] at this; omega
 have hln : l.n = dn.length := by simpa using hO.len
 -- a piece more
 have more : ∀ {w3 w4 : World} {B53 B60 : Nat} {c : List Value} {K : Value → World → Prop}, Ext w2 w3 → New w3 B53 w4 → New w3 B60 w4 → Ext w3 w4 → Box w4 B60 51 c → c.length = 5 → (∀ u ∈ ([c].flatten), u.oneCell' = true) →
   (∀ (l' : Sl) (w5 : World), Own (List.range w.heap.size) w5 l' 5 51 (dn.map tkc ++ [c]) → Ext w w5 → K l'.v w5) →
   RunK Tryz.prog (Builtin.append_ #[22, 22] 22 #[Sl.v l, Sl.v (Sl.mk (some ⟨B60, 0, none⟩) 1 1)]) w4 [B53] K := fun {w3 w4 B53 B60 c K} hE3 hN53 hN60 hE4 hB hc h1 kk => by
  have hO4 : Own (B53 :: List.range w.heap.size) w4 l 5 51 (dn.map tkc) := ((hO.ext hE3).ext hE4).cons fun hm => by
   have := ((hO.ext hE3).blk _ hm).2
   have := hN53.ge
   omega
  have hEw : Ext w w4 := (hE2.trans hE3).trans hE4
  refine App.runK Tryz.underlying22 ti_51 rfl (by decide) (.inl hO4) (fun b hb => ?_) (Own.many (us := [c]) (by simpa using hB) (by simpa using hc) (by simp [maxLen]) (by simp)).row h1 (by simp) (by simp [maxLen]; omega) (by simp; omega) (by simp) fun l' w5 hO5 hC5 _ => ?_
  ·rcases List.mem_cons.1 hb with rfl | hb
   ·exact hN53.lt
   ·have := List.mem_range.1 hb; have := hEw.size; omega
  ·refine kk l' w5 (hO5.less fun b hb => List.mem_cons_of_mem _ hb) (Chg.fresh hEw hC5 fun x hx => ?_)
   have := (hO.blk x (Sl.own_blk hx)).1
   rcases Nat.lt_or_ge x w.heap.size with h | h
   ·exact absurd (List.mem_range.2 h) this
   ·exact h
 cases td with
 |nil =>
  have hkl : k = s.length := by
   have := drop_len hd hk
   simpa [srcs] using this
  subst hkl
  refine CallK.exact nextEnd fun w3 hE3 => ⟨_, _, _, _, _, _, _, rfl, fun h => (by cases h), fun _ w4 B53 B60 hN53 hN60 _ hE4 hB => ?_⟩
  refine more hE3 hN53 hN60 hE4 hB rfl tkc0_one fun l' w5 hO5 hE5 => ⟨l', rfl, fun _ => ⟨hE5, l', rfl, ?_⟩, fun h => absurd rfl h⟩
  rw [hps, List.append_nil]
  exact hO5.row.less (by simp)
 |cons p td =>
  have hp : p.Ok := hok p (by rw [hps]; simp)
  have hpm : p ∈ ps := by rw [hps]; simp
  rw [srcs_cons] at hd
  have hlen := drop_len hd hk
  rw [List.length_append] at hlen
  refine CallK.exact (nextC (hQ hq hE2) hQ hd hk hp (sep_next hst fun q hq => hok q (by rw [hps]; simp [hq])) (by omega) (hn p hpm) hlow) fun w3 hE3 => ⟨_, _, _, _, _, _, _, rfl, fun h => (by cases h), fun _ w4 B53 B60 hN53 hN60 _ hE4 hB => ?_⟩
  refine more hE3 hN53 hN60 hE4 hB rfl (tkc_one p) fun l' w5 hO5 hE5 => ⟨l', rfl, fun h => ?_, fun _ => ⟨0, fun h => hraw p hpm h w5 (hQ hq hE5), fun w6 hE6 => ?_⟩⟩
  ·cases p <;> simp [Pc.kind] at h
  ·have hr : (bif ((decide (p.kind = 1)) && (decide ((0 : Int) < 0))) then p.name else (bif ((decide (p.kind = 1)) || ((decide (p.kind = 2)) && (decide (p.name = ([] : Str))))) then ([] : Str) else ([] : Str))) = ([] : Str) := by
    cases decide (p.kind = 1) <;> cases decide (p.kind = 2) <;> cases decide (p.name = ([] : Str)) <;> rfl
   have hpos : 0 < p.src.length := by
    have := hnum [p] (by simpa using hp)
    simp [srcs] at this; omega
   rw [hr]
   refine ⟨⟨dn ++ [p], td, k + p.src.length, rfl, rfl, by rw [hps]; simp, hst.2, by omega, (drop_app hd).1, by rw [List.map_append]; exact hO5.ext hE6, hE5.trans hE6⟩, ?_⟩
   dsimp only; omega
end
section
open Go.RowKit
namespace Ev
noncomputable section
def retV (r : Option (AV × AH)) : Option AV := match r with
 |some (v, _) => some v
 |none => none
theorem closedV {f : FuncId} {vs : List AV} {args : List Value} {v : AV} (h : retV (runT ftb f vs H00) = some v) (hvs : All2 (AV.v fun _ => none) vs args) {w : World} (hw : WP w) : Calls Tryz.prog f args.toArray w (Ret fun u w' => Ext w w' ∧ ∃ E, v.v E u) := by
 unfold retV at h
 split at h
 ·rename_i v' H hr
  injection h with h; subst h
  obtain ⟨_, hb⟩ := runT_ok ftb_ok hr
  refine (hb (fun g hg => absurd hg (Nat.not_lt_zero g)) (HR.start hw) hvs).2.mono fun e w' hx => ?_
  cases e with
  |returned u =>
   obtain ⟨E', _, _, h3, h4⟩ := hx
   exact ⟨h3.ch.ext, E', h4⟩
  |_ => exact hx.elim
 ·cases h
theorem nat_str (x : Str) : (x.map UInt8.toNat).map UInt8.ofNat = x ∧ ∀ n ∈ x.map UInt8.toNat, n < 256 := by
 constructor
 ·rw [List.map_map]
  conv => rhs; rw [← List.map_id x]
  exact List.map_congr_left fun b _ => by simp
 ·intro n hn
  obtain ⟨b, _, rfl⟩ := List.mem_map.1 hn
  exact b.toNat_lt
def ns (x : Str) : List Nat := x.map UInt8.toNat
theorem sv_str (E : En) (x : Str) : (AC.s (ns x)).v E (.string (Bs x)) := by
 obtain ⟨h1, h2⟩ := nat_str x
 exact ⟨by unfold ns; rw [h1], h2⟩
theorem closed_str {f : FuncId} {x y : Str} (h : retV (runT ftb f [.c (.s (ns x))] H00) = some (.c (.s (ns y)))) {w : World} (hw : WP w) : Calls Tryz.prog f #[.string (Bs x)] w (Ret fun u w' => Ext w w' ∧ u = .string (Bs y)) :=
 (closedV h (.cons (sv_str (fun _ => none) x) .nil) hw).mono fun e w' hx => by
  cases e with
  |returned u =>
   obtain ⟨hE, E, hu, _⟩ := hx
   exact ⟨hE, by rw [hu]; unfold ns; rw [(nat_str y).1]⟩
  |_ => exact hx.elim
theorem closed_int {f : FuncId} {x : Str} {n : Int} (h : retV (runT ftb f [.c (.s (ns x))] H00) = some (.c (.i .i64 n))) {w : World} (hw : WP w) : Calls Tryz.prog f #[.string (Bs x)] w (Ret fun u w' => Ext w w' ∧ u = .int .i64 n) :=
 (closedV h (.cons (sv_str (fun _ => none) x) .nil) hw).mono fun e w' hx => by
  cases e with
  |returned u =>
   obtain ⟨hE, E, hu⟩ := hx
   exact ⟨hE, hu⟩
  |_ => exact hx.elim
def tkA (p : Pc) : List AC := [.i .i64 p.kind, .s (ns p.name), .s (ns p.text), .sl none 0 0 0, .b false]
def tkA0 : List AC := [.i .i64 6, .s [], .s [], .sl none 0 0 0, .b false]
theorem tkA_v (E : En) (p : Pc) : (AV.a (tkA p)).v E (.agg #[.int .i64 p.kind, .string (Bs p.name), .string (Bs p.text), Sl.v Sl.nil, .bool false]) :=
 ⟨tkc p, rfl, .cons rfl (.cons (sv_str E p.name) (.cons (sv_str E p.text) (.cons ⟨rfl, rfl, rfl⟩ (.cons rfl .nil))))⟩
theorem tkA0_v (E : En) : (AV.a tkA0).v E (.agg #[.int .i64 6, .string (Bs ([] : Str)), .string (Bs ([] : Str)), Sl.v Sl.nil, .bool false]) :=
 ⟨tkc0, rfl, .cons rfl (.cons (sv_str E []) (.cons (sv_str E []) (.cons ⟨rfl, rfl, rfl⟩ (.cons rfl .nil))))⟩
def madeOk (S : AH) : Bool := match S.at 0 with
 |some (_, _ :: _ :: .i .i64 (.ofNat m) :: _, _) => Nat.ble m 300
 |_ => false
theorem made_cell {S : AH} {F : List Nat} {b : Nat} {w : World} (h : BSt S F b w) (hm : madeOk S = true) : ∃ x : Int, w.cell? ((⟨b, 0, none⟩ : Addr).add 2) = some (.int .i64 x) ∧ ¬ (300 < x) := by
 unfold madeOk at hm
 split at hm
 ·rename_i T x y m r l hat
  obtain ⟨E, h⟩ := h
  obtain ⟨v, h1, rfl⟩ := h.cell hat (j := 2) rfl
  refine ⟨_, by rw [Addr.add_lit]; exact h1, ?_⟩
  rw [Nat.ble_eq] at hm
  intro h
  have : ((m : Nat) : Int) ≤ 300 := by omega
  exact absurd h (by simpa using this)
 ·cases hm
structure PStep (S : AH) (p : Pc) (S' : AH) : Prop where
 made : madeOk S = true
 cnt : retV (runT ftb 20 [.a (tkA p)] H00) = some (.c (.b true))
 step : stepM (runT ftb) 21 [.a (tkA p)] S = some S'
inductive Path : AH → List Pc → AH → Prop
 |nil (S : AH) : Path S [] S
 |cons {S S' S2 : AH} {p : Pc} {ps : List Pc} (h : PStep S p S') (t : Path S' ps S2) : Path S (p :: ps) S2
theorem Path.app {S S' S2 : AH} {ps qs : List Pc} (h : Path S ps S') (k : Path S' qs S2) : Path S (ps ++ qs) S2 := by
 induction h with
 |nil => exact k
 |cons h _ ih => exact .cons h (ih k)
def finT (S : AH) : Option T := match S.at 0 with
 |some (_, .p (some (r, 0)) :: _, _) => (match runT ftb 22 [.c (.p (some (r, 0)))] S with
  |some (v, H) => (match gcV v H with
   |some (v1, S1) => treeT S1 v1
   |none => none)
  |none => none)
 |_ => none
def initS : AH := mkH [.cells 60 [.p (some (1, 0)), .p none, .i .i64 1, .sl none 0 0 0, .p (some (2, 0)), .i .i64 0, .b false, .b false] .own,
 .cells 56 [.i .i64 0, .i .i64 1, .s [], .s [], .sl none 0 0 0, .p none, .sl none 0 0 0] .own, .cells 73 [.sl none 0 0 0] .own]
theorem newC {w : World} : Calls Tryz.prog 19 #[] w (Ret fun v w' => Ext w w' ∧ ∃ B, v = .pointer (some ⟨B, 0, none⟩) ∧ w.heap.size ≤ B ∧ Box w' B 73 [Sl.v Sl.nil]) := by
 refine format_New.ok ?_
 unfold format_New.vc
 intro w3 B hN hE hB
 exact ⟨hE, B, rfl, hN.ge, hB⟩
theorem buildC {w : World} (hw : WP w) {ps : List Pc} {l : Sl} (hl : Row [] w l 5 (ps.map tkc ++ [tkc0])) {S S2 : AH} {t : T} (hp : Path initS ps S) (h0 : stepM (runT ftb) 21 [.a tkA0] S = some S2) (hm2 : madeOk S2 = true) (ht : finT S2 = some t) (hck : t.check = true) (hbk : t.bulk ≤ 1099511627776) :
  Calls Tryz.prog 11 #[l.v] w (Ret fun v w' => Ext w w' ∧ ∃ sk : Sl, v = .tuple #[tv t Sl.nil sk, .int .i64 0] ∧ RdQ w' t Sl.nil sk) := by
 have hrun : RunOk Tryz.prog 0 (runT ftb) := runT_ok ftb_ok
 have hln : l.n = ps.length + 1 := by simpa using hl.len
 have hmost : l.n ≤ maxLen := Nat.le_trans hl.cap hl.most
 simp only [maxLen] at hmost
 have htab := table_lt hw
 refine build_Build.ok _ ?_
 unfold build_Build.vc
 intro w6 B2 B5 hN2 hN5 hne hE6
 refine CallK.ext newC ?_
 rintro _ w8 hE8 ⟨BL, rfl, hBL, hboxL⟩
 refine ⟨_, rfl, fun w10 B9 hN9 hE10 => ?_⟩
 have hE : Ext w w10 := (hE6.trans hE8).trans hE10
 have h2 := hN2.ge
 have h2' := hN2.lt
 have h5 := hN5.ge
 have h5' := hN5.lt
 have h9 := hN9.ge
 have hLlt := hboxL.lt
 have s6 := hE6.size
 have s8 := hE8.size
 have s10 := hE10.size
 refine ⟨fun w' => ∃ F, BSt S F B9 w' ∧ (∀ x ∈ F, w.heap.size ≤ x ∧ x ≠ B2) ∧ B2 < w'.heap.size ∧ Ext w w', fun hb5 hb9 => ?_, ?_⟩
 ·refine ⟨fun x w' => ∃ (dn td : List Pc) (S' : AH) (F : List Nat), x = (dn.length : Int) ∧ ps = dn ++ td ∧ Path S' td S ∧ BSt S' F B9 w' ∧ (∀ x ∈ F, w.heap.size ≤ x ∧ x ≠ B2) ∧ B2 < w'.heap.size ∧ Ext w w', fun x _ => l.n - x.toNat, ⟨[], ps, initS, [B9, B5, BL], rfl, rfl, hp, ?_, ?_, by omega, hE⟩, ?_⟩
  ·have hwp : WP w10 := WP.ext hw hE
   have hq : HR (bkE [⟨B9, 60, [.p (some (1, 0)), .p none, .i .i64 1, .sl none 0 0 0, .p (some (2, 0)), .i .i64 0, .b false, .b false], [.pointer (some (⟨B5, 0, none⟩ : Addr)), .pointer none, .int .i64 1, Sl.v Sl.nil, .pointer (some ⟨BL, 0, none⟩), .int .i64 0, .bool false, .bool false]⟩,
     ⟨B5, 56, [.i .i64 0, .i .i64 1, .s [], .s [], .sl none 0 0 0, .p none, .sl none 0 0 0], [.int .i64 0, .int .i64 1, .string (Bs ([] : Str)), .string (Bs ([] : Str)), Sl.v Sl.nil, .pointer none, Sl.v Sl.nil]⟩,
     ⟨BL, 73, [.sl none 0 0 0], [Sl.v Sl.nil]⟩]) initS (F0 w10 [B9, B5, BL]) w10 := by
    refine bkH_ok hwp ?_ ?_ ?_ ?_
    ·simp only [List.mem_cons, List.not_mem_nil, or_false, not_or]; omega
    ·simp
    ·intro i j x y hij hx hy
     rcases i with _ | _ | _ | i <;> rcases j with _ | _ | _ | j <;> simp at hx hy hij ⊢ <;> subst hx <;> subst hy <;> simp only <;> omega
    ·intro x hx
     have z : ∀ E : En, (AC.sl none 0 0 0).v E (Sl.v Sl.nil) := fun E => ⟨rfl, rfl, rfl⟩
     simp only [List.mem_cons, List.not_mem_nil, or_false] at hx
     rcases hx with rfl | rfl | rfl
     ·exact ⟨hb9, Pre.all2 (.cons ⟨B5, 7, rfl, rfl⟩ (.cons rfl (.cons rfl (.cons (z _) (.cons ⟨BL, 1, rfl, rfl⟩ (.cons rfl (.cons rfl (.cons rfl .nil))))))))⟩
     ·exact ⟨hb5, Pre.all2 (.cons rfl (.cons rfl (.cons (sv_str _ []) (.cons (sv_str _ []) (.cons (z _) (.cons rfl (.cons (z _) .nil)))))))⟩
     ·exact ⟨hboxL.ext hE10, Pre.all2 (.cons (z _) .nil)⟩
   refine ⟨_, ⟨8, rfl⟩, fun n p hn => ?_, hq, fun x hx => ?_⟩
   ·rcases n with _ | _ | _ | n <;> simp [bkE] at hn <;> subst hn <;> simp
   ·simp only [List.mem_cons, List.not_mem_nil, or_false] at hx
    rcases hx with rfl | rfl | rfl
    ·exact hN9.lt
    ·have := hE10.size; omega
    ·have := hE10.size; omega
  ·intro x hx
   simp only [List.mem_cons, List.not_mem_nil, or_false] at hx
   rcases hx with rfl | rfl | rfl
   ·exact ⟨by omega, by omega⟩
   ·exact ⟨by omega, fun e => hne e.symm⟩
   ·exact ⟨by omega, by omega⟩
  ·rintro _ w98 ⟨dn, td, S', F, rfl, hps, hpt, hS, hF, hB2, hE98⟩
   have hdn : dn.length ≤ ps.length := by rw [hps]; simp
   refine ⟨fun hlt => ⟨⟨by omega, hlt⟩, ?_⟩, fun hge => by omega⟩
   rw [Int.toNat_natCast]
   obtain ⟨p, hpa, _, hc, _⟩ := (hl.ext hE98).at_ dn.length (by simp; omega)
   refine ⟨p, hpa, ?_⟩
   cases td with
   |nil =>
    have e : (ps.map tkc ++ [tkc0]).getD dn.length [] = tkc0 := by
     rw [hps, List.append_nil, List.getD_eq_getElem?_getD, List.getElem?_append_right (by simp)]; simp
    rw [e] at hc
    cases hpt
    refine ⟨_, _, _, _, _, hc, fun w122 B120 hN hE122 => ⟨0, fun h => absurd rfl h, fun _ => ⟨F, hS.ext hE122, hF, Nat.lt_of_lt_of_le hB2 hE122.size, hE98.trans hE122⟩, fun h => absurd rfl h.1⟩⟩
   |cons q td =>
    have e : (ps.map tkc ++ [tkc0]).getD dn.length [] = tkc q := by
     rw [hps, List.getD_eq_getElem?_getD, List.getElem?_append_left (by simp)]; simp
    rw [e] at hc
    cases hpt with
    |@cons _ S1 _ _ _ hst hrest =>
    refine ⟨_, _, _, _, _, hc, fun w122 B120 hN hE122 => ?_⟩
    have hS1 := hS.ext hE122
    obtain ⟨x, hx1, hx2⟩ := made_cell hS1 hst.made
    have hk6 : ¬ q.kind = 6 := by cases q <;> simp [Pc.kind]
    refine ⟨x, fun _ => hx1, fun h => ?_, fun _ => ?_⟩
    ·rcases h with h | h
     ·exact absurd h hk6
     ·exact absurd h hx2
    have hwp : WP w122 := WP.ext hw (hE98.trans hE122)
    refine CallK.ext (closedV hst.cnt (.cons (tkA_v _ q) .nil) hwp) ?_
    rintro _ w128 hE128 ⟨E0, rfl⟩
    refine ⟨true, rfl, fun _ => ?_, fun h => by cases h⟩
    have hS2 := hS1.ext hE128
    have hlt98 : ∀ x ∈ F, x < w98.heap.size := by obtain ⟨E, h⟩ := hS; exact h.lt
    refine CallK.chg (hS2.step hrun (fun E => .cons (tkA_v E q) .nil) hst.step) (fun b hb => ?_) ?_
    ·simp only [List.mem_cons, List.not_mem_nil, or_false] at hb
     rcases hb with rfl | rfl
     ·exact fun hm => (hF _ hm).2 rfl
     ·exact fun hm => by have := hlt98 _ hm; have := hN.ge; omega
    ·rintro _ w130 hC ⟨⟨F', hS', hF'⟩, rfl⟩
     have hEw : Ext w w128 := (hE98.trans hE122).trans hE128
     have hEw' : Ext w w130 := Chg.fresh hEw hC fun x hx => (hF x hx).1
     refine ⟨rfl, ⟨by omega, by omega⟩, ⟨dn ++ [q], td, S1, F', by simp, by rw [hps]; simp, hrest, hS', fun x hx => ?_, ?_, hEw'⟩, by dsimp only; omega⟩
     ·rcases hF' x hx with h | h
      ·exact hF x h
      ·have := hE122.size; have := hE128.size; have := hEw.size
       exact ⟨by omega, by omega⟩
     ·have := hE122.size; have := hE128.size; have := hC.size; omega
 ·rintro w73 ⟨F, hS, hF, hB2, hE73⟩
  refine CallK.chg (hS.step hrun (fun E => .cons (tkA0_v E) .nil) h0) (fun b hb => ?_) ?_
  ·simp only [List.mem_cons, List.not_mem_nil, or_false] at hb
   subst hb
   exact fun hm => (hF _ hm).2 rfl
  ·rintro _ w135 hC ⟨⟨F2, hS2, hF2⟩, rfl⟩
   have hE135 : Ext w w135 := Chg.fresh hE73 hC fun x hx => (hF x hx).1
   have hB2' : B2 < w135.heap.size := Nat.lt_of_lt_of_le hB2 hC.size
   have hF2' : ∀ x ∈ F2, w.heap.size ≤ x ∧ x ≠ B2 := fun x hx => by
    rcases hF2 x hx with h | h
    ·exact hF x h
    ·have := hE73.size; exact ⟨by omega, by omega⟩
   obtain ⟨x, hx1, hx2⟩ := made_cell hS2 hm2
   refine ⟨rfl, x, hx1, fun h => absurd h hx2, fun _ => ?_⟩
   obtain ⟨E, hB⟩ := hS2
   unfold finT at ht
   split at ht
   ·rename_i T0 r rest lk hat
    split at ht
    ·rename_i v H hr
     split at ht
     ·rename_i v1 S1 hg
      obtain ⟨hg1, hv1⟩ := gcV_ok hg
      obtain ⟨u0, hu1, hu2⟩ := hB.cell hat (j := 0) rfl
      obtain ⟨Br, nr, hEr, rfl⟩ := hu2
      refine ⟨_, by rw [Addr.add_lit]; exact hu1, ?_⟩
      refine CallK.chg (F := F2) (Ret.mono (hB.call hrun (.cons (show AV.v E (.c (.p (some (r, 0)))) (.pointer (some ⟨Br, 0, none⟩)) from ⟨Br, nr, hEr, rfl⟩) .nil) hr hg1) fun u w' h => h) (fun b hb => ?_) ?_
      ·simp only [List.mem_cons, List.not_mem_nil, or_false] at hb
       subst hb
       exact fun hm => (hF2' _ hm).2 rfl
      ·rintro u w143 hC143 ⟨F3, E3, E3', hB3, hF3, _, hu, hren⟩
       have hu1' := hren _ _ _ hv1 hu
       obtain ⟨sk, rfl, hq⟩ := treeT_ok hB3.hr ht hu1'
       have hE143 : Ext w w143 := Chg.fresh hE135 hC143 fun x hx => (hF2' x hx).1
       have hF3' : ∀ x ∈ F3, w.heap.size ≤ x ∧ x ≠ B2 := fun x hx => by
        rcases hF3 x hx with h | h
        ·exact hF2' x h
        ·have := hE135.size; exact ⟨by omega, by omega⟩
       refine ⟨_, _, _, _, _, rfl, fun w146 B144 hN144 hE146 => ?_⟩
       refine CallK.exact (treeCheckQ t hbk (hq.ext hE146)) fun w149 hE149 => ?_
       rw [hck]
       refine ⟨true, rfl, fun h => (by cases h), fun _ w153 hC153 => ⟨Chg.fresh ((hE143.trans hE146).trans hE149) hC153 (by simpa using h2), ?_⟩⟩
       have hB6 := ((hB3.ext hE146).ext hE149).chg hC153 (fun x hx => by simpa using (hF3' x hx).2) (by simp; omega)
       obtain ⟨sk', e, hq⟩ := treeT_ok hB6.hr ht hu1'
       refine ⟨sk', ?_, hq⟩
       rw [← e]; rfl
     ·cases ht
    ·cases ht
   ·cases ht
end
end Ev
end
section
open Go.RowKit
def KQ (w : World) (ks : List T) (s : Sl) : Prop := s.n = ks.length ∧ ∀ i, i < ks.length → ∃ p sa sk, s.a = some p ∧ Cells w (p.add (i * 5)) (tc (ks.getD i T.nul) (sa, sk)) ∧ RdQ w (ks.getD i T.nul) sa sk
theorem KQ.ext {w w' : World} {ks : List T} {s : Sl} (h : KQ w ks s) (c : Ext w w') : KQ w' ks s := ⟨h.1, fun i hi => by
 obtain ⟨p, sa, sk, h1, h2, h3⟩ := h.2 i hi
 exact ⟨p, sa, sk, h1, h2.chgE c, h3.ext c⟩⟩
theorem srcs_app (ps qs : List Pc) : srcs (ps ++ qs) = srcs ps ++ srcs qs := by simp [srcs]
namespace Ev
noncomputable section
structure PcG (p : Pc) : Prop where
 ok : p.Ok
 nm : (∀ x, p ≠ .t x) → retV (runT ftb 83 [.c (.s (ns p.name))] H00) = some (.c (.s (ns p.name)))
 raw : p.kind = 1 → retV (runT ftb 30 [.c (.s (ns p.name))] H00) = some (.c (.i .i64 0))
structure Srcs (ps : List Pc) : Prop where
 g : ∀ p ∈ ps, PcG p
 sep : Sep ps
 len : (srcs ps).length ≤ 100000
theorem low_closed : retV (runT ftb 46 [.c (.s (ns [60, 47]))] H00) = some (.c (.s (ns [60, 47]))) := by kernel_rfl
theorem allG {w : World} (hw : WP w) {ps : List Pc} (h : Srcs ps) : Calls Tryz.prog 16 #[.string (Bs (srcs ps))] w (Ret fun v w' => Ext w w' ∧ ∃ l : Sl, v = l.v ∧ Row [] w' l 5 (ps.map tkc ++ [tkc0])) :=
 allC hw (fun h c => WP.ext h c) ps (fun p hp => (h.g p hp).ok) h.sep h.len (fun p hp hx _ hw => closed_str ((h.g p hp).nm hx) hw) (fun p hp hx _ hw => closed_int ((h.g p hp).raw hx) hw) (fun _ hw => closed_str low_closed hw)
structure Runs (ps : List Pc) (t : T) : Prop where
 src : Srcs ps
 ex : ∃ S S2, Path initS ps S ∧ stepM (runT ftb) 21 [.a tkA0] S = some S2 ∧ madeOk S2 = true ∧ finT S2 = some t
 chk : t.check = true
 bulk : t.bulk ≤ 1099511627776
theorem buildS {w : World} (hw : WP w) {ps : List Pc} {t : T} (h : Runs ps t) {l : Sl} (hl : Row [] w l 5 (ps.map tkc ++ [tkc0])) : Calls Tryz.prog 11 #[l.v] w (Ret fun v w' => Ext w w' ∧ ∃ sk : Sl, v = .tuple #[tv t Sl.nil sk, .int .i64 0] ∧ RdQ w' t Sl.nil sk) := by
 obtain ⟨S, S2, h1, h2, h3, h4⟩ := h.ex
 exact buildC hw hl h1 h2 h3 h4 h.chk h.bulk
def elT (nm : Str) (ks : List T) : T := .node 2 nm [] [] ks
def txT (x : Str) : T := .node 3 [] x [] []
def pageT (hd ks : List T) : T := .node 1 [] [] [] [elT [104, 116, 109, 108] [elT [104, 101, 97, 100] hd, elT [98, 111, 100, 121] ks]]
end
end Ev
end
section
namespace Ev
set_option autoImplicit false
set_option maxRecDepth 100000
noncomputable section
def ptN (n : Nat) : AC := .p (some (n, 0))
def ksN (b n : Nat) : AC := .sl (some (b, 0)) n n 1
def nlN : AC := .sl none 0 0 0
def ndE (id : Nat) (nm : List Nat) (par : AC) (kids : AC) : AO := .cells 56 [.i .i64 (.ofNat id), .i .i64 2, .s nm, .s [], nlN, par, kids] .own
def ndX (id : Nat) (x : List Nat) (par : AC) : AO := .cells 56 [.i .i64 (.ofNat id), .i .i64 3, .s [], .s x, nlN, par, nlN] .own
def rowN (l : List AC) : AO := .cells 53 l .own
def baseN (made : Nat) (op : AC) (li : Nat) : List AO := [.cells 60 [ptN 1, ptN 5, .i .i64 (.ofNat made), op, ptN li, .i .i64 5, .b false, .b false] .own,
 .cells 56 [.i .i64 0, .i .i64 1, .s [], .s [], nlN, .p none, ksN 2 1] .own, rowN [ptN 3],
 ndE 2 [104, 116, 109, 108] (ptN 1) (ksN 4 2), rowN [ptN 5, ptN 6], ndE 3 [104, 101, 97, 100] (ptN 3) nlN]
abbrev sTok (f : AC) (S : AH) : Option AH := stepM (runT ftb) 21 [.a [.i .i64 1, f, .s [], .sl none 0 0 0, .b false]] S
abbrev eTok (f : AC) (S : AH) : Option AH := stepM (runT ftb) 21 [.a [.i .i64 2, f, .s [], .sl none 0 0 0, .b false]] S
abbrev xTok (f : AC) (S : AH) : Option AH := stepM (runT ftb) 21 [.a [.i .i64 3, .s [], f, .sl none 0 0 0, .b false]] S
def AllL {α : Type} (p : α → Prop) (l : List α) : Prop := List.rec True (fun x _ ih => p x ∧ ih) l
theorem AllL.mem {α : Type} {p : α → Prop} : ∀ {l : List α}, AllL p l → ∀ x ∈ l, p x
 |[], _, x, hx => by cases hx
 |y :: l, h, x, hx => by
  rcases List.mem_cons.1 hx with rfl | hx
  ·exact h.1
  ·exact AllL.mem h.2 x hx
def S0 : AH := mkH (baseN 4 (ksN 7 2) 8 ++ [ndE 4 [98, 111, 100, 121] (ptN 3) nlN, rowN [ptN 3, ptN 6], .cells 73 [nlN] .own])
theorem body_step : stepM (runT ftb) 21 [.a (tkA (.s [98, 111, 100, 121]))] initS = some S0 := by kernel_rfl
def twoP (nm x : AC) (S : AH) : Option AH := match sTok nm S with
 |some S1 => cond (madeOk S1) (xTok x S1) none
 |none => none
def itN (l : List (List Nat × List Nat)) : Nat → Nat → List AO := List.rec (fun _ _ => []) (fun p _ ih id k => ndE id p.1 (ptN 6) (ksN (Nat.succ k) 1) :: rowN [ptN (Nat.add k 2)] :: ndX (Nat.succ id) p.2 (ptN k) :: ih (Nat.add id 2) (Nat.add k 3)) l
def pt3 (n : Nat) : Nat → List AC := Nat.rec (fun _ => []) (fun _ ih k => ptN k :: ih (Nat.add k 3)) n
def hS (l : List (List Nat × List Nat)) (n o : Nat) : AH := match n with
 |0 => S0
 |Nat.succ m => mkH (baseN (Nat.add 4 (Nat.mul 2 n)) (.sl (some (Nat.add 8 (Nat.mul 3 n), 0)) o 3 1) (Nat.add 9 (Nat.mul 3 n)) ++ ndE 4 [98, 111, 100, 121] (ptN 3) (ksN 7 n) :: rowN (pt3 n 8) :: (itN l 5 8 ++ [rowN [ptN 3, ptN 6, ptN (Nat.add 8 (Nat.mul 3 m))], .cells 73 [nlN] .own]))
def itT (l : List (List Nat × List Nat)) : List T := List.rec [] (fun p _ ih => elT (txt p.1) [txT (txt p.2)] :: ih) l
end
end Ev
end
section
namespace Ev
set_option autoImplicit false
set_option maxRecDepth 100000
noncomputable section
def pX (n : Nat) : List (List Nat × List Nat) := (List.range n).map fun i => ([112], [Nat.add 97 i])
def pK : List Nat := [0, 1, 2, 3, 4, 5, 6, 7, 8, 9, 10, 11, 12, 13, 14, 15, 16, 17, 18, 19]
theorem pA : AllL (fun k => twoP (.s [112]) (.s [Nat.add 97 k]) (hS (pX k) k 2) = some (hS (pX (Nat.succ k)) (Nat.succ k) 3)) pK := ⟨by show _ = _; kernel_rfl, by show _ = _; kernel_rfl, by show _ = _; kernel_rfl, by show _ = _; kernel_rfl, by show _ = _; kernel_rfl, by show _ = _; kernel_rfl, by show _ = _; kernel_rfl, by show _ = _; kernel_rfl, by show _ = _; kernel_rfl, by show _ = _; kernel_rfl, by show _ = _; kernel_rfl, by show _ = _; kernel_rfl, by show _ = _; kernel_rfl, by show _ = _; kernel_rfl, by show _ = _; kernel_rfl, by show _ = _; kernel_rfl, by show _ = _; kernel_rfl, by show _ = _; kernel_rfl, by show _ = _; kernel_rfl, by show _ = _; kernel_rfl, trivial⟩
theorem pB : AllL (fun k => twoP (.s [112]) (.s [Nat.add 97 k]) (hS (pX k) k 3) = some (hS (pX (Nat.succ k)) (Nat.succ k) 3)) pK := ⟨by show _ = _; kernel_rfl, by show _ = _; kernel_rfl, by show _ = _; kernel_rfl, by show _ = _; kernel_rfl, by show _ = _; kernel_rfl, by show _ = _; kernel_rfl, by show _ = _; kernel_rfl, by show _ = _; kernel_rfl, by show _ = _; kernel_rfl, by show _ = _; kernel_rfl, by show _ = _; kernel_rfl, by show _ = _; kernel_rfl, by show _ = _; kernel_rfl, by show _ = _; kernel_rfl, by show _ = _; kernel_rfl, by show _ = _; kernel_rfl, by show _ = _; kernel_rfl, by show _ = _; kernel_rfl, by show _ = _; kernel_rfl, by show _ = _; kernel_rfl, trivial⟩
theorem pE : AllL (fun k => eTok (.s [112]) (hS (pX (Nat.succ k)) (Nat.succ k) 3) = some (hS (pX (Nat.succ k)) (Nat.succ k) 2)) pK := ⟨by show _ = _; kernel_rfl, by show _ = _; kernel_rfl, by show _ = _; kernel_rfl, by show _ = _; kernel_rfl, by show _ = _; kernel_rfl, by show _ = _; kernel_rfl, by show _ = _; kernel_rfl, by show _ = _; kernel_rfl, by show _ = _; kernel_rfl, by show _ = _; kernel_rfl, by show _ = _; kernel_rfl, by show _ = _; kernel_rfl, by show _ = _; kernel_rfl, by show _ = _; kernel_rfl, by show _ = _; kernel_rfl, by show _ = _; kernel_rfl, by show _ = _; kernel_rfl, by show _ = _; kernel_rfl, by show _ = _; kernel_rfl, by show _ = _; kernel_rfl, trivial⟩
theorem pm2 : AllL (fun k => madeOk (hS (pX k) k 2) = true) pK := ⟨by show _ = _; kernel_rfl, by show _ = _; kernel_rfl, by show _ = _; kernel_rfl, by show _ = _; kernel_rfl, by show _ = _; kernel_rfl, by show _ = _; kernel_rfl, by show _ = _; kernel_rfl, by show _ = _; kernel_rfl, by show _ = _; kernel_rfl, by show _ = _; kernel_rfl, by show _ = _; kernel_rfl, by show _ = _; kernel_rfl, by show _ = _; kernel_rfl, by show _ = _; kernel_rfl, by show _ = _; kernel_rfl, by show _ = _; kernel_rfl, by show _ = _; kernel_rfl, by show _ = _; kernel_rfl, by show _ = _; kernel_rfl, by show _ = _; kernel_rfl, trivial⟩
theorem ps2 : AllL (fun k => stepM (runT ftb) 21 [.a tkA0] (hS (pX k) k 2) = some (hS (pX k) k 2)) pK := ⟨by show _ = _; kernel_rfl, by show _ = _; kernel_rfl, by show _ = _; kernel_rfl, by show _ = _; kernel_rfl, by show _ = _; kernel_rfl, by show _ = _; kernel_rfl, by show _ = _; kernel_rfl, by show _ = _; kernel_rfl, by show _ = _; kernel_rfl, by show _ = _; kernel_rfl, by show _ = _; kernel_rfl, by show _ = _; kernel_rfl, by show _ = _; kernel_rfl, by show _ = _; kernel_rfl, by show _ = _; kernel_rfl, by show _ = _; kernel_rfl, by show _ = _; kernel_rfl, by show _ = _; kernel_rfl, by show _ = _; kernel_rfl, by show _ = _; kernel_rfl, trivial⟩
theorem ptt2 : AllL (fun k => finT (hS (pX k) k 2) = some (pageT [] (itT (pX k)))) pK := ⟨by show _ = _; kernel_rfl, by show _ = _; kernel_rfl, by show _ = _; kernel_rfl, by show _ = _; kernel_rfl, by show _ = _; kernel_rfl, by show _ = _; kernel_rfl, by show _ = _; kernel_rfl, by show _ = _; kernel_rfl, by show _ = _; kernel_rfl, by show _ = _; kernel_rfl, by show _ = _; kernel_rfl, by show _ = _; kernel_rfl, by show _ = _; kernel_rfl, by show _ = _; kernel_rfl, by show _ = _; kernel_rfl, by show _ = _; kernel_rfl, by show _ = _; kernel_rfl, by show _ = _; kernel_rfl, by show _ = _; kernel_rfl, by show _ = _; kernel_rfl, trivial⟩
theorem pm3 : AllL (fun k => madeOk (hS (pX k) k 3) = true) pK := ⟨by show _ = _; kernel_rfl, by show _ = _; kernel_rfl, by show _ = _; kernel_rfl, by show _ = _; kernel_rfl, by show _ = _; kernel_rfl, by show _ = _; kernel_rfl, by show _ = _; kernel_rfl, by show _ = _; kernel_rfl, by show _ = _; kernel_rfl, by show _ = _; kernel_rfl, by show _ = _; kernel_rfl, by show _ = _; kernel_rfl, by show _ = _; kernel_rfl, by show _ = _; kernel_rfl, by show _ = _; kernel_rfl, by show _ = _; kernel_rfl, by show _ = _; kernel_rfl, by show _ = _; kernel_rfl, by show _ = _; kernel_rfl, by show _ = _; kernel_rfl, trivial⟩
theorem ps3 : AllL (fun k => stepM (runT ftb) 21 [.a tkA0] (hS (pX k) k 3) = some (hS (pX k) k 3)) pK := ⟨by show _ = _; kernel_rfl, by show _ = _; kernel_rfl, by show _ = _; kernel_rfl, by show _ = _; kernel_rfl, by show _ = _; kernel_rfl, by show _ = _; kernel_rfl, by show _ = _; kernel_rfl, by show _ = _; kernel_rfl, by show _ = _; kernel_rfl, by show _ = _; kernel_rfl, by show _ = _; kernel_rfl, by show _ = _; kernel_rfl, by show _ = _; kernel_rfl, by show _ = _; kernel_rfl, by show _ = _; kernel_rfl, by show _ = _; kernel_rfl, by show _ = _; kernel_rfl, by show _ = _; kernel_rfl, by show _ = _; kernel_rfl, by show _ = _; kernel_rfl, trivial⟩
theorem ptt3 : AllL (fun k => finT (hS (pX k) k 3) = some (pageT [] (itT (pX k)))) pK := ⟨by show _ = _; kernel_rfl, by show _ = _; kernel_rfl, by show _ = _; kernel_rfl, by show _ = _; kernel_rfl, by show _ = _; kernel_rfl, by show _ = _; kernel_rfl, by show _ = _; kernel_rfl, by show _ = _; kernel_rfl, by show _ = _; kernel_rfl, by show _ = _; kernel_rfl, by show _ = _; kernel_rfl, by show _ = _; kernel_rfl, by show _ = _; kernel_rfl, by show _ = _; kernel_rfl, by show _ = _; kernel_rfl, by show _ = _; kernel_rfl, by show _ = _; kernel_rfl, by show _ = _; kernel_rfl, by show _ = _; kernel_rfl, by show _ = _; kernel_rfl, trivial⟩
end
end Ev
end
section
open Go.RowKit
def Nur (A : List Nat) (w : World) (s : Sl) (ts : List T) : Prop :=
 ∃ ps : List (Sl × Sl), ps.length = ts.length ∧ Own A w s 5 28 (List.zipWith tc ts ps) ∧ ∀ (i : Nat) (t : T) (p : Sl × Sl), ts[i]? = some t → ps[i]? = some p → RdT (s.blk ++ A) w t p.1 p.2
theorem Nur.nil (A : List Nat) (w : World) : Nur A w Sl.nil [] := ⟨[], rfl, Own.nil _ _ _ _, by simp⟩
theorem Nur.chg {A F : List Nat} {w w' : World} {s : Sl} {ts : List T} (h : Nur A w s ts) (c : Chg F w w') (hF : ∀ b ∈ F, b ∈ A) : Nur A w' s ts := by
 obtain ⟨ps, hl, ho, hr⟩ := h
 exact ⟨ps, hl, ho.chg c hF, fun i t p ht hp => (hr i t p ht hp).chg c (fun b hb => List.mem_append_right _ (hF b hb))⟩
theorem Nur.ext {A : List Nat} {w w' : World} {s : Sl} {ts : List T} (h : Nur A w s ts) (c : Ext w w') : Nur A w' s ts := h.chg c (by simp)
theorem Nur.less {A A' : List Nat} {w : World} {s : Sl} {ts : List T} (h : Nur A w s ts) (hA : ∀ b ∈ A', b ∈ A) : Nur A' w s ts := by
 obtain ⟨ps, hl, ho, hr⟩ := h
 exact ⟨ps, hl, ho.less hA, fun i t p ht hp => (hr i t p ht hp).less (fun b hb => by
  rcases List.mem_append.1 hb with hb | hb
  ·exact List.mem_append_left _ hb
  ·exact List.mem_append_right _ (hA b hb))⟩
theorem Nur.rd {A : List Nat} {w : World} {s sa : Sl} {ts : List T} (h : Nur A w s ts) {k : Int} {n x : Str} {ats : List (Str × Str)} (ha : Row A w sa 2 (ats.map ac)) : RdT A w (.node k n x ats ts) sa s := by
 obtain ⟨ps, hl, ho, hr⟩ := h
 exact .mk ps ha hl ho.row (fun i t p ht hp => (hr i t p ht hp).less (fun b hb => List.mem_append_right _ hb))
end
section
open Go.RowKit
def ic (z : Int) : List Value := [.int .i64 z]
inductive Calm : T → Prop where
 |node (k : Int) (n x : Str) (ats : List (Str × Str)) (ks : List T) : (∀ p ∈ ats, p.1 ≠ [122, 122]) → (∀ u ∈ ks, Calm u) → Calm (.node k n x ats ks)
structure Sprout (d : Nat) (t : T) : Prop where
 ok : nodeOk t = true
 kind : 2 ≤ t.kind ∧ t.kind ≤ 4
 deep : t.depth ≤ d
 few : t.bulk ≤ 15 * t.size
 calm : Calm t
theorem Sprout.up {d e : Nat} {t : T} (h : Sprout d t) (he : d ≤ e) : Sprout e t := ⟨h.ok, h.kind, Nat.le_trans h.deep he, h.few, h.calm⟩
end
section
open Go.RowKit
namespace Ev
theorem elT_size (nm : Str) (ks : List T) : (elT nm ks).size = 1 + (ks.map T.size).sum := T.size_eq _
theorem elT_depth (nm : Str) (ks : List T) : (elT nm ks).depth = 1 + (ks.map T.depth).foldr max 0 := T.depth_eq _
theorem elT_bulk (nm : Str) (ks : List T) : (elT nm ks).bulk = 1 + nm.length + 0 + 0 + (ks.map T.bulk).sum := T.bulk_eq _
theorem txT_size (x : Str) : (txT x).size = 1 := T.size_eq _
theorem txT_depth (x : Str) : (txT x).depth = 1 := T.depth_eq _
theorem txT_bulk (x : Str) : (txT x).bulk = 1 + 0 + x.length + 0 + 0 := T.bulk_eq _
theorem elT_ok {nm : Str} {ks : List T} (hn : nameOk nm = true) (hk : ∀ u ∈ ks, nodeOk u = true ∧ u.kind ≠ 5) : nodeOk (elT nm ks) = true := by
 rw [nodeOk_el rfl]
 have : kidsOk (elT nm ks) = true := by
  unfold kidsOk
  rw [List.all_eq_true]
  intro u hu
  obtain ⟨h1, h2⟩ := hk u hu
  rw [h1, decide_eq_false h2]; rfl
 rw [this]
 show (nameOk nm && true && (true && true) && true) = true
 rw [hn]; rfl
theorem txT_ok {x : Str} (hx : x ≠ []) (hl : x.length ≤ 4096) : nodeOk (txT x) = true := by
 rw [nodeOk_ne (t := txT x) (show (3 : Int) ≠ 2 by decide)]
 have h1 : x.isEmpty = false := by cases x with
  |nil => exact absurd rfl hx
  |cons a b => rfl
 show (true && true && (if (3 : Int) = 3 then true && !x.isEmpty && decide (x.length ≤ 4096) else _)) = true
 rw [if_pos rfl, h1, decide_eq_true hl]; rfl
theorem page_check {ks : List T} (hk : ∀ u ∈ ks, nodeOk u = true ∧ u.kind ≠ 5) (hs : (ks.map T.size).sum ≤ 290) (hd : (ks.map T.depth).foldr max 0 ≤ 50) : (pageT [] ks).check = true := by
 have h1 : nodeOk (elT [104, 101, 97, 100] []) = true := elT_ok (by decide) (by simp)
 have h2 : nodeOk (elT [98, 111, 100, 121] ks) = true := elT_ok (by decide) hk
 have h3 : nodeOk (elT [104, 116, 109, 108] [elT [104, 101, 97, 100] [], elT [98, 111, 100, 121] ks]) = true := elT_ok (by decide) fun u hu => by
  simp only [List.mem_cons, List.not_mem_nil, or_false] at hu
  rcases hu with rfl | rfl
  ·exact ⟨h1, by decide⟩
  ·exact ⟨h2, by show (2 : Int) ≠ 5; decide⟩
 have hsz : (pageT [] ks).size = 4 + (ks.map T.size).sum := by
  rw [T.size_eq]
  show 1 + ([elT _ [elT _ [], elT _ ks]].map T.size).sum = _
  simp only [List.map_cons, List.map_nil, List.sum_cons, List.sum_nil, elT_size]; omega
 have hdp : (pageT [] ks).depth ≤ 3 + (ks.map T.depth).foldr max 0 := by
  rw [T.depth_eq]
  show 1 + ([elT _ [elT _ [], elT _ ks]].map T.depth).foldr max 0 ≤ _
  simp only [List.map_cons, List.map_nil, List.foldr_cons, List.foldr_nil, elT_depth]; omega
 have hkk : kidsOk (pageT [] ks) = true := by
  unfold kidsOk
  show ([elT _ [elT _ [], elT _ ks]].all _) = true
  rw [List.all_cons, h3]
  rfl
 unfold T.check
 rw [hkk, decide_eq_true (show (pageT [] ks).size ≤ 300 by omega), decide_eq_true (show (pageT [] ks).depth ≤ 60 by omega)]
 rfl
theorem page_bulk {ks : List T} (h : (ks.map T.bulk).sum ≤ 1000000) : (pageT [] ks).bulk ≤ 1099511627776 := by
 rw [T.bulk_eq]
 show 1 + 0 + 0 + 0 + ([elT _ [elT _ [], elT _ ks]].map T.bulk).sum ≤ _
 simp only [List.map_cons, List.map_nil, List.sum_cons, List.sum_nil, elT_bulk, List.length_cons, List.length_nil]; omega
end Ev
end
section
namespace Ev
set_option autoImplicit false
open Go.RowKit
noncomputable section
theorem awake_run : good (runT ftb 10 [] H00) = true := by kernel_rfl
theorem awakeLaw {w : World} (hw : WP w) : Calls Tryz.prog 10 #[] w (Ret fun v w' => Ext w w' ∧ v = .bool true) := closed_true ftb_ok hw .nil awake_run
end
end Ev
end
section
namespace Ev
set_option autoImplicit false
set_option maxRecDepth 100000
open Go.RowKit Go.ChangeShapes Go.WideShapes Go.ChangeAt
noncomputable section
def bl (b : Bool) : List Value := [.bool b]
theorem rowB {A : List Nat} {w : World} {s : Sl} {l : List Bool} (h : Row A w s 1 (l.map bl)) {i : Nat} (hi : i < l.length) : s.n = l.length ∧ ∃ p, s.a = some p ∧ w.cell? (p.add (i * 1)) = some (.bool (l.getD i false)) := by
 refine ⟨by simpa using h.len, ?_⟩
 obtain ⟨p, hp, _, hc, _⟩ := h.at_ i (by simpa using hi)
 have e : (l.map bl).getD i [] = bl (l.getD i false) := by simp [List.getD_eq_getElem?_getD, hi]
 rw [e] at hc
 have h0 := hc 0 _ rfl
 rw [Addr.add_zero'] at h0
 exact ⟨p, hp, h0⟩
theorem pK_mem {k : Nat} (h : k < 20) : k ∈ pK := by
 have : pK = List.range 20 := by decide
 rw [this]; exact List.mem_range.2 h
def pLt (i : Nat) : Str := [UInt8.ofNat (97 + i)]
theorem p_closed : retV (runT ftb 83 [.c (.s (ns [112]))] H00) = some (.c (.s (ns [112]))) ∧ retV (runT ftb 30 [.c (.s (ns [112]))] H00) = some (.c (.i .i64 0)) ∧ retV (runT ftb 20 [.a (tkA (.s [112]))] H00) = some (.c (.b true)) ∧ retV (runT ftb 20 [.a (tkA (.e [112]))] H00) = some (.c (.b true)) := ⟨by kernel_rfl, by kernel_rfl, by kernel_rfl, by kernel_rfl⟩
theorem b_closed : retV (runT ftb 83 [.c (.s (ns [98, 111, 100, 121]))] H00) = some (.c (.s (ns [98, 111, 100, 121]))) ∧ retV (runT ftb 30 [.c (.s (ns [98, 111, 100, 121]))] H00) = some (.c (.i .i64 0)) ∧ retV (runT ftb 20 [.a (tkA (.s [98, 111, 100, 121]))] H00) = some (.c (.b true)) := ⟨by kernel_rfl, by kernel_rfl, by kernel_rfl⟩
theorem l_closed : AllL (fun k => retV (runT ftb 20 [.a (tkA (.t (pLt k)))] H00) = some (.c (.b true)) ∧ ns (pLt k) = [Nat.add 97 k] ∧ ((pLt k).all goodB = true)) pK := ⟨⟨by kernel_rfl, by kernel_rfl, by kernel_rfl⟩, ⟨by kernel_rfl, by kernel_rfl, by kernel_rfl⟩, ⟨by kernel_rfl, by kernel_rfl, by kernel_rfl⟩, ⟨by kernel_rfl, by kernel_rfl, by kernel_rfl⟩, ⟨by kernel_rfl, by kernel_rfl, by kernel_rfl⟩, ⟨by kernel_rfl, by kernel_rfl, by kernel_rfl⟩, ⟨by kernel_rfl, by kernel_rfl, by kernel_rfl⟩, ⟨by kernel_rfl, by kernel_rfl, by kernel_rfl⟩, ⟨by kernel_rfl, by kernel_rfl, by kernel_rfl⟩, ⟨by kernel_rfl, by kernel_rfl, by kernel_rfl⟩, ⟨by kernel_rfl, by kernel_rfl, by kernel_rfl⟩, ⟨by kernel_rfl, by kernel_rfl, by kernel_rfl⟩, ⟨by kernel_rfl, by kernel_rfl, by kernel_rfl⟩, ⟨by kernel_rfl, by kernel_rfl, by kernel_rfl⟩, ⟨by kernel_rfl, by kernel_rfl, by kernel_rfl⟩, ⟨by kernel_rfl, by kernel_rfl, by kernel_rfl⟩, ⟨by kernel_rfl, by kernel_rfl, by kernel_rfl⟩, ⟨by kernel_rfl, by kernel_rfl, by kernel_rfl⟩, ⟨by kernel_rfl, by kernel_rfl, by kernel_rfl⟩, ⟨by kernel_rfl, by kernel_rfl, by kernel_rfl⟩, trivial⟩
theorem b_pcg : PcG (.s [98, 111, 100, 121]) := ⟨⟨by decide, fun nm h => (by rcases h with h | h <;> cases h; exact ⟨98, _, rfl, by decide⟩), fun y h => (by cases h)⟩, fun _ => b_closed.1, fun _ => b_closed.2.1⟩
theorem p_pcs : PcG (.s [112]) ∧ PcG (.e [112]) := ⟨⟨⟨by decide, fun nm h => (by rcases h with h | h <;> cases h; exact ⟨112, _, rfl, by decide⟩), fun y h => (by cases h)⟩, fun _ => p_closed.1, fun _ => p_closed.2.1⟩, ⟨⟨by decide, fun nm h => (by rcases h with h | h <;> cases h; exact ⟨112, _, rfl, by decide⟩), fun y h => (by cases h)⟩, fun _ => p_closed.1, fun h => absurd h (by show ¬ (2 : Int) = 1; decide)⟩⟩
theorem l_pcg {k : Nat} (h : k < 20) : PcG (.t (pLt k)) := by
 obtain ⟨_, _, h3⟩ := l_closed.mem k (pK_mem h)
 refine ⟨⟨fun c hc => List.all_eq_true.1 h3 c (by simpa [Pc.name, Pc.text] using hc), fun nm h => (by rcases h with h | h <;> cases h), fun y h => (by injection h with h; subst h; simp [pLt])⟩, fun h => absurd rfl (h _), fun h => absurd h (by show ¬ (3 : Int) = 1; decide)⟩
def ppp (q : Nat × Bool) : List Pc := .s [112] :: .t (pLt q.1) :: (if q.2 then [.e [112]] else [])
def pQs (m : List Bool) (k : Nat) : List (Nat × Bool) := (List.range k).map fun i => (i, m.getD i false)
def pPs (m : List Bool) (k : Nat) : List Pc := .s [98, 111, 100, 121] :: (pQs m k).flatMap ppp
theorem pQs_succ (m : List Bool) (k : Nat) : (pQs m (k + 1)).flatMap ppp = (pQs m k).flatMap ppp ++ ppp (k, m.getD k false) := by
 unfold pQs
 rw [List.range_succ, List.map_append, List.flatMap_append]; simp
theorem pX_succ (k : Nat) : pX (k + 1) = pX k ++ [([112], [97 + k])] := by
 unfold pX
 rw [List.range_succ, List.map_append]; rfl
theorem pPath (m : List Bool) : ∀ k : Nat, k ≤ 19 → ∃ o, (o = 2 ∨ o = 3) ∧ Path S0 ((pQs m k).flatMap ppp) (hS (pX k) k o)
 |0, _ => ⟨2, .inl rfl, .nil _⟩
 |k + 1, hk => by
  obtain ⟨o, ho, hp⟩ := pPath m k (by omega)
  have hm := pK_mem (k := k) (by omega)
  have hst : twoP (.s [112]) (.s [97 + k]) (hS (pX k) k o) = some (hS (pX (k + 1)) (k + 1) 3) := by
   rcases ho with rfl | rfl
   ·exact pA.mem k hm
   ·exact pB.mem k hm
  have hmk : madeOk (hS (pX k) k o) = true := by
   rcases ho with rfl | rfl
   ·exact pm2.mem k hm
   ·exact pm3.mem k hm
  obtain ⟨g1, g2, _⟩ := l_closed.mem k hm
  unfold twoP at hst
  split at hst
  ·rename_i S1 h1
   cases hmS : madeOk S1 with
   |false => rw [hmS] at hst; cases hst
   |true =>
    rw [hmS] at hst
    replace hst : xTok (.s [97 + k]) S1 = some (hS (pX (k + 1)) (k + 1) 3) := hst
    have p1 : PStep (hS (pX k) k o) (.s [112]) S1 := ⟨hmk, p_closed.2.2.1, h1⟩
    have p2 : PStep S1 (.t (pLt k)) (hS (pX (k + 1)) (k + 1) 3) := ⟨hmS, g1, by
     show stepM (runT ftb) 21 [.a [.i .i64 3, .s [], .s (ns (pLt k)), .sl none 0 0 0, .b false]] S1 = _
     rw [g2]; exact hst⟩
    rw [pQs_succ]
    cases hb : m.getD k false with
    |false => exact ⟨3, .inr rfl, hp.app (.cons p1 (.cons p2 (.nil _)))⟩
    |true =>
     have p3 : PStep (hS (pX (k + 1)) (k + 1) 3) (.e [112]) (hS (pX (k + 1)) (k + 1) 2) := ⟨pm3.mem (k + 1) (pK_mem (by omega)), p_closed.2.2.2, pE.mem k hm⟩
     exact ⟨2, .inl rfl, hp.app (.cons p1 (.cons p2 (.cons p3 (.nil _))))⟩
  ·cases hst
theorem sep_p : ∀ qs : List (Nat × Bool), Sep (qs.flatMap ppp) ∧ (qs.flatMap ppp = [] ∨ ∃ q r, qs.flatMap ppp = q :: r ∧ ∀ y, q ≠ .t y)
 |[] => ⟨trivial, .inl rfl⟩
 |(x, e) :: qs => by
  obtain ⟨h1, h2⟩ := sep_p qs
  refine ⟨?_, .inr ⟨.s [112], _, rfl, fun y h => by cases h⟩⟩
  cases e with
  |false => exact ⟨fun y h => (by cases h), fun y _ => h2, h1⟩
  |true => exact ⟨fun y h => (by cases h), fun y _ => .inr ⟨.e [112], _, rfl, fun y h => by cases h⟩, fun y h => (by cases h), h1⟩
theorem itT_p (k : Nat) (hk : k ≤ 19) : itT (pX k) = (List.range k).map fun i => elT [112] [txT (pLt i)] := by
 induction k with
 |zero => rfl
 |succ k ih =>
  have app : ∀ (l : List (List Nat × List Nat)) (p : List Nat × List Nat), itT (l ++ [p]) = itT l ++ [elT (txt p.1) [txT (txt p.2)]] := fun l p => by
   induction l with
   |nil => rfl
   |cons q l ih => show elT _ _ :: itT (l ++ [p]) = elT _ _ :: (itT l ++ _); rw [ih]
  rw [pX_succ, app, ih (by omega), List.range_succ, List.map_append]
  rfl
theorem pRuns (m : List Bool) {k : Nat} (hk : k ≤ 19) : Runs (pPs m k) (pageT [] ((List.range k).map fun i => elT [112] [txT (pLt i)])) := by
 have hlen : (srcs ((pQs m k).flatMap ppp)).length ≤ 8 * k := by
  clear hk
  induction k with
  |zero => simp [pQs, srcs]
  |succ k ih =>
   rw [pQs_succ, srcs_app, List.length_append]
   have : (srcs (ppp (k, m.getD k false))).length ≤ 8 := by
    unfold ppp
    cases m.getD k false <;> simp [srcs, Pc.src, pLt]
   omega
 have hlen2 : (srcs (pPs m k)).length ≤ 6 + 8 * k := by
  unfold pPs
  rw [srcs_cons, List.length_append]
  simp only [Pc.src, List.length_cons, List.length_append, List.length_nil]; omega
 refine ⟨⟨fun p hp => ?_, ⟨fun y h => (by cases h), (sep_p _).1⟩, by omega⟩, ?_, ?_, ?_⟩
 ·unfold pPs at hp
  rcases List.mem_cons.1 hp with rfl | hp
  ·exact b_pcg
  ·obtain ⟨q, hqm, hp⟩ := List.mem_flatMap.1 hp
   unfold pQs at hqm
   obtain ⟨i, hi, rfl⟩ := List.mem_map.1 hqm
   have hi := List.mem_range.1 hi
   unfold ppp at hp
   simp only at hp
   rcases List.mem_cons.1 hp with rfl | hp
   ·exact p_pcs.1
   rcases List.mem_cons.1 hp with rfl | hp
   ·exact l_pcg (by omega)
   ·split at hp
    ·rw [List.mem_singleton.1 hp]; exact p_pcs.2
    ·cases hp
 ·obtain ⟨o, ho, h0⟩ := pPath m k hk
  have hm := pK_mem (k := k) (by omega)
  refine ⟨hS (pX k) k o, hS (pX k) k o, .cons ⟨by kernel_rfl, b_closed.2.2, body_step⟩ h0, ?_⟩
  rcases ho with rfl | rfl
  ·exact ⟨ps2.mem k hm, pm2.mem k hm, by rw [← itT_p k hk]; exact ptt2.mem k hm⟩
  ·exact ⟨ps3.mem k hm, pm3.mem k hm, by rw [← itT_p k hk]; exact ptt3.mem k hm⟩
 ·refine page_check (fun u hu => ?_) ?_ ?_
  ·obtain ⟨i, hi, rfl⟩ := List.mem_map.1 hu
   exact ⟨elT_ok (by decide) (fun u hu => by rw [List.mem_singleton.1 hu]; exact ⟨txT_ok (by simp [pLt]) (by simp [pLt]), by show (3 : Int) ≠ 5; decide⟩), by show (2 : Int) ≠ 5; decide⟩
  ·have : ∀ l : List Nat, ((l.map fun i => elT [112] [txT (pLt i)]).map T.size).sum = 2 * l.length := fun l => by
    induction l with
    |nil => rfl
    |cons y ys ih => simp only [List.map_cons, List.sum_cons, ih, elT_size, txT_size, List.map_nil, List.sum_nil, List.length_cons]; omega
   rw [this, List.length_range]; omega
  ·refine Nat.le_trans (T.foldr_max_le (n := 2) fun d hd => ?_) (by decide)
   obtain ⟨u, hu, rfl⟩ := List.mem_map.1 hd
   obtain ⟨q, _, rfl⟩ := List.mem_map.1 hu
   rw [elT_depth]; simp [txT_depth]
 ·refine page_bulk ?_
  have hb : ∀ i, (pLt i).length = 1 := fun _ => rfl
  have : ∀ l : List Nat, ((l.map fun i => elT [112] [txT (pLt i)]).map T.bulk).sum ≤ 10 * l.length := fun l => by
   induction l with
   |nil => simp
   |cons y ys ih => simp only [List.map_cons, List.sum_cons, elT_bulk, txT_bulk, hb, List.map_nil, List.sum_nil, List.length_cons, List.length_nil]; omega
  have := this (List.range k)
  rw [List.length_range] at this
  omega
theorem pLt_eq {i : Nat} (h : i < 20) : (List.drop i ([97, 98, 99, 100, 101, 102, 103, 104, 105, 106, 107, 108, 109, 110, 111, 112, 113, 114, 115, 116] : Str)).take (((i : Int) + 1).toNat - i) = pLt i := by
 rw [show ((i : Int) + 1).toNat - i = 1 by omega]
 have key : ∀ q : Fin 20, (List.drop q.1 ([97, 98, 99, 100, 101, 102, 103, 104, 105, 106, 107, 108, 109, 110, 111, 112, 113, 114, 115, 116] : Str)).take 1 = pLt q.1 := by decide +kernel
 exact key ⟨i, h⟩
theorem buildParagraphsLaw {w : World} (hw : WP w) (n : Int) {s : Sl} {m : List Bool} (h : Row [] w s 1 (m.map bl)) : Calls Tryz.prog 4 #[.int .i64 n, s.v] w (Ret fun v w' => Ext w w' ∧ v = .bool true) := by
 refine law14_BuildParagraphs.ok _ _ ?_
 unfold law14_BuildParagraphs.vc
 have hn : s.n = m.length := by simpa using h.len
 have h1 := Int.emod_nonneg n (show (20 : Int) ≠ 0 by decide)
 have h2 := Int.emod_lt_of_pos n (show (0 : Int) < 20 by decide)
 refine CallK.exact (place n 20 (by decide) (by decide)) fun w1 hE1 => ⟨_, rfl, ?_⟩
 obtain ⟨K, hK⟩ : ∃ K : Nat, n.emod 20 = (K : Int) := ⟨(n.emod 20).toNat, (Int.toNat_of_nonneg h1).symm⟩
 have hK19 : K ≤ 19 := by
  have : n.emod 20 < 20 := h2
  omega
 rw [hK]
 have h20 : (([97, 98, 99, 100, 101, 102, 103, 104, 105, 106, 107, 108, 109, 110, 111, 112, 113, 114, 115, 116] : Str).length : Int) = 20 := rfl
 have ll : ∀ i, (pLt i).length = 1 := fun i => rfl
 refine ⟨fun x i w2 => ∃ k : Nat, k ≤ K ∧ x = srcs ((pQs m k).flatMap ppp) ∧ i = (k : Int) ∧ Ext w w2, fun _ i _ => K - i.toNat, ⟨0, by omega, rfl, rfl, hE1⟩, ?_⟩
 rintro _ _ w2 ⟨k, hkK, rfl, rfl, hE2⟩
 have hR := pRuns m (k := k) (by omega)
 have hlen := hR.src.len
 have hlen' : (srcs (pPs m k)).length = 6 + (srcs ((pQs m k).flatMap ppp)).length := by
  unfold pPs; rw [srcs_cons, List.length_append]; rfl
 refine ⟨fun hlt => ?_, fun hge => ?_⟩
 ·rw [Int.toNat_natCast, pLt_eq (by omega)]
  have e1 : (srcs ((pQs m k).flatMap ppp) ++ ([60, 112, 62] : Str)) ++ pLt k = srcs ((pQs m k).flatMap ppp) ++ ([60, 112, 62] ++ pLt k) := by simp
  refine ⟨by simp only [List.length_cons, List.length_nil]; omega, ⟨by omega, by omega⟩, ⟨by omega, by omega, by omega⟩, by simp only [List.length_append, ll, List.length_cons, List.length_nil]; omega, ?_⟩
  have rest : ∀ b : Bool, m.getD k false = b → (b = true → ((srcs ((pQs m k).flatMap ppp) ++ ([60, 112, 62] : Str)) ++ pLt k) ++ ([60, 47, 112, 62] : Str) = srcs ((pQs m (k + 1)).flatMap ppp)) ∧ (b = false → (srcs ((pQs m k).flatMap ppp) ++ ([60, 112, 62] : Str)) ++ pLt k = srcs ((pQs m (k + 1)).flatMap ppp)) := fun b hb => by
   rw [pQs_succ, srcs_app, hb]
   constructor
   ·rintro rfl; simp [ppp, srcs, Pc.src]
   ·rintro rfl; simp [ppp, srcs, Pc.src]
  by_cases hkm : k < m.length
  ·obtain ⟨_, p, hp, hc⟩ := rowB (h.ext hE2) hkm
   refine ⟨p, fun _ => ⟨⟨by omega, by omega⟩, hp⟩, m.getD k false, fun _ => hc, fun hb => ⟨by simp only [List.length_append, ll, List.length_cons, List.length_nil]; omega, ⟨by omega, by omega⟩, ⟨k + 1, by omega, (rest _ rfl).1 hb.2, rfl, hE2⟩, by dsimp only; omega⟩, fun hb => ⟨⟨by omega, by omega⟩, ⟨k + 1, by omega, (rest _ rfl).2 ?_, rfl, hE2⟩, by dsimp only; omega⟩⟩
   rcases hb with hb | hb
   ·omega
   ·exact hb
  ·have hf : m.getD k false = false := by rw [List.getD_eq_getElem?_getD, List.getElem?_eq_none (by omega)]; rfl
   refine ⟨⟨0, 0, none⟩, fun hx => by omega, false, fun hx => by omega, fun hb => by omega, fun _ => ⟨⟨by omega, by omega⟩, ⟨k + 1, by omega, (rest _ hf).2 rfl, rfl, hE2⟩, by dsimp only; omega⟩⟩
 ·have hkK' : k = K := by omega
  subst hkK'
  refine ⟨by simp only [List.length_cons, List.length_nil]; omega, ?_⟩
  have e0 : ([60, 98, 111, 100, 121, 62] : Str) ++ srcs ((pQs m k).flatMap ppp) = srcs (pPs m k) := rfl
  rw [e0]
  refine CallK.ext (allG (WP.ext hw hE2) hR.src) ?_
  rintro _ w3 hE3 ⟨l, rfl, hl⟩
  refine ⟨l, rfl, ?_⟩
  refine CallK.ext (buildS (WP.ext (WP.ext hw hE2) hE3) hR hl) ?_
  rintro _ w4 hE4 ⟨sk, rfl, hq⟩
  have hE : Ext w w4 := (hE2.trans hE3).trans hE4
  refine ⟨_, _, _, _, _, _, rfl, ?_⟩
  have n0 : sk.n = 1 := hq.nkids
  obtain ⟨p, sa1, sk1, hp, hc, hq1⟩ := hq.kid (i := 0) (show 0 < 1 by decide)
  have n1 : sk1.n = 2 := hq1.nkids
  obtain ⟨p1, sa2, sk2, hp1, hc1, hq2⟩ := hq1.kid (i := 1) (show 1 < 2 by decide)
  have n2 : sk2.n = k := by
   have : sk2.n = ((List.range k).map fun i => elT [112] [txT (pLt i)]).length := hq2.nkids
   simpa using this
  refine ⟨p, fun _ => ⟨⟨by omega, by omega⟩, hp⟩, fun w5 B5 hN5 hE5 => ?_⟩
  have c1 : w5.cell? ((p.add (0 * 5)).add 4) = some sk1.v := Ext.cell hE5 (hc 4 _ rfl)
  have cc : Cells w5 (p1.add (1 * 5)) [.int .i64 2, .string (Bs [98, 111, 100, 121]), .string (Bs ([] : Str)), sa2.v, sk2.v] := hc1.chgE hE5
  refine ⟨sk1, fun _ => c1, fun hx => ?_, fun _ => ⟨⟨by omega, by omega⟩, p, hp, sk1, c1, ⟨by omega, by omega⟩, p1, hp1, _, _, _, sa2, sk2, cc, fun hx => by omega, fun _ w6 B6 hN6 hE6 => ?_⟩⟩
  ·rcases hx with (hx | hx) | hx
   ·exact absurd rfl hx
   ·omega
   ·omega
  refine ⟨fun i w7 => ∃ j : Nat, j ≤ k ∧ i = (j : Int) ∧ Ext w6 w7, fun i _ => k - i.toNat, ⟨0, by omega, rfl, Chg.refl _ _⟩, ?_⟩
  rintro _ w7 ⟨j, hj, rfl, hE7⟩
  refine ⟨fun hlt => ?_, fun hge => ?_⟩
  ·have hjk : j < k := by omega
   rw [Int.toNat_natCast]
   obtain ⟨p3, sa3, sk3, hp3, hc3, hq3⟩ := hq2.kid (i := j) (by show j < ((List.range k).map _).length; simpa using hjk)
   have hkid : (((elT [98, 111, 100, 121] ((List.range k).map fun i => elT [112] [txT (pLt i)])).kids).getD j T.nul) = elT [112] [txT (pLt j)] := by
    show (((List.range k).map fun i => elT [112] [txT (pLt i)]).getD j T.nul) = _
    rw [List.getD_eq_getElem?_getD, List.getElem?_map, List.getElem?_range hjk]; rfl
   have hc3' : Cells w4 (p3.add (j * 5)) (tc (elT [112] [txT (pLt j)]) (sa3, sk3)) := by rw [← hkid]; exact hc3
   have hq3' : RdQ w4 (elT [112] [txT (pLt j)]) sa3 sk3 := by rw [← hkid]; exact hq3
   have hE47 := (hE5.trans hE6).trans hE7
   have n3 : sk3.n = 1 := hq3'.nkids
   obtain ⟨p4, sa4, sk4, hp4, hc4, _⟩ := hq3'.kid (i := 0) (show 0 < 1 by decide)
   have cc3 : Cells w7 (p3.add (j * 5)) [.int .i64 2, .string (Bs [112]), .string (Bs ([] : Str)), sa3.v, sk3.v] := hc3'.chgE hE47
   refine ⟨⟨by omega, by omega⟩, p3, hp3, _, _, _, sa3, sk3, cc3, fun w8 B8 hN8 hE8 => ⟨p4, fun _ => ⟨⟨by omega, by omega⟩, hp4⟩, pLt j, fun _ => Ext.cell (hE47.trans hE8) (hc4 2 _ rfl), fun _ => ⟨by omega, by omega⟩, fun _ => ⟨by omega, by omega, by omega⟩, ?_⟩⟩
   rw [pLt_eq (by omega)]
   refine ⟨fun hx => ?_, fun _ => ⟨⟨by omega, by omega⟩, fun w9 hE9 => ⟨⟨j + 1, by omega, rfl, (hE7.trans hE8).trans hE9⟩, by dsimp only; omega⟩⟩⟩
   rcases hx with (hx | hx) | hx
   ·exact absurd rfl hx
   ·omega
   ·exact absurd rfl hx
  ·refine CallK.exact (awakeLaw (WP.ext hw (((hE.trans hE5).trans hE6).trans hE7))) fun w8 hE8 => ⟨true, rfl, (((hE.trans hE5).trans hE6).trans hE7).trans hE8, rfl⟩
end
theorem open_bools {H : Type} {enc : TypeId × Value → H} {P : Program} {t e : TypeId} {W : World} {v : Value} {d : DataW H} {ps : List MemPlace} {base : Nat} (ht : P.underlying t = some (.slice e)) (he : P.underlying e = some .bool) (hc : P.cellsOf e = 1)
  (hval : Value.okWide P W .any base t v) (h : DataW.Trod enc P W 0 (fun _ => true) true t v d ps) : ∃ (s : Sl) (bs : List Bool), v = s.v ∧ Row [] W s 1 (bs.map bl) := by
 obtain ⟨a, len, cap, rfl⟩ := okWide_slice ht hval
 obtain ⟨fuel, hf⟩ := h
 rcases Go.Deep.open_bools ht he hc hf with ⟨hcs, _⟩ | ⟨x, l, c, B, hcs, _, hl, hm, _, hcell⟩
 ·simp [Value.cells] at hcs
  obtain ⟨rfl, rfl, rfl⟩ := hcs
  exact ⟨Sl.nil, [], rfl, Row.nil _ _ _⟩
 ·simp [Value.cells] at hcs
  obtain ⟨rfl, rfl, rfl⟩ := hcs
  refine ⟨⟨some x, len, cap⟩, (List.range len).map B, rfl, ⟨by simp, hl, hm, fun i hi => ?_⟩⟩
  simp only [List.length_map, List.length_range] at hi
  have hg : (((List.range len).map B).map bl).getD i [] = [.bool (B i)] := by
   rw [List.map_map, List.getD_eq_getElem?_getD, List.getElem?_map, List.getElem?_range hi]; rfl
  rw [hg]
  exact ⟨x, rfl, by simp, fun j u hj => by
   cases j with
   |zero => simp only [List.getElem?_cons_zero, Option.some.injEq] at hj; subst hj; rw [Addr.add_add, Nat.mul_one, Nat.add_zero]; exact hcell i (by omega)
   |succ j => simp at hj, rfl⟩
end Ev
end
section
open Go.RowKit
theorem wp_of_laid {W : World} (h : laidMetH Tryz.prog Rows.buildVoidsRow.laid W) : Ev.WP W := by
 rw [MakeChecks.laidMetH_plain _ _ _ (by kernel_rfl)] at h
 have e : (Rows.laid_strings_asciiSpace : DataW Unit) = Lib.tabData .u8 Lib.asciiSpaceTab := by kernel_rfl
 have h2 := h.filter fun x => x.1 == "strings.asciiSpace"
 have h3 : laidMet Tryz.prog [("strings.asciiSpace", Rows.laid_strings_asciiSpace)] W := h2
 rw [e] at h3
 exact Lib.tabIs_of_head (rest := []) (g := 0) (t := 160) (e := 5) (n := 256) (by kernel_rfl) (by kernel_rfl) Tryz.underlying160 Tryz.underlying5 (by kernel_rfl) (by kernel_rfl) h3
end
end Go.Proofs.YtenokfdkckhhiaaGreatDoor
