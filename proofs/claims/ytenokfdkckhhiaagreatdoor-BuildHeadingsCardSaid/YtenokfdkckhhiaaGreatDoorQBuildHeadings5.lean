/-
  What the proof of the statement leans on: texts one behind the other.
-/
import Derived.Test.YtenokfdkckhhiaaGreatDoorQBuildHeadings4
import Derived.Test.YtenokfdkckhhiaaGreatDoorQBuildHeadings3
import Derived.Test.YtenokfdkckhhiaaGreatDoorQBuildHeadingsGbld
import Derived.Test.YtenokfdkckhhiaaGreatDoorQBuildHeadingsGformat
import Derived.Test.YtenokfdkckhhiaaGreatDoorQBuildHeadingsGlaw14body
import Derived.Test.YtenokfdkckhhiaaGreatDoorQBuildHeadings2
import Derived.Test.YtenokfdkckhhiaaGreatDoorQBuildHeadingsGlaw14BuildHeadings
import Derived.Test.YtenokfdkckhhiaaGreatDoorRows
import Derived.MakeChecks
import Derived.Lib.LaidTab
import Derived.LaidSub
namespace Go.Proofs.YtenokfdkckhhiaaGreatDoor
section
open Go.RowKit
def srcs (ps : List Pc) : Str := (ps.map Pc.src).flatten
def Sep : List Pc → Prop
 |[] => True
 |p :: r => (∀ x, p = .t x → r = [] ∨ ∃ q r', r = q :: r' ∧ ∀ y, q ≠ .t y) ∧ Sep r
def tkc (p : Pc) : List Value := [.int .i64 p.kind, .string (Bs p.name), .string (Bs p.text), Sl.v Sl.nil, .bool false]
def tkc0 : List Value := [.int .i64 6, .string (Bs ([] : Str)), .string (Bs ([] : Str)), Sl.v Sl.nil, .bool false]
theorem srcs_cons (p : Pc) (ps : List Pc) : srcs (p :: ps) = p.src ++ srcs ps := rfl
theorem src_sign {p : Pc} (hp : p.Ok) : ∀ c ∈ p.src, 33 ≤ c.toNat ∧ c.toNat ≤ 126 := by
 have g : ∀ c, goodB c = true → 33 ≤ c.toNat ∧ c.toNat ≤ 126 := fun c h => ⟨(good_iff h).1, (good_iff h).2.1⟩
 intro c hc
 cases p with
 |s nm =>
  simp only [Pc.src, List.mem_cons, List.mem_append, List.not_mem_nil, or_false] at hc
  rcases hc with rfl | hc | rfl
  ·decide
  ·exact g c (hp.good c (by simp [Pc.name, hc]))
  ·decide
 |e nm =>
  simp only [Pc.src, List.mem_cons, List.mem_append, List.not_mem_nil, or_false] at hc
  rcases hc with rfl | rfl | hc | rfl
  ·decide
  ·decide
  ·exact g c (hp.good c (by simp [Pc.name, hc]))
  ·decide
 |t x => exact g c (hp.good c (by simp [Pc.name, Pc.text]; exact hc))
theorem runeC {w : World} {s : Str} {k : Nat} (hk : k < s.length) (hc : (s.getD k 0).toNat < 128) : Calls Tryz.prog 45 #[.string (Bs s), .int .i64 (k : Int)] w (Ret fun v w' => Ext w w' ∧ v = .tuple #[.int .i32 (IntKind.i32.wrap ((s.getD k 0).toNat : Int)), .int .i64 1]) := by
 refine ref04_Next.ok _ _ ?_
 unfold ref04_Next.vc
 rw [Int.toNat_natCast]
 refine ⟨⟨by omega, by omega⟩, ⟨by omega, by omega⟩, fun _ _ _ _ => False, ⟨fun _ => ⟨Chg.refl _ _, rfl⟩, fun h => absurd (by exact_mod_cast hc) h⟩, fun _ _ _ _ h => h.elim⟩
theorem cleanC {w : World} {s : Str} (hs : ∀ c ∈ s, 33 ≤ c.toNat ∧ c.toNat ≤ 126) (hl : s.length ≤ 1000000) : Calls Tryz.prog 28 #[.string (Bs s)] w (Ret fun v w' => Ext w w' ∧ v = .string (Bs s)) := by
 refine ref04_Clean.ok _ ?_
 unfold ref04_Clean.vc
 refine ⟨fun t a w1 => ∃ j : Nat, a = (j : Int) ∧ j ≤ s.length ∧ t = s.take j ∧ Ext w w1, fun _ a _ => s.length - a.toNat, ⟨0, rfl, Nat.zero_le _, rfl, Chg.refl _ _⟩, ?_⟩
 rintro _ _ w1 ⟨j, rfl, hj, rfl, hE⟩
 rw [Int.toNat_natCast]
 refine ⟨fun hlt => ?_, fun hge => ⟨hE, by rw [show j = s.length by omega, List.take_length]⟩⟩
 have hj' : j < s.length := by omega
 have hc : s.getD j 0 = s[j] := by rw [List.getD_eq_getElem?_getD, List.getElem?_eq_getElem hj']; rfl
 obtain ⟨h1, h2⟩ := hs _ (List.getElem_mem hj')
 rw [← hc] at h1 h2
 have e : s.take j ++ (s.drop j).take (((j : Int) + 1).toNat - j) = s.take (j + 1) := by
  rw [show ((j : Int) + 1).toNat - j = 1 by omega, List.take_add]
 refine CallK.exact (runeC hj' (by omega)) fun w2 hE2 => ⟨_, _, rfl, fun _ => ⟨by omega, hlt⟩, fun h => ?_, fun _ => ⟨⟨by omega, hlt⟩, fun h => ?_, fun _ => ⟨⟨by omega, by omega⟩, ⟨by omega, by omega, by omega⟩, ?_, ⟨by omega, by omega⟩, ⟨j + 1, by omega, by omega, e, hE.trans hE2⟩, ?_⟩⟩⟩
 ·rcases h with h | h
  ·omega
  ·omega
 ·omega
 ·simp only [List.length_take, List.length_drop]; omega
 ·dsimp only; omega
theorem nextEnd {w : World} {s : Str} : Calls Tryz.prog 29 #[.string (Bs s), .int .i64 (s.length : Int), .string (Bs ([] : Str))] w (Ret fun v w' => Ext w w' ∧ v = .tuple #[.agg #[.int .i64 6, .string (Bs ([] : Str)), .string (Bs ([] : Str)), Sl.v Sl.nil, .bool false], .int .i64 (s.length : Int), .bool true]) := by
 refine ref10_Next.ok _ _ _ ?_
 unfold ref10_Next.vc
 exact ⟨fun _ w1 B4 hN hE => ⟨hE, rfl⟩, fun h => by omega⟩
theorem sep_next {p : Pc} {ps : List Pc} (h : Sep (p :: ps)) (hok : ∀ q ∈ ps, q.Ok) : ∀ x, p = .t x → srcs ps = [] ∨ ∃ q, srcs ps = 60 :: q := fun x hx => by
 rcases h.1 x hx with rfl | ⟨q, r', rfl, hq⟩
 ·exact .inl rfl
 ·cases q with
  |s nm => exact .inr ⟨_, rfl⟩
  |e nm => exact .inr ⟨_, rfl⟩
  |t y => exact absurd rfl (hq y)
theorem tkc_one (p : Pc) : ∀ u ∈ ([tkc p].flatten), u.oneCell' = true := by
 intro u hu
 simp only [List.flatten_cons, List.flatten_nil, List.append_nil, tkc, List.mem_cons, List.not_mem_nil, or_false] at hu
 rcases hu with rfl | rfl | rfl | rfl | rfl <;> rfl
theorem tkc0_one : ∀ u ∈ ([tkc0].flatten), u.oneCell' = true := by
 intro u hu
 simp only [List.flatten_cons, List.flatten_nil, List.append_nil, tkc0, List.mem_cons, List.not_mem_nil, or_false] at hu
 rcases hu with rfl | rfl | rfl | rfl | rfl <;> rfl
theorem Own.many {A : List Nat} {w : World} {B size : Nat} {S : TypeId} {us : List (List Value)} (h : Box w B S us.flatten) (hu : ∀ u ∈ us, u.length = size) (hn : us.length ≤ maxLen) (hA : B ∉ A) : Own A w ⟨some ⟨B, 0, none⟩, us.length, us.length⟩ size S us :=
 ⟨rfl, Nat.le_refl _, hn, hu, .inr ⟨B, us.flatten, rfl, hA, h, flatten_len us hu, by rw [← flatten_len us hu, List.take_length]⟩⟩
theorem allC {w : World} {Q : World → Prop} (hq : Q w) (hQ : ∀ {a b : World}, Q a → Ext a b → Q b) (ps : List Pc) (hok : ∀ p ∈ ps, p.Ok) (hsep : Sep ps) (hl : (srcs ps).length ≤ 100000)
  (hn : ∀ p ∈ ps, (∀ x, p ≠ .t x) → ∀ w : World, Q w → Calls Tryz.prog 83 #[.string (Bs p.name)] w (Ret fun v w' => Ext w w' ∧ v = .string (Bs p.name)))
  (hraw : ∀ p ∈ ps, p.kind = 1 → ∀ w : World, Q w → Calls Tryz.prog 30 #[.string (Bs p.name)] w (Ret fun v w' => Ext w w' ∧ v = .int .i64 0))
  (hlow : ∀ w : World, Q w → Calls Tryz.prog 46 #[.string (Bs ([60, 47] : Str))] w (Ret fun v w' => Ext w w' ∧ v = .string (Bs ([60, 47] : Str)))) :
  Calls Tryz.prog 16 #[.string (Bs (srcs ps))] w (Ret fun v w' => Ext w w' ∧ ∃ l : Sl, v = l.v ∧ Row [] w' l 5 (ps.map tkc ++ [tkc0])) := by
 refine ref11_All.ok _ ?_
 unfold ref11_All.vc
 have hsig : ∀ c ∈ srcs ps, 33 ≤ c.toNat ∧ c.toNat ≤ 126 := fun c hc => by
  obtain ⟨l, hl, hc⟩ := List.mem_flatten.1 hc
  obtain ⟨p, hp, rfl⟩ := List.mem_map.1 hl
  exact src_sign (hok p hp) c hc
 have hnum : ∀ l : List Pc, (∀ p ∈ l, p.Ok) → l.length ≤ (srcs l).length := fun l => by
  induction l with
  |nil => intro _; exact Nat.zero_le _
  |cons p l ih =>
   intro h
   have h1 := ih fun q hq => h q (by simp [hq])
   have h2 : 0 < p.src.length := by
    have hp := h p (by simp)
    cases p with
    |s nm => simp [Pc.src]
    |e nm => simp [Pc.src]
    |t x => cases x with
     |nil => exact absurd rfl (hp.word _ rfl)
     |cons a b => simp [Pc.src]
   rw [srcs_cons, List.length_append, List.length_cons]; omega
 refine CallK.exact (cleanC hsig (by omega)) fun w1 hE1 => ⟨_, rfl, ?_⟩
 generalize hs : srcs ps = s at hl hsig
 refine ⟨fun l raw a w2 => ∃ (dn td : List Pc) (k : Nat), a = (k : Int) ∧ raw = [] ∧ ps = dn ++ td ∧ Sep td ∧ k ≤ s.length ∧ s.drop k = srcs td ∧ Own (List.range w.heap.size) w2 l 5 51 (dn.map tkc) ∧ Ext w w2, fun _ _ a _ => s.length - a.toNat, ⟨[], ps, 0, rfl, rfl, rfl, hsep, Nat.zero_le _, hs.symm, Own.nil _ _ _ _, hE1⟩, ?_⟩
 rintro l _ _ w2 ⟨dn, td, k, rfl, rfl, hps, hst, hk, hd, hO, hE2⟩
 have hdn : dn.length ≤ 100000 := by
  have := hnum ps hok
  rw [hs, hps, List.length_append] at this; omega
 have hln : l.n = dn.length := by simpa using hO.len
 -- a piece more
 have more : ∀ {w3 w4 : World} {B53 B60 : Nat} {c : List Value} {K : Value → World → Prop}, Ext w2 w3 → New w3 B53 w4 → New w3 B60 w4 → Ext w3 w4 → Box w4 B60 51 c → c.length = 5 → (∀ u ∈ ([c].flatten), u.oneCell' = true) →
   (∀ (l' : Sl) (w5 : World), Own (List.range w.heap.size) w5 l' 5 51 (dn.map tkc ++ [c]) → Ext w w5 → K l'.v w5) →
   RunK Tryz.prog (Builtin.append_ #[22, 22] 22 #[Sl.v l, Sl.v (Sl.mk (some ⟨B60, 0, none⟩) 1 1)]) w4 [B53] K := fun {w3 w4 B53 B60 c K} hE3 hN53 hN60 hE4 hB hc h1 kk => by
  have hO4 : Own (B53 :: List.range w.heap.size) w4 l 5 51 (dn.map tkc) := ((hO.ext hE3).ext hE4).cons fun hm => by
   have := ((hO.ext hE3).blk _ hm).2
   have := hN53.ge
   omega
  have hEw : Ext w w4 := (hE2.trans hE3).trans hE4
  refine App.runK Tryz.underlying22 ti_51 rfl (by decide) (.inl hO4) (fun b hb => ?_) (Own.many (us := [c]) (by simpa using hB) (by simpa using hc) (by simp [maxLen]) (by simp)).row h1 (by simp) (by simp [maxLen]; omega) (by simp; omega) (by simp) fun l' w5 hO5 hC5 _ => ?_
  ·rcases List.mem_cons.1 hb with rfl | hb
   ·exact hN53.lt
   ·have := List.mem_range.1 hb; have := hEw.size; omega
  ·refine kk l' w5 (hO5.less fun b hb => List.mem_cons_of_mem _ hb) (Chg.fresh hEw hC5 fun x hx => ?_)
   have := (hO.blk x (Sl.own_blk hx)).1
   rcases Nat.lt_or_ge x w.heap.size with h | h
   ·exact absurd (List.mem_range.2 h) this
   ·exact h
 cases td with
 |nil =>
  have hkl : k = s.length := by
   have := drop_len hd hk
   simpa [srcs] using this
  subst hkl
  refine CallK.exact nextEnd fun w3 hE3 => ⟨_, _, _, _, _, _, _, rfl, fun h => (by cases h), fun _ w4 B53 B60 hN53 hN60 _ hE4 hB => ?_⟩
  refine more hE3 hN53 hN60 hE4 hB rfl tkc0_one fun l' w5 hO5 hE5 => ⟨l', rfl, fun _ => ⟨hE5, l', rfl, ?_⟩, fun h => absurd rfl h⟩
  rw [hps, List.append_nil]
  exact hO5.row.less (by simp)
 |cons p td =>
  have hp : p.Ok := hok p (by rw [hps]; simp)
  have hpm : p ∈ ps := by rw [hps]; simp
  rw [srcs_cons] at hd
  have hlen := drop_len hd hk
  rw [List.length_append] at hlen
  refine CallK.exact (nextC (hQ hq hE2) hQ hd hk hp (sep_next hst fun q hq => hok q (by rw [hps]; simp [hq])) (by omega) (hn p hpm) hlow) fun w3 hE3 => ⟨_, _, _, _, _, _, _, rfl, fun h => (by cases h), fun _ w4 B53 B60 hN53 hN60 _ hE4 hB => ?_⟩
  refine more hE3 hN53 hN60 hE4 hB rfl (tkc_one p) fun l' w5 hO5 hE5 => ⟨l', rfl, fun h => ?_, fun _ => ⟨0, fun h => hraw p hpm h w5 (hQ hq hE5), fun w6 hE6 => ?_⟩⟩
  ·cases p <;> simp [Pc.kind] at h
  ·have hr : (bif ((decide (p.kind = 1)) && (decide ((0 : Int) < 0))) then p.name else (bif ((decide (p.kind = 1)) || ((decide (p.kind = 2)) && (decide (p.name = ([] : Str))))) then ([] : Str) else ([] : Str))) = ([] : Str) := by
    cases decide (p.kind = 1) <;> cases decide (p.kind = 2) <;> cases decide (p.name = ([] : Str)) <;> rfl
   have hpos : 0 < p.src.length := by
    have := hnum [p] (by simpa using hp)
    simp [srcs] at this; omega
   rw [hr]
   refine ⟨⟨dn ++ [p], td, k + p.src.length, rfl, rfl, by rw [hps]; simp, hst.2, by omega, (drop_app hd).1, by rw [List.map_append]; exact hO5.ext hE6, hE5.trans hE6⟩, ?_⟩
   dsimp only; omega
end
section
open Go.RowKit
namespace Ev
noncomputable section
def retV (r : Option (AV × AH)) : Option AV := match r with
 |some (v, _) => some v
 |none => none
theorem closedV {f : FuncId} {vs : List AV} {args : List Value} {v : AV} (h : retV (runT ftb f vs H00) = some v) (hvs : All2 (AV.v fun _ => none) vs args) {w : World} (hw : WP w) : Calls Tryz.prog f args.toArray w (Ret fun u w' => Ext w w' ∧ ∃ E, v.v E u) := by
 unfold retV at h
 split at h
 ·rename_i v' H hr
  injection h with h; subst h
  obtain ⟨_, hb⟩ := runT_ok ftb_ok hr
  refine (hb (fun g hg => absurd hg (Nat.not_lt_zero g)) (HR.start hw) hvs).2.mono fun e w' hx => ?_
  cases e with
  |returned u =>
   obtain ⟨E', _, _, h3, h4⟩ := hx
   exact ⟨h3.ch.ext, E', h4⟩
  |_ => exact hx.elim
 ·cases h
theorem nat_str (x : Str) : (x.map UInt8.toNat).map UInt8.ofNat = x ∧ ∀ n ∈ x.map UInt8.toNat, n < 256 := by
 constructor
 ·rw [List.map_map]
  conv => rhs; rw [← List.map_id x]
  exact List.map_congr_left fun b _ => by simp
 ·intro n hn
  obtain ⟨b, _, rfl⟩ := List.mem_map.1 hn
  exact b.toNat_lt
def ns (x : Str) : List Nat := x.map UInt8.toNat
theorem sv_str (E : En) (x : Str) : (AC.s (ns x)).v E (.string (Bs x)) := by
 obtain ⟨h1, h2⟩ := nat_str x
 exact ⟨by unfold ns; rw [h1], h2⟩
theorem closed_str {f : FuncId} {x y : Str} (h : retV (runT ftb f [.c (.s (ns x))] H00) = some (.c (.s (ns y)))) {w : World} (hw : WP w) : Calls Tryz.prog f #[.string (Bs x)] w (Ret fun u w' => Ext w w' ∧ u = .string (Bs y)) :=
 (closedV h (.cons (sv_str (fun _ => none) x) .nil) hw).mono fun e w' hx => by
  cases e with
  |returned u =>
   obtain ⟨hE, E, hu, _⟩ := hx
   exact ⟨hE, by rw [hu]; unfold ns; rw [(nat_str y).1]⟩
  |_ => exact hx.elim
theorem closed_int {f : FuncId} {x : Str} {n : Int} (h : retV (runT ftb f [.c (.s (ns x))] H00) = some (.c (.i .i64 n))) {w : World} (hw : WP w) : Calls Tryz.prog f #[.string (Bs x)] w (Ret fun u w' => Ext w w' ∧ u = .int .i64 n) :=
 (closedV h (.cons (sv_str (fun _ => none) x) .nil) hw).mono fun e w' hx => by
  cases e with
  |returned u =>
   obtain ⟨hE, E, hu⟩ := hx
   exact ⟨hE, hu⟩
  |_ => exact hx.elim
def tkA (p : Pc) : List AC := [.i .i64 p.kind, .s (ns p.name), .s (ns p.text), .sl none 0 0 0, .b false]
def tkA0 : List AC := [.i .i64 6, .s [], .s [], .sl none 0 0 0, .b false]
theorem tkA_v (E : En) (p : Pc) : (AV.a (tkA p)).v E (.agg #[.int .i64 p.kind, .string (Bs p.name), .string (Bs p.text), Sl.v Sl.nil, .bool false]) :=
 ⟨tkc p, rfl, .cons rfl (.cons (sv_str E p.name) (.cons (sv_str E p.text) (.cons ⟨rfl, rfl, rfl⟩ (.cons rfl .nil))))⟩
theorem tkA0_v (E : En) : (AV.a tkA0).v E (.agg #[.int .i64 6, .string (Bs ([] : Str)), .string (Bs ([] : Str)), Sl.v Sl.nil, .bool false]) :=
 ⟨tkc0, rfl, .cons rfl (.cons (sv_str E []) (.cons (sv_str E []) (.cons ⟨rfl, rfl, rfl⟩ (.cons rfl .nil))))⟩
def madeOk (S : AH) : Bool := match S.at 0 with
 |some (_, _ :: _ :: .i .i64 (.ofNat m) :: _, _) => Nat.ble m 300
 |_ => false
theorem made_cell {S : AH} {F : List Nat} {b : Nat} {w : World} (h : BSt S F b w) (hm : madeOk S = true) : ∃ x : Int, w.cell? ((⟨b, 0, none⟩ : Addr).add 2) = some (.int .i64 x) ∧ ¬ (300 < x) := by
 unfold madeOk at hm
 split at hm
 ·rename_i T x y m r l hat
  obtain ⟨E, h⟩ := h
  obtain ⟨v, h1, rfl⟩ := h.cell hat (j := 2) rfl
  refine ⟨_, by rw [Addr.add_lit]; exact h1, ?_⟩
  rw [Nat.ble_eq] at hm
  intro h
  have : ((m : Nat) : Int) ≤ 300 := by omega
  exact absurd h (by simpa using this)
 ·cases hm
structure PStep (S : AH) (p : Pc) (S' : AH) : Prop where
 made : madeOk S = true
 cnt : retV (runT ftb 20 [.a (tkA p)] H00) = some (.c (.b true))
 step : stepM (runT ftb) 21 [.a (tkA p)] S = some S'
inductive Path : AH → List Pc → AH → Prop
 |nil (S : AH) : Path S [] S
 |cons {S S' S2 : AH} {p : Pc} {ps : List Pc} (h : PStep S p S') (t : Path S' ps S2) : Path S (p :: ps) S2
theorem Path.app {S S' S2 : AH} {ps qs : List Pc} (h : Path S ps S') (k : Path S' qs S2) : Path S (ps ++ qs) S2 := by
 induction h with
 |nil => exact k
 |cons h _ ih => exact .cons h (ih k)
def finT (S : AH) : Option T := match S.at 0 with
 |some (_, .p (some (r, 0)) :: _, _) => (match runT ftb 22 [.c (.p (some (r, 0)))] S with
  |some (v, H) => (match gcV v H with
   |some (v1, S1) => treeT S1 v1
   |none => none)
  |none => none)
 |_ => none
def initS : AH := mkH [.cells 60 [.p (some (1, 0)), .p none, .i .i64 1, .sl none 0 0 0, .p (some (2, 0)), .i .i64 0, .b false, .b false] .own,
 .cells 56 [.i .i64 0, .i .i64 1, .s [], .s [], .sl none 0 0 0, .p none, .sl none 0 0 0] .own, .cells 73 [.sl none 0 0 0] .own]
theorem newC {w : World} : Calls Tryz.prog 19 #[] w (Ret fun v w' => Ext w w' ∧ ∃ B, v = .pointer (some ⟨B, 0, none⟩) ∧ w.heap.size ≤ B ∧ Box w' B 73 [Sl.v Sl.nil]) := by
 refine format_New.ok ?_
 unfold format_New.vc
 intro w3 B hN hE hB
 exact ⟨hE, B, rfl, hN.ge, hB⟩
theorem buildC {w : World} (hw : WP w) {ps : List Pc} {l : Sl} (hl : Row [] w l 5 (ps.map tkc ++ [tkc0])) {S S2 : AH} {t : T} (hp : Path initS ps S) (h0 : stepM (runT ftb) 21 [.a tkA0] S = some S2) (hm2 : madeOk S2 = true) (ht : finT S2 = some t) (hck : t.check = true) (hbk : t.bulk ≤ 1099511627776) :
  Calls Tryz.prog 11 #[l.v] w (Ret fun v w' => Ext w w' ∧ ∃ sk : Sl, v = .tuple #[tv t Sl.nil sk, .int .i64 0] ∧ RdQ w' t Sl.nil sk) := by
 have hrun : RunOk Tryz.prog 0 (runT ftb) := runT_ok ftb_ok
 have hln : l.n = ps.length + 1 := by simpa using hl.len
 have hmost : l.n ≤ maxLen := Nat.le_trans hl.cap hl.most
 simp only [maxLen] at hmost
 have htab := table_lt hw
 refine build_Build.ok _ ?_
 unfold build_Build.vc
 intro w6 B2 B5 hN2 hN5 hne hE6
 refine CallK.ext newC ?_
 rintro _ w8 hE8 ⟨BL, rfl, hBL, hboxL⟩
 refine ⟨_, rfl, fun w10 B9 hN9 hE10 => ?_⟩
 have hE : Ext w w10 := (hE6.trans hE8).trans hE10
 have h2 := hN2.ge
 have h2' := hN2.lt
 have h5 := hN5.ge
 have h5' := hN5.lt
 have h9 := hN9.ge
 have hLlt := hboxL.lt
 have s6 := hE6.size
 have s8 := hE8.size
 have s10 := hE10.size
 refine ⟨fun w' => ∃ F, BSt S F B9 w' ∧ (∀ x ∈ F, w.heap.size ≤ x ∧ x ≠ B2) ∧ B2 < w'.heap.size ∧ Ext w w', fun hb5 hb9 => ?_, ?_⟩
 ·refine ⟨fun x w' => ∃ (dn td : List Pc) (S' : AH) (F : List Nat), x = (dn.length : Int) ∧ ps = dn ++ td ∧ Path S' td S ∧ BSt S' F B9 w' ∧ (∀ x ∈ F, w.heap.size ≤ x ∧ x ≠ B2) ∧ B2 < w'.heap.size ∧ Ext w w', fun x _ => l.n - x.toNat, ⟨[], ps, initS, [B9, B5, BL], rfl, rfl, hp, ?_, ?_, by omega, hE⟩, ?_⟩
  ·have hwp : WP w10 := WP.ext hw hE
   have hq : HR (bkE [⟨B9, 60, [.p (some (1, 0)), .p none, .i .i64 1, .sl none 0 0 0, .p (some (2, 0)), .i .i64 0, .b false, .b false], [.pointer (some (⟨B5, 0, none⟩ : Addr)), .pointer none, .int .i64 1, Sl.v Sl.nil, .pointer (some ⟨BL, 0, none⟩), .int .i64 0, .bool false, .bool false]⟩,
     ⟨B5, 56, [.i .i64 0, .i .i64 1, .s [], .s [], .sl none 0 0 0, .p none, .sl none 0 0 0], [.int .i64 0, .int .i64 1, .string (Bs ([] : Str)), .string (Bs ([] : Str)), Sl.v Sl.nil, .pointer none, Sl.v Sl.nil]⟩,
     ⟨BL, 73, [.sl none 0 0 0], [Sl.v Sl.nil]⟩]) initS (F0 w10 [B9, B5, BL]) w10 := by
    refine bkH_ok hwp ?_ ?_ ?_ ?_
    ·simp only [List.mem_cons, List.not_mem_nil, or_false, not_or]; omega
    ·simp
    ·intro i j x y hij hx hy
     rcases i with _ | _ | _ | i <;> rcases j with _ | _ | _ | j <;> simp at hx hy hij ⊢ <;> subst hx <;> subst hy <;> simp only <;> omega
    ·intro x hx
     have z : ∀ E : En, (AC.sl none 0 0 0).v E (Sl.v Sl.nil) := fun E => ⟨rfl, rfl, rfl⟩
     simp only [List.mem_cons, List.not_mem_nil, or_false] at hx
     rcases hx with rfl | rfl | rfl
     ·exact ⟨hb9, Pre.all2 (.cons ⟨B5, 7, rfl, rfl⟩ (.cons rfl (.cons rfl (.cons (z _) (.cons ⟨BL, 1, rfl, rfl⟩ (.cons rfl (.cons rfl (.cons rfl .nil))))))))⟩
     ·exact ⟨hb5, Pre.all2 (.cons rfl (.cons rfl (.cons (sv_str _ []) (.cons (sv_str _ []) (.cons (z _) (.cons rfl (.cons (z _) .nil)))))))⟩
     ·exact ⟨hboxL.ext hE10, Pre.all2 (.cons (z _) .nil)⟩
   refine ⟨_, ⟨8, rfl⟩, fun n p hn => ?_, hq, fun x hx => ?_⟩
   ·rcases n with _ | _ | _ | n <;> simp [bkE] at hn <;> subst hn <;> simp
   ·simp only [List.mem_cons, List.not_mem_nil, or_false] at hx
    rcases hx with rfl | rfl | rfl
    ·exact hN9.lt
    ·have := hE10.size; omega
    ·have := hE10.size; omega
  ·intro x hx
   simp only [List.mem_cons, List.not_mem_nil, or_false] at hx
   rcases hx with rfl | rfl | rfl
   ·exact ⟨by omega, by omega⟩
   ·exact ⟨by omega, fun e => hne e.symm⟩
   ·exact ⟨by omega, by omega⟩
  ·rintro _ w98 ⟨dn, td, S', F, rfl, hps, hpt, hS, hF, hB2, hE98⟩
   have hdn : dn.length ≤ ps.length := by rw [hps]; simp
   refine ⟨fun hlt => ⟨⟨by omega, hlt⟩, ?_⟩, fun hge => by omega⟩
   rw [Int.toNat_natCast]
   obtain ⟨p, hpa, _, hc, _⟩ := (hl.ext hE98).at_ dn.length (by simp; omega)
   refine ⟨p, hpa, ?_⟩
   cases td with
   |nil =>
    have e : (ps.map tkc ++ [tkc0]).getD dn.length [] = tkc0 := by
     rw [hps, List.append_nil, List.getD_eq_getElem?_getD, List.getElem?_append_right (by simp)]; simp
    rw [e] at hc
    cases hpt
    refine ⟨_, _, _, _, _, hc, fun w122 B120 hN hE122 => ⟨0, fun h => absurd rfl h, fun _ => ⟨F, hS.ext hE122, hF, Nat.lt_of_lt_of_le hB2 hE122.size, hE98.trans hE122⟩, fun h => absurd rfl h.1⟩⟩
   |cons q td =>
    have e : (ps.map tkc ++ [tkc0]).getD dn.length [] = tkc q := by
     rw [hps, List.getD_eq_getElem?_getD, List.getElem?_append_left (by simp)]; simp
    rw [e] at hc
    cases hpt with
    |@cons _ S1 _ _ _ hst hrest =>
    refine ⟨_, _, _, _, _, hc, fun w122 B120 hN hE122 => ?_⟩
    have hS1 := hS.ext hE122
    obtain ⟨x, hx1, hx2⟩ := made_cell hS1 hst.made
    have hk6 : ¬ q.kind = 6 := by cases q <;> simp [Pc.kind]
    refine ⟨x, fun _ => hx1, fun h => ?_, fun _ => ?_⟩
    ·rcases h with h | h
     ·exact absurd h hk6
     ·exact absurd h hx2
    have hwp : WP w122 := WP.ext hw (hE98.trans hE122)
    refine CallK.ext (closedV hst.cnt (.cons (tkA_v _ q) .nil) hwp) ?_
    rintro _ w128 hE128 ⟨E0, rfl⟩
    refine ⟨true, rfl, fun _ => ?_, fun h => by cases h⟩
    have hS2 := hS1.ext hE128
    have hlt98 : ∀ x ∈ F, x < w98.heap.size := by obtain ⟨E, h⟩ := hS; exact h.lt
    refine CallK.chg (hS2.step hrun (fun E => .cons (tkA_v E q) .nil) hst.step) (fun b hb => ?_) ?_
    ·simp only [List.mem_cons, List.not_mem_nil, or_false] at hb
     rcases hb with rfl | rfl
     ·exact fun hm => (hF _ hm).2 rfl
     ·exact fun hm => by have := hlt98 _ hm; have := hN.ge; omega
    ·rintro _ w130 hC ⟨⟨F', hS', hF'⟩, rfl⟩
     have hEw : Ext w w128 := (hE98.trans hE122).trans hE128
     have hEw' : Ext w w130 := Chg.fresh hEw hC fun x hx => (hF x hx).1
     refine ⟨rfl, ⟨by omega, by omega⟩, ⟨dn ++ [q], td, S1, F', by simp, by rw [hps]; simp, hrest, hS', fun x hx => ?_, ?_, hEw'⟩, by dsimp only; omega⟩
     ·rcases hF' x hx with h | h
      ·exact hF x h
      ·have := hE122.size; have := hE128.size; have := hEw.size
       exact ⟨by omega, by omega⟩
     ·have := hE122.size; have := hE128.size; have := hC.size; omega
 ·rintro w73 ⟨F, hS, hF, hB2, hE73⟩
  refine CallK.chg (hS.step hrun (fun E => .cons (tkA0_v E) .nil) h0) (fun b hb => ?_) ?_
  ·simp only [List.mem_cons, List.not_mem_nil, or_false] at hb
   subst hb
   exact fun hm => (hF _ hm).2 rfl
  ·rintro _ w135 hC ⟨⟨F2, hS2, hF2⟩, rfl⟩
   have hE135 : Ext w w135 := Chg.fresh hE73 hC fun x hx => (hF x hx).1
   have hB2' : B2 < w135.heap.size := Nat.lt_of_lt_of_le hB2 hC.size
   have hF2' : ∀ x ∈ F2, w.heap.size ≤ x ∧ x ≠ B2 := fun x hx => by
    rcases hF2 x hx with h | h
    ·exact hF x h
    ·have := hE73.size; exact ⟨by omega, by omega⟩
   obtain ⟨x, hx1, hx2⟩ := made_cell hS2 hm2
   refine ⟨rfl, x, hx1, fun h => absurd h hx2, fun _ => ?_⟩
   obtain ⟨E, hB⟩ := hS2
   unfold finT at ht
   split at ht
   ·rename_i T0 r rest lk hat
    split at ht
    ·rename_i v H hr
     split at ht
     ·rename_i v1 S1 hg
      obtain ⟨hg1, hv1⟩ := gcV_ok hg
      obtain ⟨u0, hu1, hu2⟩ := hB.cell hat (j := 0) rfl
      obtain ⟨Br, nr, hEr, rfl⟩ := hu2
      refine ⟨_, by rw [Addr.add_lit]; exact hu1, ?_⟩
      refine CallK.chg (F := F2) (Ret.mono (hB.call hrun (.cons (show AV.v E (.c (.p (some (r, 0)))) (.pointer (some ⟨Br, 0, none⟩)) from ⟨Br, nr, hEr, rfl⟩) .nil) hr hg1) fun u w' h => h) (fun b hb => ?_) ?_
      ·simp only [List.mem_cons, List.not_mem_nil, or_false] at hb
       subst hb
       exact fun hm => (hF2' _ hm).2 rfl
      ·rintro u w143 hC143 ⟨F3, E3, E3', hB3, hF3, _, hu, hren⟩
       have hu1' := hren _ _ _ hv1 hu
       obtain ⟨sk, rfl, hq⟩ := treeT_ok hB3.hr ht hu1'
       have hE143 : Ext w w143 := Chg.fresh hE135 hC143 fun x hx => (hF2' x hx).1
       have hF3' : ∀ x ∈ F3, w.heap.size ≤ x ∧ x ≠ B2 := fun x hx => by
        rcases hF3 x hx with h | h
        ·exact hF2' x h
        ·have := hE135.size; exact ⟨by omega, by omega⟩
       refine ⟨_, _, _, _, _, rfl, fun w146 B144 hN144 hE146 => ?_⟩
       refine CallK.exact (treeCheckQ t hbk (hq.ext hE146)) fun w149 hE149 => ?_
       rw [hck]
       refine ⟨true, rfl, fun h => (by cases h), fun _ w153 hC153 => ⟨Chg.fresh ((hE143.trans hE146).trans hE149) hC153 (by simpa using h2), ?_⟩⟩
       have hB6 := ((hB3.ext hE146).ext hE149).chg hC153 (fun x hx => by simpa using (hF3' x hx).2) (by simp; omega)
       obtain ⟨sk', e, hq⟩ := treeT_ok hB6.hr ht hu1'
       refine ⟨sk', ?_, hq⟩
       rw [← e]; rfl
     ·cases ht
    ·cases ht
   ·cases ht
end
end Ev
end
section
open Go.RowKit
def KQ (w : World) (ks : List T) (s : Sl) : Prop := s.n = ks.length ∧ ∀ i, i < ks.length → ∃ p sa sk, s.a = some p ∧ Cells w (p.add (i * 5)) (tc (ks.getD i T.nul) (sa, sk)) ∧ RdQ w (ks.getD i T.nul) sa sk
theorem RdQ.kq {w : World} {t : T} {sa sk : Sl} (h : RdQ w t sa sk) : KQ w t.kids sk := ⟨h.nkids, fun _ hi => h.kid hi⟩
theorem KQ.ext {w w' : World} {ks : List T} {s : Sl} (h : KQ w ks s) (c : Ext w w') : KQ w' ks s := ⟨h.1, fun i hi => by
 obtain ⟨p, sa, sk, h1, h2, h3⟩ := h.2 i hi
 exact ⟨p, sa, sk, h1, h2.chgE c, h3.ext c⟩⟩
theorem srcs_app (ps qs : List Pc) : srcs (ps ++ qs) = srcs ps ++ srcs qs := by simp [srcs]
namespace Ev
noncomputable section
structure PcG (p : Pc) : Prop where
 ok : p.Ok
 nm : (∀ x, p ≠ .t x) → retV (runT ftb 83 [.c (.s (ns p.name))] H00) = some (.c (.s (ns p.name)))
 raw : p.kind = 1 → retV (runT ftb 30 [.c (.s (ns p.name))] H00) = some (.c (.i .i64 0))
structure Srcs (ps : List Pc) : Prop where
 g : ∀ p ∈ ps, PcG p
 sep : Sep ps
 len : (srcs ps).length ≤ 100000
theorem low_closed : retV (runT ftb 46 [.c (.s (ns [60, 47]))] H00) = some (.c (.s (ns [60, 47]))) := by kernel_rfl
theorem allG {w : World} (hw : WP w) {ps : List Pc} (h : Srcs ps) : Calls Tryz.prog 16 #[.string (Bs (srcs ps))] w (Ret fun v w' => Ext w w' ∧ ∃ l : Sl, v = l.v ∧ Row [] w' l 5 (ps.map tkc ++ [tkc0])) :=
 allC hw (fun h c => WP.ext h c) ps (fun p hp => (h.g p hp).ok) h.sep h.len (fun p hp hx _ hw => closed_str ((h.g p hp).nm hx) hw) (fun p hp hx _ hw => closed_int ((h.g p hp).raw hx) hw) (fun _ hw => closed_str low_closed hw)
structure Runs (ps : List Pc) (t : T) : Prop where
 src : Srcs ps
 ex : ∃ S S2, Path initS ps S ∧ stepM (runT ftb) 21 [.a tkA0] S = some S2 ∧ madeOk S2 = true ∧ finT S2 = some t
 chk : t.check = true
 bulk : t.bulk ≤ 1099511627776
theorem buildS {w : World} (hw : WP w) {ps : List Pc} {t : T} (h : Runs ps t) {l : Sl} (hl : Row [] w l 5 (ps.map tkc ++ [tkc0])) : Calls Tryz.prog 11 #[l.v] w (Ret fun v w' => Ext w w' ∧ ∃ sk : Sl, v = .tuple #[tv t Sl.nil sk, .int .i64 0] ∧ RdQ w' t Sl.nil sk) := by
 obtain ⟨S, S2, h1, h2, h3, h4⟩ := h.ex
 exact buildC hw hl h1 h2 h3 h4 h.chk h.bulk
def elT (nm : Str) (ks : List T) : T := .node 2 nm [] [] ks
def txT (x : Str) : T := .node 3 [] x [] []
def pageT (hd ks : List T) : T := .node 1 [] [] [] [elT [104, 116, 109, 108] [elT [104, 101, 97, 100] hd, elT [98, 111, 100, 121] ks]]
theorem bodyC {w : World} (hw : WP w) {ps : List Pc} {hd ks : List T} (h : Runs ps (pageT hd ks)) : Calls Tryz.prog 18 #[.string (Bs (srcs ps))] w (Ret fun v w' => Ext w w' ∧ ∃ s : Sl, v = .tuple #[s.v, .bool true] ∧ KQ w' ks s) := by
 refine law14_body.ok _ ?_
 unfold law14_body.vc
 refine CallK.ext (allG hw h.src) ?_
 rintro _ w4 hE4 ⟨l, rfl, hl⟩
 refine ⟨l, rfl, ?_⟩
 refine CallK.ext (buildS (WP.ext hw hE4) h hl) ?_
 rintro _ w7 hE7 ⟨sk, rfl, hq⟩
 refine ⟨_, _, _, _, _, _, rfl, ?_⟩
 have n0 : sk.n = 1 := hq.nkids
 obtain ⟨p, sa1, sk1, hp, hc, hq1⟩ := hq.kid (i := 0) (show 0 < 1 by decide)
 have n1 : sk1.n = 2 := hq1.nkids
 obtain ⟨p1, sa2, sk2, hp1, hc1, hq2⟩ := hq1.kid (i := 1) (show 1 < 2 by decide)
 refine ⟨p, fun _ => ⟨⟨by omega, by omega⟩, hp⟩, fun w10 B8 hN hE10 => ?_⟩
 have c1 : w10.cell? ((p.add (0 * 5)).add 4) = some sk1.v := Ext.cell hE10 (hc 4 _ rfl)
 have c2 : w10.cell? ((p1.add (1 * 5)).add 1) = some (.string (Bs [98, 111, 100, 121])) := Ext.cell hE10 (hc1 1 _ rfl)
 have c3 : w10.cell? ((p1.add (1 * 5)).add 4) = some sk2.v := Ext.cell hE10 (hc1 4 _ rfl)
 refine ⟨sk1, fun _ => c1, p, fun _ => ⟨⟨by omega, by omega⟩, hp⟩, sk1, fun _ => c1, p1, fun _ => ⟨⟨by omega, by omega⟩, hp1⟩, [98, 111, 100, 121], fun _ => c2, fun hx => ?_, fun _ => ⟨⟨by omega, by omega⟩, p, hp, sk1, c1, ⟨by omega, by omega⟩, p1, hp1, sk2, c3, ?_, sk2, rfl, (hq2.kq).ext hE10⟩⟩
 ·rcases hx with ((hx | hx) | hx) | hx
  ·exact absurd rfl hx
  ·exact absurd (by rw [n0]; rfl) hx
  ·exact absurd (by rw [n1]; rfl) hx
  ·exact absurd rfl hx
 ·exact (hE4.trans hE7).trans hE10
end
end Ev
end
section
namespace Ev
set_option autoImplicit false
set_option maxRecDepth 100000
noncomputable section
def ptN (n : Nat) : AC := .p (some (n, 0))
def ksN (b n : Nat) : AC := .sl (some (b, 0)) n n 1
def nlN : AC := .sl none 0 0 0
def ndE (id : Nat) (nm : List Nat) (par : AC) (kids : AC) : AO := .cells 56 [.i .i64 (.ofNat id), .i .i64 2, .s nm, .s [], nlN, par, kids] .own
def ndX (id : Nat) (x : List Nat) (par : AC) : AO := .cells 56 [.i .i64 (.ofNat id), .i .i64 3, .s [], .s x, nlN, par, nlN] .own
def rowN (l : List AC) : AO := .cells 53 l .own
def baseN (made : Nat) (op : AC) (li : Nat) : List AO := [.cells 60 [ptN 1, ptN 5, .i .i64 (.ofNat made), op, ptN li, .i .i64 5, .b false, .b false] .own,
 .cells 56 [.i .i64 0, .i .i64 1, .s [], .s [], nlN, .p none, ksN 2 1] .own, rowN [ptN 3],
 ndE 2 [104, 116, 109, 108] (ptN 1) (ksN 4 2), rowN [ptN 5, ptN 6], ndE 3 [104, 101, 97, 100] (ptN 3) nlN]
abbrev sTok (f : AC) (S : AH) : Option AH := stepM (runT ftb) 21 [.a [.i .i64 1, f, .s [], .sl none 0 0 0, .b false]] S
abbrev eTok (f : AC) (S : AH) : Option AH := stepM (runT ftb) 21 [.a [.i .i64 2, f, .s [], .sl none 0 0 0, .b false]] S
abbrev xTok (f : AC) (S : AH) : Option AH := stepM (runT ftb) 21 [.a [.i .i64 3, .s [], f, .sl none 0 0 0, .b false]] S
def AllL {α : Type} (p : α → Prop) (l : List α) : Prop := List.rec True (fun x _ ih => p x ∧ ih) l
theorem AllL.mem {α : Type} {p : α → Prop} : ∀ {l : List α}, AllL p l → ∀ x ∈ l, p x
 |[], _, x, hx => by cases hx
 |y :: l, h, x, hx => by
  rcases List.mem_cons.1 hx with rfl | hx
  ·exact h.1
  ·exact AllL.mem h.2 x hx
def S0 : AH := mkH (baseN 4 (ksN 7 2) 8 ++ [ndE 4 [98, 111, 100, 121] (ptN 3) nlN, rowN [ptN 3, ptN 6], .cells 73 [nlN] .own])
theorem body_step : stepM (runT ftb) 21 [.a (tkA (.s [98, 111, 100, 121]))] initS = some S0 := by kernel_rfl
def twoP (nm x : AC) (S : AH) : Option AH := match sTok nm S with
 |some S1 => cond (madeOk S1) (xTok x S1) none
 |none => none
def itN (l : List (List Nat × List Nat)) : Nat → Nat → List AO := List.rec (fun _ _ => []) (fun p _ ih id k => ndE id p.1 (ptN 6) (ksN (Nat.succ k) 1) :: rowN [ptN (Nat.add k 2)] :: ndX (Nat.succ id) p.2 (ptN k) :: ih (Nat.add id 2) (Nat.add k 3)) l
def pt3 (n : Nat) : Nat → List AC := Nat.rec (fun _ => []) (fun _ ih k => ptN k :: ih (Nat.add k 3)) n
def hS (l : List (List Nat × List Nat)) (n o : Nat) : AH := match n with
 |0 => S0
 |Nat.succ m => mkH (baseN (Nat.add 4 (Nat.mul 2 n)) (.sl (some (Nat.add 8 (Nat.mul 3 n), 0)) o 3 1) (Nat.add 9 (Nat.mul 3 n)) ++ ndE 4 [98, 111, 100, 121] (ptN 3) (ksN 7 n) :: rowN (pt3 n 8) :: (itN l 5 8 ++ [rowN [ptN 3, ptN 6, ptN (Nat.add 8 (Nat.mul 3 m))], .cells 73 [nlN] .own]))
def itT (l : List (List Nat × List Nat)) : List T := List.rec [] (fun p _ ih => elT (txt p.1) [txT (txt p.2)] :: ih) l
def hFin (l : List (List Nat × List Nat)) (n o : Nat) : Prop := madeOk (hS l n o) = true ∧ stepM (runT ftb) 21 [.a tkA0] (hS l n o) = some (hS l n o) ∧ finT (hS l n o) = some (pageT [] (itT l))
end
end Ev
end
section
namespace Ev
set_option autoImplicit false
set_option maxRecDepth 100000
noncomputable section
def hNames : List Str := [[104, 49], [104, 50], [104, 51], [104, 52], [104, 53], [104, 54]]
def hX (l : List (List Nat)) : List (List Nat × List Nat) := List.rec [] (fun x _ ih => (x, [120]) :: ih) l
def hA (l : List (List Nat)) (n : Nat) : Prop := AllL (fun x => twoP (.s (ns x)) (.s [120]) (hS (hX l) n 2) = some (hS (hX (l ++ [ns x])) (Nat.succ n) 3)) hNames
def hB (l : List (List Nat)) (n : Nat) (y : Str) : Prop := AllL (fun x => twoP (.s (ns x)) (.s [120]) (hS (hX (l ++ [ns y])) n 3) = some (hS (hX ((l ++ [ns y]) ++ [ns x])) (Nat.succ n) 3)) hNames
def hE (l : List (List Nat)) (n : Nat) (y : Str) : Prop := AllL (fun x => eTok (.s (ns x)) (hS (hX (l ++ [ns y])) n 3) = some (hS (hX (l ++ [ns y])) n 2)) hNames
def hZ (l : List (List Nat)) (n : Nat) : Prop := AllL (fun y => stepM (runT ftb) 21 [.a tkA0] (hS (hX (l ++ [ns y])) n 3) = some (hS (hX (l ++ [ns y])) n 3)) hNames
def hTr (l : List (List Nat)) (n : Nat) : Prop := madeOk (hS (hX l) n 3) = true ∧ finT (hS (hX l) n 3) = some (pageT [] (itT (hX l)))
end
end Ev
end
section
namespace Ev
set_option autoImplicit false
set_option maxRecDepth 100000
noncomputable section
theorem ha0 : ∀ l : List (List Nat), l.length = 0 → hA l 0
 |[], _ => ⟨by show _ = _; kernel_rfl, by show _ = _; kernel_rfl, by show _ = _; kernel_rfl, by show _ = _; kernel_rfl, by show _ = _; kernel_rfl, by show _ = _; kernel_rfl, trivial⟩
theorem hb1_0 : ∀ l : List (List Nat), l.length = 0 → hB l 1 [104, 49]
 |[], _ => ⟨by show _ = _; kernel_rfl, by show _ = _; kernel_rfl, by show _ = _; kernel_rfl, by show _ = _; kernel_rfl, by show _ = _; kernel_rfl, by show _ = _; kernel_rfl, trivial⟩
theorem hb1_1 : ∀ l : List (List Nat), l.length = 0 → hB l 1 [104, 50]
 |[], _ => ⟨by show _ = _; kernel_rfl, by show _ = _; kernel_rfl, by show _ = _; kernel_rfl, by show _ = _; kernel_rfl, by show _ = _; kernel_rfl, by show _ = _; kernel_rfl, trivial⟩
theorem hb1_2 : ∀ l : List (List Nat), l.length = 0 → hB l 1 [104, 51]
 |[], _ => ⟨by show _ = _; kernel_rfl, by show _ = _; kernel_rfl, by show _ = _; kernel_rfl, by show _ = _; kernel_rfl, by show _ = _; kernel_rfl, by show _ = _; kernel_rfl, trivial⟩
theorem hb1_3 : ∀ l : List (List Nat), l.length = 0 → hB l 1 [104, 52]
 |[], _ => ⟨by show _ = _; kernel_rfl, by show _ = _; kernel_rfl, by show _ = _; kernel_rfl, by show _ = _; kernel_rfl, by show _ = _; kernel_rfl, by show _ = _; kernel_rfl, trivial⟩
theorem hb1_4 : ∀ l : List (List Nat), l.length = 0 → hB l 1 [104, 53]
 |[], _ => ⟨by show _ = _; kernel_rfl, by show _ = _; kernel_rfl, by show _ = _; kernel_rfl, by show _ = _; kernel_rfl, by show _ = _; kernel_rfl, by show _ = _; kernel_rfl, trivial⟩
theorem hb1_5 : ∀ l : List (List Nat), l.length = 0 → hB l 1 [104, 54]
 |[], _ => ⟨by show _ = _; kernel_rfl, by show _ = _; kernel_rfl, by show _ = _; kernel_rfl, by show _ = _; kernel_rfl, by show _ = _; kernel_rfl, by show _ = _; kernel_rfl, trivial⟩
theorem he1_0 : ∀ l : List (List Nat), l.length = 0 → hE l 1 [104, 49]
 |[], _ => ⟨by show _ = _; kernel_rfl, by show _ = _; kernel_rfl, by show _ = _; kernel_rfl, by show _ = _; kernel_rfl, by show _ = _; kernel_rfl, by show _ = _; kernel_rfl, trivial⟩
theorem he1_1 : ∀ l : List (List Nat), l.length = 0 → hE l 1 [104, 50]
 |[], _ => ⟨by show _ = _; kernel_rfl, by show _ = _; kernel_rfl, by show _ = _; kernel_rfl, by show _ = _; kernel_rfl, by show _ = _; kernel_rfl, by show _ = _; kernel_rfl, trivial⟩
theorem he1_2 : ∀ l : List (List Nat), l.length = 0 → hE l 1 [104, 51]
 |[], _ => ⟨by show _ = _; kernel_rfl, by show _ = _; kernel_rfl, by show _ = _; kernel_rfl, by show _ = _; kernel_rfl, by show _ = _; kernel_rfl, by show _ = _; kernel_rfl, trivial⟩
theorem he1_3 : ∀ l : List (List Nat), l.length = 0 → hE l 1 [104, 52]
 |[], _ => ⟨by show _ = _; kernel_rfl, by show _ = _; kernel_rfl, by show _ = _; kernel_rfl, by show _ = _; kernel_rfl, by show _ = _; kernel_rfl, by show _ = _; kernel_rfl, trivial⟩
theorem he1_4 : ∀ l : List (List Nat), l.length = 0 → hE l 1 [104, 53]
 |[], _ => ⟨by show _ = _; kernel_rfl, by show _ = _; kernel_rfl, by show _ = _; kernel_rfl, by show _ = _; kernel_rfl, by show _ = _; kernel_rfl, by show _ = _; kernel_rfl, trivial⟩
theorem he1_5 : ∀ l : List (List Nat), l.length = 0 → hE l 1 [104, 54]
 |[], _ => ⟨by show _ = _; kernel_rfl, by show _ = _; kernel_rfl, by show _ = _; kernel_rfl, by show _ = _; kernel_rfl, by show _ = _; kernel_rfl, by show _ = _; kernel_rfl, trivial⟩
theorem ha1 : ∀ l : List (List Nat), l.length = 1 → hA l 1
 |[r0], _ => ⟨by show _ = _; kernel_rfl, by show _ = _; kernel_rfl, by show _ = _; kernel_rfl, by show _ = _; kernel_rfl, by show _ = _; kernel_rfl, by show _ = _; kernel_rfl, trivial⟩
theorem hb2_0 : ∀ l : List (List Nat), l.length = 1 → hB l 2 [104, 49]
 |[r0], _ => ⟨by show _ = _; kernel_rfl, by show _ = _; kernel_rfl, by show _ = _; kernel_rfl, by show _ = _; kernel_rfl, by show _ = _; kernel_rfl, by show _ = _; kernel_rfl, trivial⟩
theorem hb2_1 : ∀ l : List (List Nat), l.length = 1 → hB l 2 [104, 50]
 |[r0], _ => ⟨by show _ = _; kernel_rfl, by show _ = _; kernel_rfl, by show _ = _; kernel_rfl, by show _ = _; kernel_rfl, by show _ = _; kernel_rfl, by show _ = _; kernel_rfl, trivial⟩
theorem hb2_2 : ∀ l : List (List Nat), l.length = 1 → hB l 2 [104, 51]
 |[r0], _ => ⟨by show _ = _; kernel_rfl, by show _ = _; kernel_rfl, by show _ = _; kernel_rfl, by show _ = _; kernel_rfl, by show _ = _; kernel_rfl, by show _ = _; kernel_rfl, trivial⟩
theorem hb2_3 : ∀ l : List (List Nat), l.length = 1 → hB l 2 [104, 52]
 |[r0], _ => ⟨by show _ = _; kernel_rfl, by show _ = _; kernel_rfl, by show _ = _; kernel_rfl, by show _ = _; kernel_rfl, by show _ = _; kernel_rfl, by show _ = _; kernel_rfl, trivial⟩
theorem hb2_4 : ∀ l : List (List Nat), l.length = 1 → hB l 2 [104, 53]
 |[r0], _ => ⟨by show _ = _; kernel_rfl, by show _ = _; kernel_rfl, by show _ = _; kernel_rfl, by show _ = _; kernel_rfl, by show _ = _; kernel_rfl, by show _ = _; kernel_rfl, trivial⟩
theorem hb2_5 : ∀ l : List (List Nat), l.length = 1 → hB l 2 [104, 54]
 |[r0], _ => ⟨by show _ = _; kernel_rfl, by show _ = _; kernel_rfl, by show _ = _; kernel_rfl, by show _ = _; kernel_rfl, by show _ = _; kernel_rfl, by show _ = _; kernel_rfl, trivial⟩
theorem he2_0 : ∀ l : List (List Nat), l.length = 1 → hE l 2 [104, 49]
 |[r0], _ => ⟨by show _ = _; kernel_rfl, by show _ = _; kernel_rfl, by show _ = _; kernel_rfl, by show _ = _; kernel_rfl, by show _ = _; kernel_rfl, by show _ = _; kernel_rfl, trivial⟩
theorem he2_1 : ∀ l : List (List Nat), l.length = 1 → hE l 2 [104, 50]
 |[r0], _ => ⟨by show _ = _; kernel_rfl, by show _ = _; kernel_rfl, by show _ = _; kernel_rfl, by show _ = _; kernel_rfl, by show _ = _; kernel_rfl, by show _ = _; kernel_rfl, trivial⟩
theorem he2_2 : ∀ l : List (List Nat), l.length = 1 → hE l 2 [104, 51]
 |[r0], _ => ⟨by show _ = _; kernel_rfl, by show _ = _; kernel_rfl, by show _ = _; kernel_rfl, by show _ = _; kernel_rfl, by show _ = _; kernel_rfl, by show _ = _; kernel_rfl, trivial⟩
theorem he2_3 : ∀ l : List (List Nat), l.length = 1 → hE l 2 [104, 52]
 |[r0], _ => ⟨by show _ = _; kernel_rfl, by show _ = _; kernel_rfl, by show _ = _; kernel_rfl, by show _ = _; kernel_rfl, by show _ = _; kernel_rfl, by show _ = _; kernel_rfl, trivial⟩
theorem he2_4 : ∀ l : List (List Nat), l.length = 1 → hE l 2 [104, 53]
 |[r0], _ => ⟨by show _ = _; kernel_rfl, by show _ = _; kernel_rfl, by show _ = _; kernel_rfl, by show _ = _; kernel_rfl, by show _ = _; kernel_rfl, by show _ = _; kernel_rfl, trivial⟩
theorem he2_5 : ∀ l : List (List Nat), l.length = 1 → hE l 2 [104, 54]
 |[r0], _ => ⟨by show _ = _; kernel_rfl, by show _ = _; kernel_rfl, by show _ = _; kernel_rfl, by show _ = _; kernel_rfl, by show _ = _; kernel_rfl, by show _ = _; kernel_rfl, trivial⟩
theorem hf0_2 : ∀ l : List (List Nat), l.length = 0 → hFin (hX l) 0 2
 |[], _ => ⟨by kernel_rfl, by kernel_rfl, by kernel_rfl⟩
theorem hf1_2 : ∀ l : List (List Nat), l.length = 1 → hFin (hX l) 1 2
 |[r0], _ => ⟨by kernel_rfl, by kernel_rfl, by kernel_rfl⟩
theorem hz1 : ∀ l : List (List Nat), l.length = 0 → hZ l 1
 |[], _ => ⟨by show _ = _; kernel_rfl, by show _ = _; kernel_rfl, by show _ = _; kernel_rfl, by show _ = _; kernel_rfl, by show _ = _; kernel_rfl, by show _ = _; kernel_rfl, trivial⟩
theorem ht1 : ∀ l : List (List Nat), l.length = 1 → hTr l 1
 |[r0], _ => ⟨by kernel_rfl, by kernel_rfl⟩
end
end Ev
end
section
namespace Ev
set_option autoImplicit false
set_option maxRecDepth 100000
noncomputable section
theorem ha2 : ∀ l : List (List Nat), l.length = 2 → hA l 2
 |[r0, r1], _ => ⟨by show _ = _; kernel_rfl, by show _ = _; kernel_rfl, by show _ = _; kernel_rfl, by show _ = _; kernel_rfl, by show _ = _; kernel_rfl, by show _ = _; kernel_rfl, trivial⟩
theorem hb3_0 : ∀ l : List (List Nat), l.length = 2 → hB l 3 [104, 49]
 |[r0, r1], _ => ⟨by show _ = _; kernel_rfl, by show _ = _; kernel_rfl, by show _ = _; kernel_rfl, by show _ = _; kernel_rfl, by show _ = _; kernel_rfl, by show _ = _; kernel_rfl, trivial⟩
theorem hb3_1 : ∀ l : List (List Nat), l.length = 2 → hB l 3 [104, 50]
 |[r0, r1], _ => ⟨by show _ = _; kernel_rfl, by show _ = _; kernel_rfl, by show _ = _; kernel_rfl, by show _ = _; kernel_rfl, by show _ = _; kernel_rfl, by show _ = _; kernel_rfl, trivial⟩
theorem hb3_2 : ∀ l : List (List Nat), l.length = 2 → hB l 3 [104, 51]
 |[r0, r1], _ => ⟨by show _ = _; kernel_rfl, by show _ = _; kernel_rfl, by show _ = _; kernel_rfl, by show _ = _; kernel_rfl, by show _ = _; kernel_rfl, by show _ = _; kernel_rfl, trivial⟩
theorem hb3_3 : ∀ l : List (List Nat), l.length = 2 → hB l 3 [104, 52]
 |[r0, r1], _ => ⟨by show _ = _; kernel_rfl, by show _ = _; kernel_rfl, by show _ = _; kernel_rfl, by show _ = _; kernel_rfl, by show _ = _; kernel_rfl, by show _ = _; kernel_rfl, trivial⟩
theorem hb3_4 : ∀ l : List (List Nat), l.length = 2 → hB l 3 [104, 53]
 |[r0, r1], _ => ⟨by show _ = _; kernel_rfl, by show _ = _; kernel_rfl, by show _ = _; kernel_rfl, by show _ = _; kernel_rfl, by show _ = _; kernel_rfl, by show _ = _; kernel_rfl, trivial⟩
theorem hb3_5 : ∀ l : List (List Nat), l.length = 2 → hB l 3 [104, 54]
 |[r0, r1], _ => ⟨by show _ = _; kernel_rfl, by show _ = _; kernel_rfl, by show _ = _; kernel_rfl, by show _ = _; kernel_rfl, by show _ = _; kernel_rfl, by show _ = _; kernel_rfl, trivial⟩
theorem he3_0 : ∀ l : List (List Nat), l.length = 2 → hE l 3 [104, 49]
 |[r0, r1], _ => ⟨by show _ = _; kernel_rfl, by show _ = _; kernel_rfl, by show _ = _; kernel_rfl, by show _ = _; kernel_rfl, by show _ = _; kernel_rfl, by show _ = _; kernel_rfl, trivial⟩
theorem he3_1 : ∀ l : List (List Nat), l.length = 2 → hE l 3 [104, 50]
 |[r0, r1], _ => ⟨by show _ = _; kernel_rfl, by show _ = _; kernel_rfl, by show _ = _; kernel_rfl, by show _ = _; kernel_rfl, by show _ = _; kernel_rfl, by show _ = _; kernel_rfl, trivial⟩
theorem he3_2 : ∀ l : List (List Nat), l.length = 2 → hE l 3 [104, 51]
 |[r0, r1], _ => ⟨by show _ = _; kernel_rfl, by show _ = _; kernel_rfl, by show _ = _; kernel_rfl, by show _ = _; kernel_rfl, by show _ = _; kernel_rfl, by show _ = _; kernel_rfl, trivial⟩
theorem he3_3 : ∀ l : List (List Nat), l.length = 2 → hE l 3 [104, 52]
 |[r0, r1], _ => ⟨by show _ = _; kernel_rfl, by show _ = _; kernel_rfl, by show _ = _; kernel_rfl, by show _ = _; kernel_rfl, by show _ = _; kernel_rfl, by show _ = _; kernel_rfl, trivial⟩
theorem he3_4 : ∀ l : List (List Nat), l.length = 2 → hE l 3 [104, 53]
 |[r0, r1], _ => ⟨by show _ = _; kernel_rfl, by show _ = _; kernel_rfl, by show _ = _; kernel_rfl, by show _ = _; kernel_rfl, by show _ = _; kernel_rfl, by show _ = _; kernel_rfl, trivial⟩
theorem he3_5 : ∀ l : List (List Nat), l.length = 2 → hE l 3 [104, 54]
 |[r0, r1], _ => ⟨by show _ = _; kernel_rfl, by show _ = _; kernel_rfl, by show _ = _; kernel_rfl, by show _ = _; kernel_rfl, by show _ = _; kernel_rfl, by show _ = _; kernel_rfl, trivial⟩
theorem ha3 : ∀ l : List (List Nat), l.length = 3 → hA l 3
 |[r0, r1, r2], _ => ⟨by show _ = _; kernel_rfl, by show _ = _; kernel_rfl, by show _ = _; kernel_rfl, by show _ = _; kernel_rfl, by show _ = _; kernel_rfl, by show _ = _; kernel_rfl, trivial⟩
theorem hb4_0 : ∀ l : List (List Nat), l.length = 3 → hB l 4 [104, 49]
 |[r0, r1, r2], _ => ⟨by show _ = _; kernel_rfl, by show _ = _; kernel_rfl, by show _ = _; kernel_rfl, by show _ = _; kernel_rfl, by show _ = _; kernel_rfl, by show _ = _; kernel_rfl, trivial⟩
theorem hb4_1 : ∀ l : List (List Nat), l.length = 3 → hB l 4 [104, 50]
 |[r0, r1, r2], _ => ⟨by show _ = _; kernel_rfl, by show _ = _; kernel_rfl, by show _ = _; kernel_rfl, by show _ = _; kernel_rfl, by show _ = _; kernel_rfl, by show _ = _; kernel_rfl, trivial⟩
theorem hb4_2 : ∀ l : List (List Nat), l.length = 3 → hB l 4 [104, 51]
 |[r0, r1, r2], _ => ⟨by show _ = _; kernel_rfl, by show _ = _; kernel_rfl, by show _ = _; kernel_rfl, by show _ = _; kernel_rfl, by show _ = _; kernel_rfl, by show _ = _; kernel_rfl, trivial⟩
theorem hb4_3 : ∀ l : List (List Nat), l.length = 3 → hB l 4 [104, 52]
 |[r0, r1, r2], _ => ⟨by show _ = _; kernel_rfl, by show _ = _; kernel_rfl, by show _ = _; kernel_rfl, by show _ = _; kernel_rfl, by show _ = _; kernel_rfl, by show _ = _; kernel_rfl, trivial⟩
theorem hb4_4 : ∀ l : List (List Nat), l.length = 3 → hB l 4 [104, 53]
 |[r0, r1, r2], _ => ⟨by show _ = _; kernel_rfl, by show _ = _; kernel_rfl, by show _ = _; kernel_rfl, by show _ = _; kernel_rfl, by show _ = _; kernel_rfl, by show _ = _; kernel_rfl, trivial⟩
theorem hb4_5 : ∀ l : List (List Nat), l.length = 3 → hB l 4 [104, 54]
 |[r0, r1, r2], _ => ⟨by show _ = _; kernel_rfl, by show _ = _; kernel_rfl, by show _ = _; kernel_rfl, by show _ = _; kernel_rfl, by show _ = _; kernel_rfl, by show _ = _; kernel_rfl, trivial⟩
theorem he4_0 : ∀ l : List (List Nat), l.length = 3 → hE l 4 [104, 49]
 |[r0, r1, r2], _ => ⟨by show _ = _; kernel_rfl, by show _ = _; kernel_rfl, by show _ = _; kernel_rfl, by show _ = _; kernel_rfl, by show _ = _; kernel_rfl, by show _ = _; kernel_rfl, trivial⟩
theorem he4_1 : ∀ l : List (List Nat), l.length = 3 → hE l 4 [104, 50]
 |[r0, r1, r2], _ => ⟨by show _ = _; kernel_rfl, by show _ = _; kernel_rfl, by show _ = _; kernel_rfl, by show _ = _; kernel_rfl, by show _ = _; kernel_rfl, by show _ = _; kernel_rfl, trivial⟩
theorem he4_2 : ∀ l : List (List Nat), l.length = 3 → hE l 4 [104, 51]
 |[r0, r1, r2], _ => ⟨by show _ = _; kernel_rfl, by show _ = _; kernel_rfl, by show _ = _; kernel_rfl, by show _ = _; kernel_rfl, by show _ = _; kernel_rfl, by show _ = _; kernel_rfl, trivial⟩
theorem he4_3 : ∀ l : List (List Nat), l.length = 3 → hE l 4 [104, 52]
 |[r0, r1, r2], _ => ⟨by show _ = _; kernel_rfl, by show _ = _; kernel_rfl, by show _ = _; kernel_rfl, by show _ = _; kernel_rfl, by show _ = _; kernel_rfl, by show _ = _; kernel_rfl, trivial⟩
theorem he4_4 : ∀ l : List (List Nat), l.length = 3 → hE l 4 [104, 53]
 |[r0, r1, r2], _ => ⟨by show _ = _; kernel_rfl, by show _ = _; kernel_rfl, by show _ = _; kernel_rfl, by show _ = _; kernel_rfl, by show _ = _; kernel_rfl, by show _ = _; kernel_rfl, trivial⟩
theorem he4_5 : ∀ l : List (List Nat), l.length = 3 → hE l 4 [104, 54]
 |[r0, r1, r2], _ => ⟨by show _ = _; kernel_rfl, by show _ = _; kernel_rfl, by show _ = _; kernel_rfl, by show _ = _; kernel_rfl, by show _ = _; kernel_rfl, by show _ = _; kernel_rfl, trivial⟩
theorem hf2_2 : ∀ l : List (List Nat), l.length = 2 → hFin (hX l) 2 2
 |[r0, r1], _ => ⟨by kernel_rfl, by kernel_rfl, by kernel_rfl⟩
theorem hz2 : ∀ l : List (List Nat), l.length = 1 → hZ l 2
 |[r0], _ => ⟨by show _ = _; kernel_rfl, by show _ = _; kernel_rfl, by show _ = _; kernel_rfl, by show _ = _; kernel_rfl, by show _ = _; kernel_rfl, by show _ = _; kernel_rfl, trivial⟩
theorem ht2 : ∀ l : List (List Nat), l.length = 2 → hTr l 2
 |[r0, r1], _ => ⟨by kernel_rfl, by kernel_rfl⟩
theorem hf3_2 : ∀ l : List (List Nat), l.length = 3 → hFin (hX l) 3 2
 |[r0, r1, r2], _ => ⟨by kernel_rfl, by kernel_rfl, by kernel_rfl⟩
theorem hz3 : ∀ l : List (List Nat), l.length = 2 → hZ l 3
 |[r0, r1], _ => ⟨by show _ = _; kernel_rfl, by show _ = _; kernel_rfl, by show _ = _; kernel_rfl, by show _ = _; kernel_rfl, by show _ = _; kernel_rfl, by show _ = _; kernel_rfl, trivial⟩
theorem ht3 : ∀ l : List (List Nat), l.length = 3 → hTr l 3
 |[r0, r1, r2], _ => ⟨by kernel_rfl, by kernel_rfl⟩
end
end Ev
end
section
namespace Ev
set_option autoImplicit false
set_option maxRecDepth 100000
noncomputable section
theorem ha4 : ∀ l : List (List Nat), l.length = 4 → hA l 4
 |[r0, r1, r2, r3], _ => ⟨by show _ = _; kernel_rfl, by show _ = _; kernel_rfl, by show _ = _; kernel_rfl, by show _ = _; kernel_rfl, by show _ = _; kernel_rfl, by show _ = _; kernel_rfl, trivial⟩
theorem hb5_0 : ∀ l : List (List Nat), l.length = 4 → hB l 5 [104, 49]
 |[r0, r1, r2, r3], _ => ⟨by show _ = _; kernel_rfl, by show _ = _; kernel_rfl, by show _ = _; kernel_rfl, by show _ = _; kernel_rfl, by show _ = _; kernel_rfl, by show _ = _; kernel_rfl, trivial⟩
theorem hb5_1 : ∀ l : List (List Nat), l.length = 4 → hB l 5 [104, 50]
 |[r0, r1, r2, r3], _ => ⟨by show _ = _; kernel_rfl, by show _ = _; kernel_rfl, by show _ = _; kernel_rfl, by show _ = _; kernel_rfl, by show _ = _; kernel_rfl, by show _ = _; kernel_rfl, trivial⟩
theorem hb5_2 : ∀ l : List (List Nat), l.length = 4 → hB l 5 [104, 51]
 |[r0, r1, r2, r3], _ => ⟨by show _ = _; kernel_rfl, by show _ = _; kernel_rfl, by show _ = _; kernel_rfl, by show _ = _; kernel_rfl, by show _ = _; kernel_rfl, by show _ = _; kernel_rfl, trivial⟩
theorem hb5_3 : ∀ l : List (List Nat), l.length = 4 → hB l 5 [104, 52]
 |[r0, r1, r2, r3], _ => ⟨by show _ = _; kernel_rfl, by show _ = _; kernel_rfl, by show _ = _; kernel_rfl, by show _ = _; kernel_rfl, by show _ = _; kernel_rfl, by show _ = _; kernel_rfl, trivial⟩
theorem hb5_4 : ∀ l : List (List Nat), l.length = 4 → hB l 5 [104, 53]
 |[r0, r1, r2, r3], _ => ⟨by show _ = _; kernel_rfl, by show _ = _; kernel_rfl, by show _ = _; kernel_rfl, by show _ = _; kernel_rfl, by show _ = _; kernel_rfl, by show _ = _; kernel_rfl, trivial⟩
theorem hb5_5 : ∀ l : List (List Nat), l.length = 4 → hB l 5 [104, 54]
 |[r0, r1, r2, r3], _ => ⟨by show _ = _; kernel_rfl, by show _ = _; kernel_rfl, by show _ = _; kernel_rfl, by show _ = _; kernel_rfl, by show _ = _; kernel_rfl, by show _ = _; kernel_rfl, trivial⟩
theorem he5_0 : ∀ l : List (List Nat), l.length = 4 → hE l 5 [104, 49]
 |[r0, r1, r2, r3], _ => ⟨by show _ = _; kernel_rfl, by show _ = _; kernel_rfl, by show _ = _; kernel_rfl, by show _ = _; kernel_rfl, by show _ = _; kernel_rfl, by show _ = _; kernel_rfl, trivial⟩
theorem he5_1 : ∀ l : List (List Nat), l.length = 4 → hE l 5 [104, 50]
 |[r0, r1, r2, r3], _ => ⟨by show _ = _; kernel_rfl, by show _ = _; kernel_rfl, by show _ = _; kernel_rfl, by show _ = _; kernel_rfl, by show _ = _; kernel_rfl, by show _ = _; kernel_rfl, trivial⟩
theorem he5_2 : ∀ l : List (List Nat), l.length = 4 → hE l 5 [104, 51]
 |[r0, r1, r2, r3], _ => ⟨by show _ = _; kernel_rfl, by show _ = _; kernel_rfl, by show _ = _; kernel_rfl, by show _ = _; kernel_rfl, by show _ = _; kernel_rfl, by show _ = _; kernel_rfl, trivial⟩
theorem he5_3 : ∀ l : List (List Nat), l.length = 4 → hE l 5 [104, 52]
 |[r0, r1, r2, r3], _ => ⟨by show _ = _; kernel_rfl, by show _ = _; kernel_rfl, by show _ = _; kernel_rfl, by show _ = _; kernel_rfl, by show _ = _; kernel_rfl, by show _ = _; kernel_rfl, trivial⟩
theorem he5_4 : ∀ l : List (List Nat), l.length = 4 → hE l 5 [104, 53]
 |[r0, r1, r2, r3], _ => ⟨by show _ = _; kernel_rfl, by show _ = _; kernel_rfl, by show _ = _; kernel_rfl, by show _ = _; kernel_rfl, by show _ = _; kernel_rfl, by show _ = _; kernel_rfl, trivial⟩
theorem he5_5 : ∀ l : List (List Nat), l.length = 4 → hE l 5 [104, 54]
 |[r0, r1, r2, r3], _ => ⟨by show _ = _; kernel_rfl, by show _ = _; kernel_rfl, by show _ = _; kernel_rfl, by show _ = _; kernel_rfl, by show _ = _; kernel_rfl, by show _ = _; kernel_rfl, trivial⟩
theorem ha5 : ∀ l : List (List Nat), l.length = 5 → hA l 5
 |[r0, r1, r2, r3, r4], _ => ⟨by show _ = _; kernel_rfl, by show _ = _; kernel_rfl, by show _ = _; kernel_rfl, by show _ = _; kernel_rfl, by show _ = _; kernel_rfl, by show _ = _; kernel_rfl, trivial⟩
theorem hb6_0 : ∀ l : List (List Nat), l.length = 5 → hB l 6 [104, 49]
 |[r0, r1, r2, r3, r4], _ => ⟨by show _ = _; kernel_rfl, by show _ = _; kernel_rfl, by show _ = _; kernel_rfl, by show _ = _; kernel_rfl, by show _ = _; kernel_rfl, by show _ = _; kernel_rfl, trivial⟩
theorem hb6_1 : ∀ l : List (List Nat), l.length = 5 → hB l 6 [104, 50]
 |[r0, r1, r2, r3, r4], _ => ⟨by show _ = _; kernel_rfl, by show _ = _; kernel_rfl, by show _ = _; kernel_rfl, by show _ = _; kernel_rfl, by show _ = _; kernel_rfl, by show _ = _; kernel_rfl, trivial⟩
theorem hb6_2 : ∀ l : List (List Nat), l.length = 5 → hB l 6 [104, 51]
 |[r0, r1, r2, r3, r4], _ => ⟨by show _ = _; kernel_rfl, by show _ = _; kernel_rfl, by show _ = _; kernel_rfl, by show _ = _; kernel_rfl, by show _ = _; kernel_rfl, by show _ = _; kernel_rfl, trivial⟩
theorem hb6_3 : ∀ l : List (List Nat), l.length = 5 → hB l 6 [104, 52]
 |[r0, r1, r2, r3, r4], _ => ⟨by show _ = _; kernel_rfl, by show _ = _; kernel_rfl, by show _ = _; kernel_rfl, by show _ = _; kernel_rfl, by show _ = _; kernel_rfl, by show _ = _; kernel_rfl, trivial⟩
theorem hb6_4 : ∀ l : List (List Nat), l.length = 5 → hB l 6 [104, 53]
 |[r0, r1, r2, r3, r4], _ => ⟨by show _ = _; kernel_rfl, by show _ = _; kernel_rfl, by show _ = _; kernel_rfl, by show _ = _; kernel_rfl, by show _ = _; kernel_rfl, by show _ = _; kernel_rfl, trivial⟩
theorem hb6_5 : ∀ l : List (List Nat), l.length = 5 → hB l 6 [104, 54]
 |[r0, r1, r2, r3, r4], _ => ⟨by show _ = _; kernel_rfl, by show _ = _; kernel_rfl, by show _ = _; kernel_rfl, by show _ = _; kernel_rfl, by show _ = _; kernel_rfl, by show _ = _; kernel_rfl, trivial⟩
theorem he6_0 : ∀ l : List (List Nat), l.length = 5 → hE l 6 [104, 49]
 |[r0, r1, r2, r3, r4], _ => ⟨by show _ = _; kernel_rfl, by show _ = _; kernel_rfl, by show _ = _; kernel_rfl, by show _ = _; kernel_rfl, by show _ = _; kernel_rfl, by show _ = _; kernel_rfl, trivial⟩
theorem he6_1 : ∀ l : List (List Nat), l.length = 5 → hE l 6 [104, 50]
 |[r0, r1, r2, r3, r4], _ => ⟨by show _ = _; kernel_rfl, by show _ = _; kernel_rfl, by show _ = _; kernel_rfl, by show _ = _; kernel_rfl, by show _ = _; kernel_rfl, by show _ = _; kernel_rfl, trivial⟩
theorem he6_2 : ∀ l : List (List Nat), l.length = 5 → hE l 6 [104, 51]
 |[r0, r1, r2, r3, r4], _ => ⟨by show _ = _; kernel_rfl, by show _ = _; kernel_rfl, by show _ = _; kernel_rfl, by show _ = _; kernel_rfl, by show _ = _; kernel_rfl, by show _ = _; kernel_rfl, trivial⟩
theorem he6_3 : ∀ l : List (List Nat), l.length = 5 → hE l 6 [104, 52]
 |[r0, r1, r2, r3, r4], _ => ⟨by show _ = _; kernel_rfl, by show _ = _; kernel_rfl, by show _ = _; kernel_rfl, by show _ = _; kernel_rfl, by show _ = _; kernel_rfl, by show _ = _; kernel_rfl, trivial⟩
theorem he6_4 : ∀ l : List (List Nat), l.length = 5 → hE l 6 [104, 53]
 |[r0, r1, r2, r3, r4], _ => ⟨by show _ = _; kernel_rfl, by show _ = _; kernel_rfl, by show _ = _; kernel_rfl, by show _ = _; kernel_rfl, by show _ = _; kernel_rfl, by show _ = _; kernel_rfl, trivial⟩
theorem he6_5 : ∀ l : List (List Nat), l.length = 5 → hE l 6 [104, 54]
 |[r0, r1, r2, r3, r4], _ => ⟨by show _ = _; kernel_rfl, by show _ = _; kernel_rfl, by show _ = _; kernel_rfl, by show _ = _; kernel_rfl, by show _ = _; kernel_rfl, by show _ = _; kernel_rfl, trivial⟩
theorem hf4_2 : ∀ l : List (List Nat), l.length = 4 → hFin (hX l) 4 2
 |[r0, r1, r2, r3], _ => ⟨by kernel_rfl, by kernel_rfl, by kernel_rfl⟩
theorem hz4 : ∀ l : List (List Nat), l.length = 3 → hZ l 4
 |[r0, r1, r2], _ => ⟨by show _ = _; kernel_rfl, by show _ = _; kernel_rfl, by show _ = _; kernel_rfl, by show _ = _; kernel_rfl, by show _ = _; kernel_rfl, by show _ = _; kernel_rfl, trivial⟩
theorem ht4 : ∀ l : List (List Nat), l.length = 4 → hTr l 4
 |[r0, r1, r2, r3], _ => ⟨by kernel_rfl, by kernel_rfl⟩
theorem hf5_2 : ∀ l : List (List Nat), l.length = 5 → hFin (hX l) 5 2
 |[r0, r1, r2, r3, r4], _ => ⟨by kernel_rfl, by kernel_rfl, by kernel_rfl⟩
theorem hz5 : ∀ l : List (List Nat), l.length = 4 → hZ l 5
 |[r0, r1, r2, r3], _ => ⟨by show _ = _; kernel_rfl, by show _ = _; kernel_rfl, by show _ = _; kernel_rfl, by show _ = _; kernel_rfl, by show _ = _; kernel_rfl, by show _ = _; kernel_rfl, trivial⟩
theorem ht5 : ∀ l : List (List Nat), l.length = 5 → hTr l 5
 |[r0, r1, r2, r3, r4], _ => ⟨by kernel_rfl, by kernel_rfl⟩
end
end Ev
end
section
namespace Ev
set_option autoImplicit false
set_option maxRecDepth 100000
noncomputable section
theorem ha6 : ∀ l : List (List Nat), l.length = 6 → hA l 6
 |[r0, r1, r2, r3, r4, r5], _ => ⟨by show _ = _; kernel_rfl, by show _ = _; kernel_rfl, by show _ = _; kernel_rfl, by show _ = _; kernel_rfl, by show _ = _; kernel_rfl, by show _ = _; kernel_rfl, trivial⟩
theorem hb7_0 : ∀ l : List (List Nat), l.length = 6 → hB l 7 [104, 49]
 |[r0, r1, r2, r3, r4, r5], _ => ⟨by show _ = _; kernel_rfl, by show _ = _; kernel_rfl, by show _ = _; kernel_rfl, by show _ = _; kernel_rfl, by show _ = _; kernel_rfl, by show _ = _; kernel_rfl, trivial⟩
theorem hb7_1 : ∀ l : List (List Nat), l.length = 6 → hB l 7 [104, 50]
 |[r0, r1, r2, r3, r4, r5], _ => ⟨by show _ = _; kernel_rfl, by show _ = _; kernel_rfl, by show _ = _; kernel_rfl, by show _ = _; kernel_rfl, by show _ = _; kernel_rfl, by show _ = _; kernel_rfl, trivial⟩
theorem hb7_2 : ∀ l : List (List Nat), l.length = 6 → hB l 7 [104, 51]
 |[r0, r1, r2, r3, r4, r5], _ => ⟨by show _ = _; kernel_rfl, by show _ = _; kernel_rfl, by show _ = _; kernel_rfl, by show _ = _; kernel_rfl, by show _ = _; kernel_rfl, by show _ = _; kernel_rfl, trivial⟩
theorem hb7_3 : ∀ l : List (List Nat), l.length = 6 → hB l 7 [104, 52]
 |[r0, r1, r2, r3, r4, r5], _ => ⟨by show _ = _; kernel_rfl, by show _ = _; kernel_rfl, by show _ = _; kernel_rfl, by show _ = _; kernel_rfl, by show _ = _; kernel_rfl, by show _ = _; kernel_rfl, trivial⟩
theorem hb7_4 : ∀ l : List (List Nat), l.length = 6 → hB l 7 [104, 53]
 |[r0, r1, r2, r3, r4, r5], _ => ⟨by show _ = _; kernel_rfl, by show _ = _; kernel_rfl, by show _ = _; kernel_rfl, by show _ = _; kernel_rfl, by show _ = _; kernel_rfl, by show _ = _; kernel_rfl, trivial⟩
theorem hb7_5 : ∀ l : List (List Nat), l.length = 6 → hB l 7 [104, 54]
 |[r0, r1, r2, r3, r4, r5], _ => ⟨by show _ = _; kernel_rfl, by show _ = _; kernel_rfl, by show _ = _; kernel_rfl, by show _ = _; kernel_rfl, by show _ = _; kernel_rfl, by show _ = _; kernel_rfl, trivial⟩
theorem he7_0 : ∀ l : List (List Nat), l.length = 6 → hE l 7 [104, 49]
 |[r0, r1, r2, r3, r4, r5], _ => ⟨by show _ = _; kernel_rfl, by show _ = _; kernel_rfl, by show _ = _; kernel_rfl, by show _ = _; kernel_rfl, by show _ = _; kernel_rfl, by show _ = _; kernel_rfl, trivial⟩
theorem he7_1 : ∀ l : List (List Nat), l.length = 6 → hE l 7 [104, 50]
 |[r0, r1, r2, r3, r4, r5], _ => ⟨by show _ = _; kernel_rfl, by show _ = _; kernel_rfl, by show _ = _; kernel_rfl, by show _ = _; kernel_rfl, by show _ = _; kernel_rfl, by show _ = _; kernel_rfl, trivial⟩
theorem he7_2 : ∀ l : List (List Nat), l.length = 6 → hE l 7 [104, 51]
 |[r0, r1, r2, r3, r4, r5], _ => ⟨by show _ = _; kernel_rfl, by show _ = _; kernel_rfl, by show _ = _; kernel_rfl, by show _ = _; kernel_rfl, by show _ = _; kernel_rfl, by show _ = _; kernel_rfl, trivial⟩
theorem he7_3 : ∀ l : List (List Nat), l.length = 6 → hE l 7 [104, 52]
 |[r0, r1, r2, r3, r4, r5], _ => ⟨by show _ = _; kernel_rfl, by show _ = _; kernel_rfl, by show _ = _; kernel_rfl, by show _ = _; kernel_rfl, by show _ = _; kernel_rfl, by show _ = _; kernel_rfl, trivial⟩
theorem he7_4 : ∀ l : List (List Nat), l.length = 6 → hE l 7 [104, 53]
 |[r0, r1, r2, r3, r4, r5], _ => ⟨by show _ = _; kernel_rfl, by show _ = _; kernel_rfl, by show _ = _; kernel_rfl, by show _ = _; kernel_rfl, by show _ = _; kernel_rfl, by show _ = _; kernel_rfl, trivial⟩
theorem he7_5 : ∀ l : List (List Nat), l.length = 6 → hE l 7 [104, 54]
 |[r0, r1, r2, r3, r4, r5], _ => ⟨by show _ = _; kernel_rfl, by show _ = _; kernel_rfl, by show _ = _; kernel_rfl, by show _ = _; kernel_rfl, by show _ = _; kernel_rfl, by show _ = _; kernel_rfl, trivial⟩
theorem ha7 : ∀ l : List (List Nat), l.length = 7 → hA l 7
 |[r0, r1, r2, r3, r4, r5, r6], _ => ⟨by show _ = _; kernel_rfl, by show _ = _; kernel_rfl, by show _ = _; kernel_rfl, by show _ = _; kernel_rfl, by show _ = _; kernel_rfl, by show _ = _; kernel_rfl, trivial⟩
theorem hb8_0 : ∀ l : List (List Nat), l.length = 7 → hB l 8 [104, 49]
 |[r0, r1, r2, r3, r4, r5, r6], _ => ⟨by show _ = _; kernel_rfl, by show _ = _; kernel_rfl, by show _ = _; kernel_rfl, by show _ = _; kernel_rfl, by show _ = _; kernel_rfl, by show _ = _; kernel_rfl, trivial⟩
theorem hb8_1 : ∀ l : List (List Nat), l.length = 7 → hB l 8 [104, 50]
 |[r0, r1, r2, r3, r4, r5, r6], _ => ⟨by show _ = _; kernel_rfl, by show _ = _; kernel_rfl, by show _ = _; kernel_rfl, by show _ = _; kernel_rfl, by show _ = _; kernel_rfl, by show _ = _; kernel_rfl, trivial⟩
theorem hb8_2 : ∀ l : List (List Nat), l.length = 7 → hB l 8 [104, 51]
 |[r0, r1, r2, r3, r4, r5, r6], _ => ⟨by show _ = _; kernel_rfl, by show _ = _; kernel_rfl, by show _ = _; kernel_rfl, by show _ = _; kernel_rfl, by show _ = _; kernel_rfl, by show _ = _; kernel_rfl, trivial⟩
theorem hb8_3 : ∀ l : List (List Nat), l.length = 7 → hB l 8 [104, 52]
 |[r0, r1, r2, r3, r4, r5, r6], _ => ⟨by show _ = _; kernel_rfl, by show _ = _; kernel_rfl, by show _ = _; kernel_rfl, by show _ = _; kernel_rfl, by show _ = _; kernel_rfl, by show _ = _; kernel_rfl, trivial⟩
theorem hb8_4 : ∀ l : List (List Nat), l.length = 7 → hB l 8 [104, 53]
 |[r0, r1, r2, r3, r4, r5, r6], _ => ⟨by show _ = _; kernel_rfl, by show _ = _; kernel_rfl, by show _ = _; kernel_rfl, by show _ = _; kernel_rfl, by show _ = _; kernel_rfl, by show _ = _; kernel_rfl, trivial⟩
theorem hb8_5 : ∀ l : List (List Nat), l.length = 7 → hB l 8 [104, 54]
 |[r0, r1, r2, r3, r4, r5, r6], _ => ⟨by show _ = _; kernel_rfl, by show _ = _; kernel_rfl, by show _ = _; kernel_rfl, by show _ = _; kernel_rfl, by show _ = _; kernel_rfl, by show _ = _; kernel_rfl, trivial⟩
theorem he8_0 : ∀ l : List (List Nat), l.length = 7 → hE l 8 [104, 49]
 |[r0, r1, r2, r3, r4, r5, r6], _ => ⟨by show _ = _; kernel_rfl, by show _ = _; kernel_rfl, by show _ = _; kernel_rfl, by show _ = _; kernel_rfl, by show _ = _; kernel_rfl, by show _ = _; kernel_rfl, trivial⟩
theorem he8_1 : ∀ l : List (List Nat), l.length = 7 → hE l 8 [104, 50]
 |[r0, r1, r2, r3, r4, r5, r6], _ => ⟨by show _ = _; kernel_rfl, by show _ = _; kernel_rfl, by show _ = _; kernel_rfl, by show _ = _; kernel_rfl, by show _ = _; kernel_rfl, by show _ = _; kernel_rfl, trivial⟩
theorem he8_2 : ∀ l : List (List Nat), l.length = 7 → hE l 8 [104, 51]
 |[r0, r1, r2, r3, r4, r5, r6], _ => ⟨by show _ = _; kernel_rfl, by show _ = _; kernel_rfl, by show _ = _; kernel_rfl, by show _ = _; kernel_rfl, by show _ = _; kernel_rfl, by show _ = _; kernel_rfl, trivial⟩
theorem he8_3 : ∀ l : List (List Nat), l.length = 7 → hE l 8 [104, 52]
 |[r0, r1, r2, r3, r4, r5, r6], _ => ⟨by show _ = _; kernel_rfl, by show _ = _; kernel_rfl, by show _ = _; kernel_rfl, by show _ = _; kernel_rfl, by show _ = _; kernel_rfl, by show _ = _; kernel_rfl, trivial⟩
theorem he8_4 : ∀ l : List (List Nat), l.length = 7 → hE l 8 [104, 53]
 |[r0, r1, r2, r3, r4, r5, r6], _ => ⟨by show _ = _; kernel_rfl, by show _ = _; kernel_rfl, by show _ = _; kernel_rfl, by show _ = _; kernel_rfl, by show _ = _; kernel_rfl, by show _ = _; kernel_rfl, trivial⟩
theorem he8_5 : ∀ l : List (List Nat), l.length = 7 → hE l 8 [104, 54]
 |[r0, r1, r2, r3, r4, r5, r6], _ => ⟨by show _ = _; kernel_rfl, by show _ = _; kernel_rfl, by show _ = _; kernel_rfl, by show _ = _; kernel_rfl, by show _ = _; kernel_rfl, by show _ = _; kernel_rfl, trivial⟩
theorem hf6_2 : ∀ l : List (List Nat), l.length = 6 → hFin (hX l) 6 2
 |[r0, r1, r2, r3, r4, r5], _ => ⟨by kernel_rfl, by kernel_rfl, by kernel_rfl⟩
theorem hz6 : ∀ l : List (List Nat), l.length = 5 → hZ l 6
 |[r0, r1, r2, r3, r4], _ => ⟨by show _ = _; kernel_rfl, by show _ = _; kernel_rfl, by show _ = _; kernel_rfl, by show _ = _; kernel_rfl, by show _ = _; kernel_rfl, by show _ = _; kernel_rfl, trivial⟩
theorem ht6 : ∀ l : List (List Nat), l.length = 6 → hTr l 6
 |[r0, r1, r2, r3, r4, r5], _ => ⟨by kernel_rfl, by kernel_rfl⟩
theorem hf7_2 : ∀ l : List (List Nat), l.length = 7 → hFin (hX l) 7 2
 |[r0, r1, r2, r3, r4, r5, r6], _ => ⟨by kernel_rfl, by kernel_rfl, by kernel_rfl⟩
theorem hz7 : ∀ l : List (List Nat), l.length = 6 → hZ l 7
 |[r0, r1, r2, r3, r4, r5], _ => ⟨by show _ = _; kernel_rfl, by show _ = _; kernel_rfl, by show _ = _; kernel_rfl, by show _ = _; kernel_rfl, by show _ = _; kernel_rfl, by show _ = _; kernel_rfl, trivial⟩
theorem ht7 : ∀ l : List (List Nat), l.length = 7 → hTr l 7
 |[r0, r1, r2, r3, r4, r5, r6], _ => ⟨by kernel_rfl, by kernel_rfl⟩
end
end Ev
end
section
namespace Ev
set_option autoImplicit false
set_option maxRecDepth 100000
noncomputable section
theorem ha8 : ∀ l : List (List Nat), l.length = 8 → hA l 8
 |[r0, r1, r2, r3, r4, r5, r6, r7], _ => ⟨by show _ = _; kernel_rfl, by show _ = _; kernel_rfl, by show _ = _; kernel_rfl, by show _ = _; kernel_rfl, by show _ = _; kernel_rfl, by show _ = _; kernel_rfl, trivial⟩
theorem hb9_0 : ∀ l : List (List Nat), l.length = 8 → hB l 9 [104, 49]
 |[r0, r1, r2, r3, r4, r5, r6, r7], _ => ⟨by show _ = _; kernel_rfl, by show _ = _; kernel_rfl, by show _ = _; kernel_rfl, by show _ = _; kernel_rfl, by show _ = _; kernel_rfl, by show _ = _; kernel_rfl, trivial⟩
theorem hb9_1 : ∀ l : List (List Nat), l.length = 8 → hB l 9 [104, 50]
 |[r0, r1, r2, r3, r4, r5, r6, r7], _ => ⟨by show _ = _; kernel_rfl, by show _ = _; kernel_rfl, by show _ = _; kernel_rfl, by show _ = _; kernel_rfl, by show _ = _; kernel_rfl, by show _ = _; kernel_rfl, trivial⟩
theorem hb9_2 : ∀ l : List (List Nat), l.length = 8 → hB l 9 [104, 51]
 |[r0, r1, r2, r3, r4, r5, r6, r7], _ => ⟨by show _ = _; kernel_rfl, by show _ = _; kernel_rfl, by show _ = _; kernel_rfl, by show _ = _; kernel_rfl, by show _ = _; kernel_rfl, by show _ = _; kernel_rfl, trivial⟩
theorem hb9_3 : ∀ l : List (List Nat), l.length = 8 → hB l 9 [104, 52]
 |[r0, r1, r2, r3, r4, r5, r6, r7], _ => ⟨by show _ = _; kernel_rfl, by show _ = _; kernel_rfl, by show _ = _; kernel_rfl, by show _ = _; kernel_rfl, by show _ = _; kernel_rfl, by show _ = _; kernel_rfl, trivial⟩
theorem hb9_4 : ∀ l : List (List Nat), l.length = 8 → hB l 9 [104, 53]
 |[r0, r1, r2, r3, r4, r5, r6, r7], _ => ⟨by show _ = _; kernel_rfl, by show _ = _; kernel_rfl, by show _ = _; kernel_rfl, by show _ = _; kernel_rfl, by show _ = _; kernel_rfl, by show _ = _; kernel_rfl, trivial⟩
theorem hb9_5 : ∀ l : List (List Nat), l.length = 8 → hB l 9 [104, 54]
 |[r0, r1, r2, r3, r4, r5, r6, r7], _ => ⟨by show _ = _; kernel_rfl, by show _ = _; kernel_rfl, by show _ = _; kernel_rfl, by show _ = _; kernel_rfl, by show _ = _; kernel_rfl, by show _ = _; kernel_rfl, trivial⟩
theorem he9_0 : ∀ l : List (List Nat), l.length = 8 → hE l 9 [104, 49]
 |[r0, r1, r2, r3, r4, r5, r6, r7], _ => ⟨by show _ = _; kernel_rfl, by show _ = _; kernel_rfl, by show _ = _; kernel_rfl, by show _ = _; kernel_rfl, by show _ = _; kernel_rfl, by show _ = _; kernel_rfl, trivial⟩
theorem he9_1 : ∀ l : List (List Nat), l.length = 8 → hE l 9 [104, 50]
 |[r0, r1, r2, r3, r4, r5, r6, r7], _ => ⟨by show _ = _; kernel_rfl, by show _ = _; kernel_rfl, by show _ = _; kernel_rfl, by show _ = _; kernel_rfl, by show _ = _; kernel_rfl, by show _ = _; kernel_rfl, trivial⟩
theorem he9_2 : ∀ l : List (List Nat), l.length = 8 → hE l 9 [104, 51]
 |[r0, r1, r2, r3, r4, r5, r6, r7], _ => ⟨by show _ = _; kernel_rfl, by show _ = _; kernel_rfl, by show _ = _; kernel_rfl, by show _ = _; kernel_rfl, by show _ = _; kernel_rfl, by show _ = _; kernel_rfl, trivial⟩
theorem he9_3 : ∀ l : List (List Nat), l.length = 8 → hE l 9 [104, 52]
 |[r0, r1, r2, r3, r4, r5, r6, r7], _ => ⟨by show _ = _; kernel_rfl, by show _ = _; kernel_rfl, by show _ = _; kernel_rfl, by show _ = _; kernel_rfl, by show _ = _; kernel_rfl, by show _ = _; kernel_rfl, trivial⟩
theorem he9_4 : ∀ l : List (List Nat), l.length = 8 → hE l 9 [104, 53]
 |[r0, r1, r2, r3, r4, r5, r6, r7], _ => ⟨by show _ = _; kernel_rfl, by show _ = _; kernel_rfl, by show _ = _; kernel_rfl, by show _ = _; kernel_rfl, by show _ = _; kernel_rfl, by show _ = _; kernel_rfl, trivial⟩
theorem he9_5 : ∀ l : List (List Nat), l.length = 8 → hE l 9 [104, 54]
 |[r0, r1, r2, r3, r4, r5, r6, r7], _ => ⟨by show _ = _; kernel_rfl, by show _ = _; kernel_rfl, by show _ = _; kernel_rfl, by show _ = _; kernel_rfl, by show _ = _; kernel_rfl, by show _ = _; kernel_rfl, trivial⟩
theorem ha9 : ∀ l : List (List Nat), l.length = 9 → hA l 9
 |[r0, r1, r2, r3, r4, r5, r6, r7, r8], _ => ⟨by show _ = _; kernel_rfl, by show _ = _; kernel_rfl, by show _ = _; kernel_rfl, by show _ = _; kernel_rfl, by show _ = _; kernel_rfl, by show _ = _; kernel_rfl, trivial⟩
theorem hb10_0 : ∀ l : List (List Nat), l.length = 9 → hB l 10 [104, 49]
 |[r0, r1, r2, r3, r4, r5, r6, r7, r8], _ => ⟨by show _ = _; kernel_rfl, by show _ = _; kernel_rfl, by show _ = _; kernel_rfl, by show _ = _; kernel_rfl, by show _ = _; kernel_rfl, by show _ = _; kernel_rfl, trivial⟩
theorem hb10_1 : ∀ l : List (List Nat), l.length = 9 → hB l 10 [104, 50]
 |[r0, r1, r2, r3, r4, r5, r6, r7, r8], _ => ⟨by show _ = _; kernel_rfl, by show _ = _; kernel_rfl, by show _ = _; kernel_rfl, by show _ = _; kernel_rfl, by show _ = _; kernel_rfl, by show _ = _; kernel_rfl, trivial⟩
theorem hb10_2 : ∀ l : List (List Nat), l.length = 9 → hB l 10 [104, 51]
 |[r0, r1, r2, r3, r4, r5, r6, r7, r8], _ => ⟨by show _ = _; kernel_rfl, by show _ = _; kernel_rfl, by show _ = _; kernel_rfl, by show _ = _; kernel_rfl, by show _ = _; kernel_rfl, by show _ = _; kernel_rfl, trivial⟩
theorem hb10_3 : ∀ l : List (List Nat), l.length = 9 → hB l 10 [104, 52]
 |[r0, r1, r2, r3, r4, r5, r6, r7, r8], _ => ⟨by show _ = _; kernel_rfl, by show _ = _; kernel_rfl, by show _ = _; kernel_rfl, by show _ = _; kernel_rfl, by show _ = _; kernel_rfl, by show _ = _; kernel_rfl, trivial⟩
theorem hb10_4 : ∀ l : List (List Nat), l.length = 9 → hB l 10 [104, 53]
 |[r0, r1, r2, r3, r4, r5, r6, r7, r8], _ => ⟨by show _ = _; kernel_rfl, by show _ = _; kernel_rfl, by show _ = _; kernel_rfl, by show _ = _; kernel_rfl, by show _ = _; kernel_rfl, by show _ = _; kernel_rfl, trivial⟩
theorem hb10_5 : ∀ l : List (List Nat), l.length = 9 → hB l 10 [104, 54]
 |[r0, r1, r2, r3, r4, r5, r6, r7, r8], _ => ⟨by show _ = _; kernel_rfl, by show _ = _; kernel_rfl, by show _ = _; kernel_rfl, by show _ = _; kernel_rfl, by show _ = _; kernel_rfl, by show _ = _; kernel_rfl, trivial⟩
theorem he10_0 : ∀ l : List (List Nat), l.length = 9 → hE l 10 [104, 49]
 |[r0, r1, r2, r3, r4, r5, r6, r7, r8], _ => ⟨by show _ = _; kernel_rfl, by show _ = _; kernel_rfl, by show _ = _; kernel_rfl, by show _ = _; kernel_rfl, by show _ = _; kernel_rfl, by show _ = _; kernel_rfl, trivial⟩
theorem he10_1 : ∀ l : List (List Nat), l.length = 9 → hE l 10 [104, 50]
 |[r0, r1, r2, r3, r4, r5, r6, r7, r8], _ => ⟨by show _ = _; kernel_rfl, by show _ = _; kernel_rfl, by show _ = _; kernel_rfl, by show _ = _; kernel_rfl, by show _ = _; kernel_rfl, by show _ = _; kernel_rfl, trivial⟩
theorem he10_2 : ∀ l : List (List Nat), l.length = 9 → hE l 10 [104, 51]
 |[r0, r1, r2, r3, r4, r5, r6, r7, r8], _ => ⟨by show _ = _; kernel_rfl, by show _ = _; kernel_rfl, by show _ = _; kernel_rfl, by show _ = _; kernel_rfl, by show _ = _; kernel_rfl, by show _ = _; kernel_rfl, trivial⟩
theorem he10_3 : ∀ l : List (List Nat), l.length = 9 → hE l 10 [104, 52]
 |[r0, r1, r2, r3, r4, r5, r6, r7, r8], _ => ⟨by show _ = _; kernel_rfl, by show _ = _; kernel_rfl, by show _ = _; kernel_rfl, by show _ = _; kernel_rfl, by show _ = _; kernel_rfl, by show _ = _; kernel_rfl, trivial⟩
theorem he10_4 : ∀ l : List (List Nat), l.length = 9 → hE l 10 [104, 53]
 |[r0, r1, r2, r3, r4, r5, r6, r7, r8], _ => ⟨by show _ = _; kernel_rfl, by show _ = _; kernel_rfl, by show _ = _; kernel_rfl, by show _ = _; kernel_rfl, by show _ = _; kernel_rfl, by show _ = _; kernel_rfl, trivial⟩
theorem he10_5 : ∀ l : List (List Nat), l.length = 9 → hE l 10 [104, 54]
 |[r0, r1, r2, r3, r4, r5, r6, r7, r8], _ => ⟨by show _ = _; kernel_rfl, by show _ = _; kernel_rfl, by show _ = _; kernel_rfl, by show _ = _; kernel_rfl, by show _ = _; kernel_rfl, by show _ = _; kernel_rfl, trivial⟩
theorem hf8_2 : ∀ l : List (List Nat), l.length = 8 → hFin (hX l) 8 2
 |[r0, r1, r2, r3, r4, r5, r6, r7], _ => ⟨by kernel_rfl, by kernel_rfl, by kernel_rfl⟩
theorem hz8 : ∀ l : List (List Nat), l.length = 7 → hZ l 8
 |[r0, r1, r2, r3, r4, r5, r6], _ => ⟨by show _ = _; kernel_rfl, by show _ = _; kernel_rfl, by show _ = _; kernel_rfl, by show _ = _; kernel_rfl, by show _ = _; kernel_rfl, by show _ = _; kernel_rfl, trivial⟩
theorem ht8 : ∀ l : List (List Nat), l.length = 8 → hTr l 8
 |[r0, r1, r2, r3, r4, r5, r6, r7], _ => ⟨by kernel_rfl, by kernel_rfl⟩
theorem hf9_2 : ∀ l : List (List Nat), l.length = 9 → hFin (hX l) 9 2
 |[r0, r1, r2, r3, r4, r5, r6, r7, r8], _ => ⟨by kernel_rfl, by kernel_rfl, by kernel_rfl⟩
theorem hz9 : ∀ l : List (List Nat), l.length = 8 → hZ l 9
 |[r0, r1, r2, r3, r4, r5, r6, r7], _ => ⟨by show _ = _; kernel_rfl, by show _ = _; kernel_rfl, by show _ = _; kernel_rfl, by show _ = _; kernel_rfl, by show _ = _; kernel_rfl, by show _ = _; kernel_rfl, trivial⟩
theorem ht9 : ∀ l : List (List Nat), l.length = 9 → hTr l 9
 |[r0, r1, r2, r3, r4, r5, r6, r7, r8], _ => ⟨by kernel_rfl, by kernel_rfl⟩
end
end Ev
end
section
namespace Ev
set_option autoImplicit false
set_option maxRecDepth 100000
noncomputable section
theorem ha10 : ∀ l : List (List Nat), l.length = 10 → hA l 10
 |[r0, r1, r2, r3, r4, r5, r6, r7, r8, r9], _ => ⟨by show _ = _; kernel_rfl, by show _ = _; kernel_rfl, by show _ = _; kernel_rfl, by show _ = _; kernel_rfl, by show _ = _; kernel_rfl, by show _ = _; kernel_rfl, trivial⟩
theorem hb11_0 : ∀ l : List (List Nat), l.length = 10 → hB l 11 [104, 49]
 |[r0, r1, r2, r3, r4, r5, r6, r7, r8, r9], _ => ⟨by show _ = _; kernel_rfl, by show _ = _; kernel_rfl, by show _ = _; kernel_rfl, by show _ = _; kernel_rfl, by show _ = _; kernel_rfl, by show _ = _; kernel_rfl, trivial⟩
theorem hb11_1 : ∀ l : List (List Nat), l.length = 10 → hB l 11 [104, 50]
 |[r0, r1, r2, r3, r4, r5, r6, r7, r8, r9], _ => ⟨by show _ = _; kernel_rfl, by show _ = _; kernel_rfl, by show _ = _; kernel_rfl, by show _ = _; kernel_rfl, by show _ = _; kernel_rfl, by show _ = _; kernel_rfl, trivial⟩
theorem hb11_2 : ∀ l : List (List Nat), l.length = 10 → hB l 11 [104, 51]
 |[r0, r1, r2, r3, r4, r5, r6, r7, r8, r9], _ => ⟨by show _ = _; kernel_rfl, by show _ = _; kernel_rfl, by show _ = _; kernel_rfl, by show _ = _; kernel_rfl, by show _ = _; kernel_rfl, by show _ = _; kernel_rfl, trivial⟩
theorem hb11_3 : ∀ l : List (List Nat), l.length = 10 → hB l 11 [104, 52]
 |[r0, r1, r2, r3, r4, r5, r6, r7, r8, r9], _ => ⟨by show _ = _; kernel_rfl, by show _ = _; kernel_rfl, by show _ = _; kernel_rfl, by show _ = _; kernel_rfl, by show _ = _; kernel_rfl, by show _ = _; kernel_rfl, trivial⟩
theorem hb11_4 : ∀ l : List (List Nat), l.length = 10 → hB l 11 [104, 53]
 |[r0, r1, r2, r3, r4, r5, r6, r7, r8, r9], _ => ⟨by show _ = _; kernel_rfl, by show _ = _; kernel_rfl, by show _ = _; kernel_rfl, by show _ = _; kernel_rfl, by show _ = _; kernel_rfl, by show _ = _; kernel_rfl, trivial⟩
theorem hb11_5 : ∀ l : List (List Nat), l.length = 10 → hB l 11 [104, 54]
 |[r0, r1, r2, r3, r4, r5, r6, r7, r8, r9], _ => ⟨by show _ = _; kernel_rfl, by show _ = _; kernel_rfl, by show _ = _; kernel_rfl, by show _ = _; kernel_rfl, by show _ = _; kernel_rfl, by show _ = _; kernel_rfl, trivial⟩
theorem he11_0 : ∀ l : List (List Nat), l.length = 10 → hE l 11 [104, 49]
 |[r0, r1, r2, r3, r4, r5, r6, r7, r8, r9], _ => ⟨by show _ = _; kernel_rfl, by show _ = _; kernel_rfl, by show _ = _; kernel_rfl, by show _ = _; kernel_rfl, by show _ = _; kernel_rfl, by show _ = _; kernel_rfl, trivial⟩
theorem he11_1 : ∀ l : List (List Nat), l.length = 10 → hE l 11 [104, 50]
 |[r0, r1, r2, r3, r4, r5, r6, r7, r8, r9], _ => ⟨by show _ = _; kernel_rfl, by show _ = _; kernel_rfl, by show _ = _; kernel_rfl, by show _ = _; kernel_rfl, by show _ = _; kernel_rfl, by show _ = _; kernel_rfl, trivial⟩
theorem he11_2 : ∀ l : List (List Nat), l.length = 10 → hE l 11 [104, 51]
 |[r0, r1, r2, r3, r4, r5, r6, r7, r8, r9], _ => ⟨by show _ = _; kernel_rfl, by show _ = _; kernel_rfl, by show _ = _; kernel_rfl, by show _ = _; kernel_rfl, by show _ = _; kernel_rfl, by show _ = _; kernel_rfl, trivial⟩
theorem he11_3 : ∀ l : List (List Nat), l.length = 10 → hE l 11 [104, 52]
 |[r0, r1, r2, r3, r4, r5, r6, r7, r8, r9], _ => ⟨by show _ = _; kernel_rfl, by show _ = _; kernel_rfl, by show _ = _; kernel_rfl, by show _ = _; kernel_rfl, by show _ = _; kernel_rfl, by show _ = _; kernel_rfl, trivial⟩
theorem he11_4 : ∀ l : List (List Nat), l.length = 10 → hE l 11 [104, 53]
 |[r0, r1, r2, r3, r4, r5, r6, r7, r8, r9], _ => ⟨by show _ = _; kernel_rfl, by show _ = _; kernel_rfl, by show _ = _; kernel_rfl, by show _ = _; kernel_rfl, by show _ = _; kernel_rfl, by show _ = _; kernel_rfl, trivial⟩
theorem he11_5 : ∀ l : List (List Nat), l.length = 10 → hE l 11 [104, 54]
 |[r0, r1, r2, r3, r4, r5, r6, r7, r8, r9], _ => ⟨by show _ = _; kernel_rfl, by show _ = _; kernel_rfl, by show _ = _; kernel_rfl, by show _ = _; kernel_rfl, by show _ = _; kernel_rfl, by show _ = _; kernel_rfl, trivial⟩
theorem ha11 : ∀ l : List (List Nat), l.length = 11 → hA l 11
 |[r0, r1, r2, r3, r4, r5, r6, r7, r8, r9, r10], _ => ⟨by show _ = _; kernel_rfl, by show _ = _; kernel_rfl, by show _ = _; kernel_rfl, by show _ = _; kernel_rfl, by show _ = _; kernel_rfl, by show _ = _; kernel_rfl, trivial⟩
theorem he12_0 : ∀ l : List (List Nat), l.length = 11 → hE l 12 [104, 49]
 |[r0, r1, r2, r3, r4, r5, r6, r7, r8, r9, r10], _ => ⟨by show _ = _; kernel_rfl, by show _ = _; kernel_rfl, by show _ = _; kernel_rfl, by show _ = _; kernel_rfl, by show _ = _; kernel_rfl, by show _ = _; kernel_rfl, trivial⟩
theorem he12_1 : ∀ l : List (List Nat), l.length = 11 → hE l 12 [104, 50]
 |[r0, r1, r2, r3, r4, r5, r6, r7, r8, r9, r10], _ => ⟨by show _ = _; kernel_rfl, by show _ = _; kernel_rfl, by show _ = _; kernel_rfl, by show _ = _; kernel_rfl, by show _ = _; kernel_rfl, by show _ = _; kernel_rfl, trivial⟩
theorem he12_2 : ∀ l : List (List Nat), l.length = 11 → hE l 12 [104, 51]
 |[r0, r1, r2, r3, r4, r5, r6, r7, r8, r9, r10], _ => ⟨by show _ = _; kernel_rfl, by show _ = _; kernel_rfl, by show _ = _; kernel_rfl, by show _ = _; kernel_rfl, by show _ = _; kernel_rfl, by show _ = _; kernel_rfl, trivial⟩
theorem he12_3 : ∀ l : List (List Nat), l.length = 11 → hE l 12 [104, 52]
 |[r0, r1, r2, r3, r4, r5, r6, r7, r8, r9, r10], _ => ⟨by show _ = _; kernel_rfl, by show _ = _; kernel_rfl, by show _ = _; kernel_rfl, by show _ = _; kernel_rfl, by show _ = _; kernel_rfl, by show _ = _; kernel_rfl, trivial⟩
theorem he12_4 : ∀ l : List (List Nat), l.length = 11 → hE l 12 [104, 53]
 |[r0, r1, r2, r3, r4, r5, r6, r7, r8, r9, r10], _ => ⟨by show _ = _; kernel_rfl, by show _ = _; kernel_rfl, by show _ = _; kernel_rfl, by show _ = _; kernel_rfl, by show _ = _; kernel_rfl, by show _ = _; kernel_rfl, trivial⟩
theorem he12_5 : ∀ l : List (List Nat), l.length = 11 → hE l 12 [104, 54]
 |[r0, r1, r2, r3, r4, r5, r6, r7, r8, r9, r10], _ => ⟨by show _ = _; kernel_rfl, by show _ = _; kernel_rfl, by show _ = _; kernel_rfl, by show _ = _; kernel_rfl, by show _ = _; kernel_rfl, by show _ = _; kernel_rfl, trivial⟩
theorem hf10_2 : ∀ l : List (List Nat), l.length = 10 → hFin (hX l) 10 2
 |[r0, r1, r2, r3, r4, r5, r6, r7, r8, r9], _ => ⟨by kernel_rfl, by kernel_rfl, by kernel_rfl⟩
theorem hz10 : ∀ l : List (List Nat), l.length = 9 → hZ l 10
 |[r0, r1, r2, r3, r4, r5, r6, r7, r8], _ => ⟨by show _ = _; kernel_rfl, by show _ = _; kernel_rfl, by show _ = _; kernel_rfl, by show _ = _; kernel_rfl, by show _ = _; kernel_rfl, by show _ = _; kernel_rfl, trivial⟩
theorem ht10 : ∀ l : List (List Nat), l.length = 10 → hTr l 10
 |[r0, r1, r2, r3, r4, r5, r6, r7, r8, r9], _ => ⟨by kernel_rfl, by kernel_rfl⟩
theorem hf11_2 : ∀ l : List (List Nat), l.length = 11 → hFin (hX l) 11 2
 |[r0, r1, r2, r3, r4, r5, r6, r7, r8, r9, r10], _ => ⟨by kernel_rfl, by kernel_rfl, by kernel_rfl⟩
theorem hz11 : ∀ l : List (List Nat), l.length = 10 → hZ l 11
 |[r0, r1, r2, r3, r4, r5, r6, r7, r8, r9], _ => ⟨by show _ = _; kernel_rfl, by show _ = _; kernel_rfl, by show _ = _; kernel_rfl, by show _ = _; kernel_rfl, by show _ = _; kernel_rfl, by show _ = _; kernel_rfl, trivial⟩
theorem ht11 : ∀ l : List (List Nat), l.length = 11 → hTr l 11
 |[r0, r1, r2, r3, r4, r5, r6, r7, r8, r9, r10], _ => ⟨by kernel_rfl, by kernel_rfl⟩
theorem hf12_2 : ∀ l : List (List Nat), l.length = 12 → hFin (hX l) 12 2
 |[r0, r1, r2, r3, r4, r5, r6, r7, r8, r9, r10, r11], _ => ⟨by kernel_rfl, by kernel_rfl, by kernel_rfl⟩
theorem hz12 : ∀ l : List (List Nat), l.length = 11 → hZ l 12
 |[r0, r1, r2, r3, r4, r5, r6, r7, r8, r9, r10], _ => ⟨by show _ = _; kernel_rfl, by show _ = _; kernel_rfl, by show _ = _; kernel_rfl, by show _ = _; kernel_rfl, by show _ = _; kernel_rfl, by show _ = _; kernel_rfl, trivial⟩
theorem ht12 : ∀ l : List (List Nat), l.length = 12 → hTr l 12
 |[r0, r1, r2, r3, r4, r5, r6, r7, r8, r9, r10, r11], _ => ⟨by kernel_rfl, by kernel_rfl⟩
end
end Ev
end
section
open Go.RowKit
def Nur (A : List Nat) (w : World) (s : Sl) (ts : List T) : Prop :=
 ∃ ps : List (Sl × Sl), ps.length = ts.length ∧ Own A w s 5 28 (List.zipWith tc ts ps) ∧ ∀ (i : Nat) (t : T) (p : Sl × Sl), ts[i]? = some t → ps[i]? = some p → RdT (s.blk ++ A) w t p.1 p.2
theorem Nur.nil (A : List Nat) (w : World) : Nur A w Sl.nil [] := ⟨[], rfl, Own.nil _ _ _ _, by simp⟩
theorem Nur.chg {A F : List Nat} {w w' : World} {s : Sl} {ts : List T} (h : Nur A w s ts) (c : Chg F w w') (hF : ∀ b ∈ F, b ∈ A) : Nur A w' s ts := by
 obtain ⟨ps, hl, ho, hr⟩ := h
 exact ⟨ps, hl, ho.chg c hF, fun i t p ht hp => (hr i t p ht hp).chg c (fun b hb => List.mem_append_right _ (hF b hb))⟩
theorem Nur.ext {A : List Nat} {w w' : World} {s : Sl} {ts : List T} (h : Nur A w s ts) (c : Ext w w') : Nur A w' s ts := h.chg c (by simp)
theorem Nur.less {A A' : List Nat} {w : World} {s : Sl} {ts : List T} (h : Nur A w s ts) (hA : ∀ b ∈ A', b ∈ A) : Nur A' w s ts := by
 obtain ⟨ps, hl, ho, hr⟩ := h
 exact ⟨ps, hl, ho.less hA, fun i t p ht hp => (hr i t p ht hp).less (fun b hb => by
  rcases List.mem_append.1 hb with hb | hb
  ·exact List.mem_append_left _ hb
  ·exact List.mem_append_right _ (hA b hb))⟩
theorem Nur.rd {A : List Nat} {w : World} {s sa : Sl} {ts : List T} (h : Nur A w s ts) {k : Int} {n x : Str} {ats : List (Str × Str)} (ha : Row A w sa 2 (ats.map ac)) : RdT A w (.node k n x ats ts) sa s := by
 obtain ⟨ps, hl, ho, hr⟩ := h
 exact .mk ps ha hl ho.row (fun i t p ht hp => (hr i t p ht hp).less (fun b hb => List.mem_append_right _ hb))
end
section
open Go.RowKit
def ic (z : Int) : List Value := [.int .i64 z]
inductive Calm : T → Prop where
 |node (k : Int) (n x : Str) (ats : List (Str × Str)) (ks : List T) : (∀ p ∈ ats, p.1 ≠ [122, 122]) → (∀ u ∈ ks, Calm u) → Calm (.node k n x ats ks)
structure Sprout (d : Nat) (t : T) : Prop where
 ok : nodeOk t = true
 kind : 2 ≤ t.kind ∧ t.kind ≤ 4
 deep : t.depth ≤ d
 few : t.bulk ≤ 15 * t.size
 calm : Calm t
theorem Sprout.up {d e : Nat} {t : T} (h : Sprout d t) (he : d ≤ e) : Sprout e t := ⟨h.ok, h.kind, Nat.le_trans h.deep he, h.few, h.calm⟩
end
section
open Go.RowKit
namespace Ev
theorem elT_size (nm : Str) (ks : List T) : (elT nm ks).size = 1 + (ks.map T.size).sum := T.size_eq _
theorem elT_depth (nm : Str) (ks : List T) : (elT nm ks).depth = 1 + (ks.map T.depth).foldr max 0 := T.depth_eq _
theorem elT_bulk (nm : Str) (ks : List T) : (elT nm ks).bulk = 1 + nm.length + 0 + 0 + (ks.map T.bulk).sum := T.bulk_eq _
theorem txT_size (x : Str) : (txT x).size = 1 := T.size_eq _
theorem txT_depth (x : Str) : (txT x).depth = 1 := T.depth_eq _
theorem txT_bulk (x : Str) : (txT x).bulk = 1 + 0 + x.length + 0 + 0 := T.bulk_eq _
theorem elT_ok {nm : Str} {ks : List T} (hn : nameOk nm = true) (hk : ∀ u ∈ ks, nodeOk u = true ∧ u.kind ≠ 5) : nodeOk (elT nm ks) = true := by
 rw [nodeOk_el rfl]
 have : kidsOk (elT nm ks) = true := by
  unfold kidsOk
  rw [List.all_eq_true]
  intro u hu
  obtain ⟨h1, h2⟩ := hk u hu
  rw [h1, decide_eq_false h2]; rfl
 rw [this]
 show (nameOk nm && true && (true && true) && true) = true
 rw [hn]; rfl
theorem txT_ok {x : Str} (hx : x ≠ []) (hl : x.length ≤ 4096) : nodeOk (txT x) = true := by
 rw [nodeOk_ne (t := txT x) (show (3 : Int) ≠ 2 by decide)]
 have h1 : x.isEmpty = false := by cases x with
  |nil => exact absurd rfl hx
  |cons a b => rfl
 show (true && true && (if (3 : Int) = 3 then true && !x.isEmpty && decide (x.length ≤ 4096) else _)) = true
 rw [if_pos rfl, h1, decide_eq_true hl]; rfl
theorem page_check {ks : List T} (hk : ∀ u ∈ ks, nodeOk u = true ∧ u.kind ≠ 5) (hs : (ks.map T.size).sum ≤ 290) (hd : (ks.map T.depth).foldr max 0 ≤ 50) : (pageT [] ks).check = true := by
 have h1 : nodeOk (elT [104, 101, 97, 100] []) = true := elT_ok (by decide) (by simp)
 have h2 : nodeOk (elT [98, 111, 100, 121] ks) = true := elT_ok (by decide) hk
 have h3 : nodeOk (elT [104, 116, 109, 108] [elT [104, 101, 97, 100] [], elT [98, 111, 100, 121] ks]) = true := elT_ok (by decide) fun u hu => by
  simp only [List.mem_cons, List.not_mem_nil, or_false] at hu
  rcases hu with rfl | rfl
  ·exact ⟨h1, by decide⟩
  ·exact ⟨h2, by show (2 : Int) ≠ 5; decide⟩
 have hsz : (pageT [] ks).size = 4 + (ks.map T.size).sum := by
  rw [T.size_eq]
  show 1 + ([elT _ [elT _ [], elT _ ks]].map T.size).sum = _
  simp only [List.map_cons, List.map_nil, List.sum_cons, List.sum_nil, elT_size]; omega
 have hdp : (pageT [] ks).depth ≤ 3 + (ks.map T.depth).foldr max 0 := by
  rw [T.depth_eq]
  show 1 + ([elT _ [elT _ [], elT _ ks]].map T.depth).foldr max 0 ≤ _
  simp only [List.map_cons, List.map_nil, List.foldr_cons, List.foldr_nil, elT_depth]; omega
 have hkk : kidsOk (pageT [] ks) = true := by
  unfold kidsOk
  show ([elT _ [elT _ [], elT _ ks]].all _) = true
  rw [List.all_cons, h3]
  rfl
 unfold T.check
 rw [hkk, decide_eq_true (show (pageT [] ks).size ≤ 300 by omega), decide_eq_true (show (pageT [] ks).depth ≤ 60 by omega)]
 rfl
theorem page_bulk {ks : List T} (h : (ks.map T.bulk).sum ≤ 1000000) : (pageT [] ks).bulk ≤ 1099511627776 := by
 rw [T.bulk_eq]
 show 1 + 0 + 0 + 0 + ([elT _ [elT _ [], elT _ ks]].map T.bulk).sum ≤ _
 simp only [List.map_cons, List.map_nil, List.sum_cons, List.sum_nil, elT_bulk, List.length_cons, List.length_nil]; omega
theorem rowI {A : List Nat} {w : World} {s : Sl} {l : List Int} (h : Row A w s 1 (l.map ic)) {i : Nat} (hi : i < l.length) : s.n = l.length ∧ ∃ p, s.a = some p ∧ w.cell? (p.add (i * 1)) = some (.int .i64 (l.getD i 0)) := by
 refine ⟨by simpa using h.len, ?_⟩
 obtain ⟨p, hp, _, hc, _⟩ := h.at_ i (by simpa using hi)
 have e : (l.map ic).getD i [] = ic (l.getD i 0) := by simp [List.getD_eq_getElem?_getD, hi]
 rw [e] at hc
 have h0 := hc 0 _ rfl
 rw [Addr.add_zero'] at h0
 exact ⟨p, hp, h0⟩
end Ev
end
section
namespace Ev
set_option autoImplicit false
open Go.RowKit
noncomputable section
theorem awake_run : good (runT ftb 10 [] H00) = true := by kernel_rfl
theorem awakeLaw {w : World} (hw : WP w) : Calls Tryz.prog 10 #[] w (Ret fun v w' => Ext w w' ∧ v = .bool true) := closed_true ftb_ok hw .nil awake_run
end
end Ev
end
section
namespace Ev
set_option autoImplicit false
set_option maxRecDepth 100000
open Go.RowKit
noncomputable section
theorem han (l : List (List Nat)) (h : l.length < 12) : hA l l.length := by
 have : l.length = 0 ∨ l.length = 1 ∨ l.length = 2 ∨ l.length = 3 ∨ l.length = 4 ∨ l.length = 5 ∨ l.length = 6 ∨ l.length = 7 ∨ l.length = 8 ∨ l.length = 9 ∨ l.length = 10 ∨ l.length = 11 := by omega
 rcases this with h | h | h | h | h | h | h | h | h | h | h | h
 ·rw [h]; exact ha0 l h
 ·rw [h]; exact ha1 l h
 ·rw [h]; exact ha2 l h
 ·rw [h]; exact ha3 l h
 ·rw [h]; exact ha4 l h
 ·rw [h]; exact ha5 l h
 ·rw [h]; exact ha6 l h
 ·rw [h]; exact ha7 l h
 ·rw [h]; exact ha8 l h
 ·rw [h]; exact ha9 l h
 ·rw [h]; exact ha10 l h
 ·rw [h]; exact ha11 l h
theorem hbn (l : List (List Nat)) (h : l.length < 11) (y : Str) (hy : y ∈ hNames) : hB l (l.length + 1) y := by
 simp only [hNames, List.mem_cons, List.not_mem_nil, or_false] at hy
 have : l.length = 0 ∨ l.length = 1 ∨ l.length = 2 ∨ l.length = 3 ∨ l.length = 4 ∨ l.length = 5 ∨ l.length = 6 ∨ l.length = 7 ∨ l.length = 8 ∨ l.length = 9 ∨ l.length = 10 := by omega
 rcases this with h | h | h | h | h | h | h | h | h | h | h
 ·rw [h]; rcases hy with rfl | rfl | rfl | rfl | rfl | rfl
  ·exact hb1_0 l h
  ·exact hb1_1 l h
  ·exact hb1_2 l h
  ·exact hb1_3 l h
  ·exact hb1_4 l h
  ·exact hb1_5 l h
 ·rw [h]; rcases hy with rfl | rfl | rfl | rfl | rfl | rfl
  ·exact hb2_0 l h
  ·exact hb2_1 l h
  ·exact hb2_2 l h
  ·exact hb2_3 l h
  ·exact hb2_4 l h
  ·exact hb2_5 l h
 ·rw [h]; rcases hy with rfl | rfl | rfl | rfl | rfl | rfl
  ·exact hb3_0 l h
  ·exact hb3_1 l h
  ·exact hb3_2 l h
  ·exact hb3_3 l h
  ·exact hb3_4 l h
  ·exact hb3_5 l h
 ·rw [h]; rcases hy with rfl | rfl | rfl | rfl | rfl | rfl
  ·exact hb4_0 l h
  ·exact hb4_1 l h
  ·exact hb4_2 l h
  ·exact hb4_3 l h
  ·exact hb4_4 l h
  ·exact hb4_5 l h
 ·rw [h]; rcases hy with rfl | rfl | rfl | rfl | rfl | rfl
  ·exact hb5_0 l h
  ·exact hb5_1 l h
  ·exact hb5_2 l h
  ·exact hb5_3 l h
  ·exact hb5_4 l h
  ·exact hb5_5 l h
 ·rw [h]; rcases hy with rfl | rfl | rfl | rfl | rfl | rfl
  ·exact hb6_0 l h
  ·exact hb6_1 l h
  ·exact hb6_2 l h
  ·exact hb6_3 l h
  ·exact hb6_4 l h
  ·exact hb6_5 l h
 ·rw [h]; rcases hy with rfl | rfl | rfl | rfl | rfl | rfl
  ·exact hb7_0 l h
  ·exact hb7_1 l h
  ·exact hb7_2 l h
  ·exact hb7_3 l h
  ·exact hb7_4 l h
  ·exact hb7_5 l h
 ·rw [h]; rcases hy with rfl | rfl | rfl | rfl | rfl | rfl
  ·exact hb8_0 l h
  ·exact hb8_1 l h
  ·exact hb8_2 l h
  ·exact hb8_3 l h
  ·exact hb8_4 l h
  ·exact hb8_5 l h
 ·rw [h]; rcases hy with rfl | rfl | rfl | rfl | rfl | rfl
  ·exact hb9_0 l h
  ·exact hb9_1 l h
  ·exact hb9_2 l h
  ·exact hb9_3 l h
  ·exact hb9_4 l h
  ·exact hb9_5 l h
 ·rw [h]; rcases hy with rfl | rfl | rfl | rfl | rfl | rfl
  ·exact hb10_0 l h
  ·exact hb10_1 l h
  ·exact hb10_2 l h
  ·exact hb10_3 l h
  ·exact hb10_4 l h
  ·exact hb10_5 l h
 ·rw [h]; rcases hy with rfl | rfl | rfl | rfl | rfl | rfl
  ·exact hb11_0 l h
  ·exact hb11_1 l h
  ·exact hb11_2 l h
  ·exact hb11_3 l h
  ·exact hb11_4 l h
  ·exact hb11_5 l h
theorem hen (l : List (List Nat)) (h : l.length < 12) (y : Str) (hy : y ∈ hNames) : hE l (l.length + 1) y := by
 simp only [hNames, List.mem_cons, List.not_mem_nil, or_false] at hy
 have : l.length = 0 ∨ l.length = 1 ∨ l.length = 2 ∨ l.length = 3 ∨ l.length = 4 ∨ l.length = 5 ∨ l.length = 6 ∨ l.length = 7 ∨ l.length = 8 ∨ l.length = 9 ∨ l.length = 10 ∨ l.length = 11 := by omega
 rcases this with h | h | h | h | h | h | h | h | h | h | h | h
 ·rw [h]; rcases hy with rfl | rfl | rfl | rfl | rfl | rfl
  ·exact he1_0 l h
  ·exact he1_1 l h
  ·exact he1_2 l h
  ·exact he1_3 l h
  ·exact he1_4 l h
  ·exact he1_5 l h
 ·rw [h]; rcases hy with rfl | rfl | rfl | rfl | rfl | rfl
  ·exact he2_0 l h
  ·exact he2_1 l h
  ·exact he2_2 l h
  ·exact he2_3 l h
  ·exact he2_4 l h
  ·exact he2_5 l h
 ·rw [h]; rcases hy with rfl | rfl | rfl | rfl | rfl | rfl
  ·exact he3_0 l h
  ·exact he3_1 l h
  ·exact he3_2 l h
  ·exact he3_3 l h
  ·exact he3_4 l h
  ·exact he3_5 l h
 ·rw [h]; rcases hy with rfl | rfl | rfl | rfl | rfl | rfl
  ·exact he4_0 l h
  ·exact he4_1 l h
  ·exact he4_2 l h
  ·exact he4_3 l h
  ·exact he4_4 l h
  ·exact he4_5 l h
 ·rw [h]; rcases hy with rfl | rfl | rfl | rfl | rfl | rfl
  ·exact he5_0 l h
  ·exact he5_1 l h
  ·exact he5_2 l h
  ·exact he5_3 l h
  ·exact he5_4 l h
  ·exact he5_5 l h
 ·rw [h]; rcases hy with rfl | rfl | rfl | rfl | rfl | rfl
  ·exact he6_0 l h
  ·exact he6_1 l h
  ·exact he6_2 l h
  ·exact he6_3 l h
  ·exact he6_4 l h
  ·exact he6_5 l h
 ·rw [h]; rcases hy with rfl | rfl | rfl | rfl | rfl | rfl
  ·exact he7_0 l h
  ·exact he7_1 l h
  ·exact he7_2 l h
  ·exact he7_3 l h
  ·exact he7_4 l h
  ·exact he7_5 l h
 ·rw [h]; rcases hy with rfl | rfl | rfl | rfl | rfl | rfl
  ·exact he8_0 l h
  ·exact he8_1 l h
  ·exact he8_2 l h
  ·exact he8_3 l h
  ·exact he8_4 l h
  ·exact he8_5 l h
 ·rw [h]; rcases hy with rfl | rfl | rfl | rfl | rfl | rfl
  ·exact he9_0 l h
  ·exact he9_1 l h
  ·exact he9_2 l h
  ·exact he9_3 l h
  ·exact he9_4 l h
  ·exact he9_5 l h
 ·rw [h]; rcases hy with rfl | rfl | rfl | rfl | rfl | rfl
  ·exact he10_0 l h
  ·exact he10_1 l h
  ·exact he10_2 l h
  ·exact he10_3 l h
  ·exact he10_4 l h
  ·exact he10_5 l h
 ·rw [h]; rcases hy with rfl | rfl | rfl | rfl | rfl | rfl
  ·exact he11_0 l h
  ·exact he11_1 l h
  ·exact he11_2 l h
  ·exact he11_3 l h
  ·exact he11_4 l h
  ·exact he11_5 l h
 ·rw [h]; rcases hy with rfl | rfl | rfl | rfl | rfl | rfl
  ·exact he12_0 l h
  ·exact he12_1 l h
  ·exact he12_2 l h
  ·exact he12_3 l h
  ·exact he12_4 l h
  ·exact he12_5 l h
theorem hfn2 (l : List (List Nat)) (h : l.length ≤ 12) : hFin (hX l) l.length 2 := by
 have : l.length = 0 ∨ l.length = 1 ∨ l.length = 2 ∨ l.length = 3 ∨ l.length = 4 ∨ l.length = 5 ∨ l.length = 6 ∨ l.length = 7 ∨ l.length = 8 ∨ l.length = 9 ∨ l.length = 10 ∨ l.length = 11 ∨ l.length = 12 := by omega
 rcases this with h | h | h | h | h | h | h | h | h | h | h | h | h
 ·rw [h]; exact hf0_2 l h
 ·rw [h]; exact hf1_2 l h
 ·rw [h]; exact hf2_2 l h
 ·rw [h]; exact hf3_2 l h
 ·rw [h]; exact hf4_2 l h
 ·rw [h]; exact hf5_2 l h
 ·rw [h]; exact hf6_2 l h
 ·rw [h]; exact hf7_2 l h
 ·rw [h]; exact hf8_2 l h
 ·rw [h]; exact hf9_2 l h
 ·rw [h]; exact hf10_2 l h
 ·rw [h]; exact hf11_2 l h
 ·rw [h]; exact hf12_2 l h
theorem hzn (l : List (List Nat)) (h : l.length < 12) : hZ l (l.length + 1) := by
 have : l.length = 0 ∨ l.length = 1 ∨ l.length = 2 ∨ l.length = 3 ∨ l.length = 4 ∨ l.length = 5 ∨ l.length = 6 ∨ l.length = 7 ∨ l.length = 8 ∨ l.length = 9 ∨ l.length = 10 ∨ l.length = 11 := by omega
 rcases this with h | h | h | h | h | h | h | h | h | h | h | h
 ·rw [h]; exact hz1 l h
 ·rw [h]; exact hz2 l h
 ·rw [h]; exact hz3 l h
 ·rw [h]; exact hz4 l h
 ·rw [h]; exact hz5 l h
 ·rw [h]; exact hz6 l h
 ·rw [h]; exact hz7 l h
 ·rw [h]; exact hz8 l h
 ·rw [h]; exact hz9 l h
 ·rw [h]; exact hz10 l h
 ·rw [h]; exact hz11 l h
 ·rw [h]; exact hz12 l h
theorem htn (l : List (List Nat)) (h : l.length ≤ 12) (h0 : 0 < l.length) : hTr l l.length := by
 have : l.length = 1 ∨ l.length = 2 ∨ l.length = 3 ∨ l.length = 4 ∨ l.length = 5 ∨ l.length = 6 ∨ l.length = 7 ∨ l.length = 8 ∨ l.length = 9 ∨ l.length = 10 ∨ l.length = 11 ∨ l.length = 12 := by omega
 rcases this with h | h | h | h | h | h | h | h | h | h | h | h
 ·rw [h]; exact ht1 l h
 ·rw [h]; exact ht2 l h
 ·rw [h]; exact ht3 l h
 ·rw [h]; exact ht4 l h
 ·rw [h]; exact ht5 l h
 ·rw [h]; exact ht6 l h
 ·rw [h]; exact ht7 l h
 ·rw [h]; exact ht8 l h
 ·rw [h]; exact ht9 l h
 ·rw [h]; exact ht10 l h
 ·rw [h]; exact ht11 l h
 ·rw [h]; exact ht12 l h
theorem h_closed : ∀ x ∈ [98, 111, 100, 121] :: hNames, retV (runT ftb 83 [.c (.s (ns x))] H00) = some (.c (.s (ns x))) ∧ retV (runT ftb 30 [.c (.s (ns x))] H00) = some (.c (.i .i64 0)) ∧ retV (runT ftb 20 [.a (tkA (.s x))] H00) = some (.c (.b true)) ∧ retV (runT ftb 20 [.a (tkA (.e x))] H00) = some (.c (.b true)) := by
 intro x hx
 simp only [hNames, List.mem_cons, List.not_mem_nil, or_false] at hx
 rcases hx with rfl | rfl | rfl | rfl | rfl | rfl | rfl
 ·exact ⟨by kernel_rfl, by kernel_rfl, by kernel_rfl, by kernel_rfl⟩
 ·exact ⟨by kernel_rfl, by kernel_rfl, by kernel_rfl, by kernel_rfl⟩
 ·exact ⟨by kernel_rfl, by kernel_rfl, by kernel_rfl, by kernel_rfl⟩
 ·exact ⟨by kernel_rfl, by kernel_rfl, by kernel_rfl, by kernel_rfl⟩
 ·exact ⟨by kernel_rfl, by kernel_rfl, by kernel_rfl, by kernel_rfl⟩
 ·exact ⟨by kernel_rfl, by kernel_rfl, by kernel_rfl, by kernel_rfl⟩
 ·exact ⟨by kernel_rfl, by kernel_rfl, by kernel_rfl, by kernel_rfl⟩
theorem h_x : retV (runT ftb 20 [.a (tkA (.t [120]))] H00) = some (.c (.b true)) := by kernel_rfl
theorem h_good {x : Str} (hx : x ∈ [98, 111, 100, 121] :: hNames) : (∀ c ∈ x, goodB c = true) ∧ nameOk x = true ∧ (∃ c r, x = c :: r ∧ letterB c = true) ∧ x.length ≤ 4 := by
 have h : (x.all goodB && nameOk x && !x.isEmpty && letterB (x.headD 0) && decide (x.length ≤ 4)) = true := by
  have : ([98, 111, 100, 121] :: hNames).all (fun x => x.all goodB && nameOk x && !x.isEmpty && letterB (x.headD 0) && decide (x.length ≤ 4)) = true := by decide +kernel
  exact List.all_eq_true.1 this x hx
 simp only [Bool.and_eq_true, decide_eq_true_eq] at h
 obtain ⟨⟨⟨⟨h1, h2⟩, h3⟩, h4⟩, h5⟩ := h
 refine ⟨fun c hc => List.all_eq_true.1 h1 c hc, h2, ?_, h5⟩
 cases x with
 |nil => cases h3
 |cons c r => exact ⟨c, r, rfl, h4⟩
theorem h_pcs {x : Str} (hx : x ∈ [98, 111, 100, 121] :: hNames) : PcG (.s x) ∧ PcG (.e x) := by
 obtain ⟨h1, _, h3, _⟩ := h_good hx
 obtain ⟨g1, g2, _⟩ := h_closed x hx
 refine ⟨⟨⟨fun c hc => h1 c (by simpa [Pc.name, Pc.text] using hc), fun nm h => ?_, fun y h => by cases h⟩, fun _ => g1, fun _ => g2⟩, ⟨⟨fun c hc => h1 c (by simpa [Pc.name, Pc.text] using hc), fun nm h => ?_, fun y h => by cases h⟩, fun _ => g1, fun h => absurd h (by show ¬ (2 : Int) = 1; decide)⟩⟩
 ·rcases h with h | h
  ·injection h with h; subst h; exact h3
  ·cases h
 ·rcases h with h | h
  ·cases h
  ·injection h with h; subst h; exact h3
theorem x_pcg : PcG (.t [120]) := ⟨⟨by decide, fun nm h => (by rcases h with h | h <;> cases h), fun y h => (by injection h with h; subst h; simp)⟩, fun h => absurd rfl (h [120]), fun h => absurd h (by show ¬ (3 : Int) = 1; decide)⟩
def hpp (q : Str × Option Str) : List Pc := .s q.1 :: .t [120] :: (match q.2 with | some z => [.e z] | none => [])
def hOk (q : Str × Option Str) : Prop := q.1 ∈ hNames ∧ ∀ z, q.2 = some z → z ∈ hNames
def hH (l : List Str) (o : Nat) : AH := hS (hX (l.map ns)) l.length o
theorem hH_step {l : List Str} {o : Nat} (hl : ∀ y ∈ l, y ∈ hNames) (hn : l.length < 12) (ho : o = 2 ∨ (o = 3 ∧ l ≠ [])) {x : Str} (hx : x ∈ hNames) : twoP (.s (ns x)) (.s [120]) (hH l o) = some (hH (l ++ [x]) 3) := by
 rcases ho with rfl | ⟨rfl, hne⟩
 ·have h := (han (l.map ns) (by simpa using hn)).mem x hx
  unfold hH
  rw [List.map_append, List.length_append]
  rw [List.length_map] at h
  exact h
 ·obtain ⟨l', y, rfl⟩ : ∃ l' y, l = l' ++ [y] := ⟨l.dropLast, l.getLast hne, (List.dropLast_concat_getLast hne).symm⟩
  have hy := hl y (by simp)
  simp only [List.length_append, List.length_cons, List.length_nil] at hn
  have h := (hbn (l'.map ns) (by simp; omega) y hy).mem x hx
  rw [List.length_map] at h
  have e1 : hH (l' ++ [y]) 3 = hS (hX (l'.map ns ++ [ns y])) (l'.length + 1) 3 := by unfold hH; rw [List.map_append, List.length_append]; rfl
  have e2 : hH (l' ++ [y] ++ [x]) 3 = hS (hX (l'.map ns ++ [ns y] ++ [ns x])) (Nat.succ (l'.length + 1)) 3 := by unfold hH; rw [List.map_append, List.map_append, List.length_append, List.length_append]; rfl
  rw [e1, e2]
  exact h
theorem hH_end {l : List Str} {y z : Str} (hn : l.length < 12) (hy : y ∈ hNames) (hz : z ∈ hNames) : eTok (.s (ns z)) (hH (l ++ [y]) 3) = some (hH (l ++ [y]) 2) := by
 have h := (hen (l.map ns) (by simpa using hn) y hy).mem z hz
 unfold hH
 rw [List.map_append, List.length_append]
 rw [List.length_map] at h
 exact h
theorem hH_fin {l : List Str} {o : Nat} (hl : ∀ y ∈ l, y ∈ hNames) (hn : l.length ≤ 12) (ho : o = 2 ∨ (o = 3 ∧ l ≠ [])) : madeOk (hH l o) = true ∧ stepM (runT ftb) 21 [.a tkA0] (hH l o) = some (hH l o) ∧ finT (hH l o) = some (pageT [] (itT (hX (l.map ns)))) := by
 rcases ho with rfl | ⟨rfl, hne⟩
 ·have h := hfn2 (l.map ns) (by simpa using hn)
  rw [List.length_map] at h
  exact h
 ·have h0 : 0 < l.length := by cases l with
   |nil => exact absurd rfl hne
   |cons a b => simp
  have ht := htn (l.map ns) (by simpa using hn) (by simpa using h0)
  rw [List.length_map] at ht
  obtain ⟨l', y, rfl⟩ : ∃ l' y, l = l' ++ [y] := ⟨l.dropLast, l.getLast hne, (List.dropLast_concat_getLast hne).symm⟩
  simp only [List.length_append, List.length_cons, List.length_nil] at hn
  have hz := (hzn (l'.map ns) (by simp; omega)).mem y (hl y (by simp))
  refine ⟨ht.1, ?_, ht.2⟩
  unfold hH
  rw [List.map_append, List.length_append]
  rw [List.length_map] at hz
  exact hz
theorem hPath : ∀ (qs : List (Str × Option Str)), (∀ q ∈ qs, hOk q) → ∀ (l : List Str) (o : Nat), (∀ y ∈ l, y ∈ hNames) → (o = 2 ∨ (o = 3 ∧ l ≠ [])) → l.length + qs.length ≤ 12 → ∃ o', (o' = 2 ∨ (o' = 3 ∧ l ++ qs.map (·.1) ≠ [])) ∧ Path (hH l o) (qs.flatMap hpp) (hH (l ++ qs.map (·.1)) o')
 |[], _, l, o, _, ho, _ => ⟨o, by rw [List.map_nil, List.append_nil]; exact ho, by rw [List.map_nil, List.append_nil]; exact .nil _⟩
 |(x, e) :: qs, h, l, o, hl, ho, hn => by
  simp only [List.length_cons] at hn
  obtain ⟨hx, he⟩ := h (x, e) (by simp)
  have hl' : ∀ y ∈ l ++ [x], y ∈ hNames := fun y hy => by
   rcases List.mem_append.1 hy with hy | hy
   ·exact hl y hy
   ·rw [List.mem_singleton.1 hy]; exact hx
  have hst := hH_step hl (by omega) ho hx
  unfold twoP at hst
  split at hst
  ·rename_i S1 h1
   cases hm : madeOk S1 with
   |false => rw [hm] at hst; cases hst
   |true =>
    rw [hm] at hst
    replace hst : xTok (.s [120]) S1 = some (hH (l ++ [x]) 3) := hst
    have p1 : PStep (hH l o) (.s x) S1 := ⟨(hH_fin hl (by omega) ho).1, (h_closed x (by simp [hx])).2.2.1, h1⟩
    have p2 : PStep S1 (.t [120]) (hH (l ++ [x]) 3) := ⟨hm, h_x, hst⟩
    have hq := fun q hq => h q (List.mem_cons_of_mem _ hq)
    have hlen : (l ++ [x]).length + qs.length ≤ 12 := by simp; omega
    cases e with
    |none =>
     obtain ⟨o', g1, g2⟩ := hPath qs hq (l ++ [x]) 3 hl' (.inr ⟨rfl, by simp⟩) hlen
     rw [List.append_assoc] at g1 g2
     exact ⟨o', g1, .cons p1 (.cons p2 g2)⟩
    |some z =>
     have hz := he z rfl
     have p3 : PStep (hH (l ++ [x]) 3) (.e z) (hH (l ++ [x]) 2) := ⟨(hH_fin hl' (by simp; omega) (.inr ⟨rfl, by simp⟩)).1, (h_closed z (by simp [hz])).2.2.2, hH_end (by omega) hx hz⟩
     obtain ⟨o', g1, g2⟩ := hPath qs hq (l ++ [x]) 2 hl' (.inl rfl) hlen
     rw [List.append_assoc] at g1 g2
     exact ⟨o', g1, .cons p1 (.cons p2 (.cons p3 g2))⟩
  ·cases hst
def hPs (qs : List (Str × Option Str)) : List Pc := .s [98, 111, 100, 121] :: qs.flatMap hpp
theorem itT_eq : ∀ l : List Str, itT (hX (l.map ns)) = l.map fun x => elT x [txT [120]]
 |[] => rfl
 |x :: l => by
  show elT (txt (ns x)) [txT (txt [120])] :: itT (hX (l.map ns)) = _
  rw [itT_eq l]
  have : txt (ns x) = x := (nat_str x).1
  rw [this]; rfl
theorem sep_h : ∀ qs : List (Str × Option Str), Sep (qs.flatMap hpp) ∧ (qs.flatMap hpp = [] ∨ ∃ q r, qs.flatMap hpp = q :: r ∧ ∀ y, q ≠ .t y)
 |[] => ⟨trivial, .inl rfl⟩
 |(x, e) :: qs => by
  obtain ⟨h1, h2⟩ := sep_h qs
  refine ⟨?_, .inr ⟨.s x, _, rfl, fun y h => by cases h⟩⟩
  cases e with
  |none => exact ⟨fun y h => (by cases h), fun y _ => h2, h1⟩
  |some z => exact ⟨fun y h => (by cases h), fun y _ => .inr ⟨.e z, _, rfl, fun y h => by cases h⟩, fun y h => (by cases h), h1⟩
theorem hRuns {qs : List (Str × Option Str)} (hq : ∀ q ∈ qs, hOk q) (hl : qs.length ≤ 12) : Runs (hPs qs) (pageT [] (qs.map fun q => elT q.1 [txT [120]])) := by
 have hlen : (srcs (hPs qs)).length ≤ 6 + 20 * qs.length := by
  have : ∀ ys : List (Str × Option Str), (∀ y ∈ ys, hOk y) → (srcs (ys.flatMap hpp)).length ≤ 20 * ys.length := fun ys => by
   induction ys with
   |nil => intro _; simp [srcs]
   |cons y ys ih =>
    intro h
    have h1 := ih fun z hz => h z (by simp [hz])
    obtain ⟨x, e⟩ := y
    obtain ⟨hx, he⟩ := h (x, e) (by simp)
    have h2 := (h_good (x := x) (by simp [hx])).2.2.2
    rw [List.flatMap_cons, srcs_app, List.length_append]
    cases e with
    |none => simp only [hpp, srcs, List.map_cons, List.flatten_cons, List.map_nil, List.flatten_nil, Pc.src, List.length_cons, List.length_append, List.length_nil]; simp only [srcs] at h1; omega
    |some z =>
     have h3 := (h_good (x := z) (by simp [he z rfl])).2.2.2
     simp only [hpp, srcs, List.map_cons, List.flatten_cons, List.map_nil, List.flatten_nil, Pc.src, List.length_cons, List.length_append, List.length_nil]; simp only [srcs] at h1; omega
  have h1 := this qs hq
  unfold hPs
  rw [srcs_cons, List.length_append]
  simp only [Pc.src, List.length_cons, List.length_append, List.length_nil]; omega
 have hmem : ∀ q ∈ qs, q.1 ∈ hNames := fun q h => (hq q h).1
 refine ⟨⟨fun p hp => ?_, ⟨fun y h => (by cases h), (sep_h qs).1⟩, by omega⟩, ?_, ?_, ?_⟩
 ·unfold hPs at hp
  rcases List.mem_cons.1 hp with rfl | hp
  ·exact (h_pcs (by simp)).1
  ·obtain ⟨⟨x, e⟩, hqm, hp⟩ := List.mem_flatMap.1 hp
   obtain ⟨hx, he⟩ := hq _ hqm
   cases e with
   |none =>
    simp only [hpp, List.mem_cons, List.not_mem_nil, or_false] at hp
    rcases hp with rfl | rfl
    ·exact (h_pcs (by simp [hx])).1
    ·exact x_pcg
   |some z =>
    simp only [hpp, List.mem_cons, List.not_mem_nil, or_false] at hp
    rcases hp with rfl | rfl | rfl
    ·exact (h_pcs (by simp [hx])).1
    ·exact x_pcg
    ·exact (h_pcs (by simp [he z rfl])).2
 ·obtain ⟨o', ho, h0⟩ := hPath qs hq [] 2 (by simp) (.inl rfl) (by simpa using hl)
  obtain ⟨g1, g2, g3⟩ := hH_fin (l := [] ++ qs.map (·.1)) (o := o') (fun y hy => by
   obtain ⟨q, hqm, rfl⟩ := List.mem_map.1 (show y ∈ qs.map (·.1) from hy)
   exact hmem q hqm) (by simpa using hl) ho
  refine ⟨_, _, .cons ⟨by kernel_rfl, (h_closed [98, 111, 100, 121] (by simp)).2.2.1, body_step⟩ h0, g2, g1, ?_⟩
  rw [g3, itT_eq, List.nil_append, List.map_map]; rfl
 ·refine page_check (fun u hu => ?_) ?_ ?_
  ·obtain ⟨q, hqm, rfl⟩ := List.mem_map.1 hu
   exact ⟨elT_ok (h_good (by simp [hmem q hqm])).2.1 (fun u hu => by rw [List.mem_singleton.1 hu]; exact ⟨txT_ok (by simp) (by simp), by show (3 : Int) ≠ 5; decide⟩), by show (2 : Int) ≠ 5; decide⟩
  ·have : ∀ ys : List (Str × Option Str), ((ys.map fun q => elT q.1 [txT [120]]).map T.size).sum = 2 * ys.length := fun ys => by
    induction ys with
    |nil => rfl
    |cons y ys ih => simp only [List.map_cons, List.sum_cons, ih, elT_size, txT_size, List.map_nil, List.sum_nil, List.length_cons]; omega
   rw [this]; omega
  ·refine Nat.le_trans (T.foldr_max_le (n := 2) fun d hd => ?_) (by decide)
   obtain ⟨u, hu, rfl⟩ := List.mem_map.1 hd
   obtain ⟨q, _, rfl⟩ := List.mem_map.1 hu
   rw [elT_depth]; simp [txT_depth]
 ·refine page_bulk ?_
  have : ∀ ys : List (Str × Option Str), (∀ y ∈ ys, y.1 ∈ hNames) → ((ys.map fun q => elT q.1 [txT [120]]).map T.bulk).sum ≤ 10 * ys.length := fun ys => by
   induction ys with
   |nil => intro _; simp
   |cons y ys ih =>
    intro h
    have h1 := ih fun z hz => h z (by simp [hz])
    have h2 := (h_good (x := y.1) (by simp [h y (by simp)])).2.2.2
    simp only [List.map_cons, List.sum_cons, elT_bulk, txT_bulk, List.map_nil, List.sum_nil, List.length_cons, List.length_nil]; omega
  have := this qs hmem
  omega
def hDg (z : Int) : Str := [UInt8.ofNat (49 + (z % 6).toNat)]
def hNm (z : Int) : Str := 104 :: hDg z
theorem hNm_mem (z : Int) : hNm z ∈ hNames := by
 have h1 := Int.emod_nonneg z (show (6 : Int) ≠ 0 by decide)
 have h2 := Int.emod_lt_of_pos z (show (0 : Int) < 6 by decide)
 have key : ∀ q : Fin 6, (104 :: [UInt8.ofNat (49 + q.1)] : Str) ∈ hNames := by decide +kernel
 exact key ⟨(z % 6).toNat, by omega⟩
theorem hDg_eq (z : Int) : (List.drop (z % 6).toNat ([49, 50, 51, 52, 53, 54] : Str)).take ((z % 6 + 1).toNat - (z % 6).toNat) = hDg z := by
 have h1 := Int.emod_nonneg z (show (6 : Int) ≠ 0 by decide)
 have h2 := Int.emod_lt_of_pos z (show (0 : Int) < 6 by decide)
 rw [show (z % 6 + 1).toNat - (z % 6).toNat = 1 by omega]
 have key : ∀ q : Fin 6, (List.drop q.1 ([49, 50, 51, 52, 53, 54] : Str)).take 1 = [UInt8.ofNat (49 + q.1)] := by decide +kernel
 exact key ⟨(z % 6).toNat, by omega⟩
def hQ (l m : List Int) (i : Nat) : Str × Option Str := (hNm (l.getD i 0), if i < m.length then some (hNm (m.getD i 0)) else none)
def hQs (l m : List Int) (k : Nat) : List (Str × Option Str) := (List.range k).map (hQ l m)
theorem hQs_ok (l m : List Int) (k : Nat) : ∀ q ∈ hQs l m k, hOk q := fun q hq => by
 obtain ⟨i, _, rfl⟩ := List.mem_map.1 hq
 refine ⟨hNm_mem _, fun z hz => ?_⟩
 unfold hQ at hz
 simp only at hz
 split at hz
 ·injection hz with hz; rw [← hz]; exact hNm_mem _
 ·cases hz
theorem hQs_succ (l m : List Int) (k : Nat) : srcs (hPs (hQs l m (k + 1))) = srcs (hPs (hQs l m k)) ++ srcs (hpp (hQ l m k)) := by
 unfold hPs hQs
 rw [List.range_succ, List.map_append, List.flatMap_append, ← List.cons_append, srcs_app]
 simp
theorem buildHeadingsLaw {w : World} (hw : WP w) {s t : Sl} {l m : List Int} (h : Row [] w s 1 (l.map ic)) (h' : Row [] w t 1 (m.map ic)) : Calls Tryz.prog 8 #[s.v, t.v] w (Ret fun v w' => Ext w w' ∧ v = .bool true) := by
 refine law14_BuildHeadings.ok _ _ ?_
 unfold law14_BuildHeadings.vc
 have hn : s.n = l.length := by simpa using h.len
 have hn' : t.n = m.length := by simpa using h'.len
 refine ⟨fun x n i w2 => ∃ k : Nat, k ≤ 12 ∧ k ≤ l.length ∧ x = srcs (hPs (hQs l m k)) ∧ n = (k : Int) ∧ i = (k : Int) ∧ Ext w w2, fun _ _ i _ => 12 - i.toNat, ⟨0, by omega, by omega, rfl, rfl, rfl, Chg.refl _ _⟩, ?_⟩
 rintro _ _ _ w2 ⟨k, hk12, hkl, rfl, rfl, rfl, hE2⟩
 have hR := hRuns (hQs_ok l m k) (by simp [hQs]; exact hk12)
 have hlen := hR.src.len
 have h6 : (([49, 50, 51, 52, 53, 54] : Str).length : Int) = 6 := rfl
 have dg : ∀ z : Int, (hDg z).length = 1 := fun z => rfl
 refine ⟨fun hlt w3 hE3 => ?_, fun hge => ?_⟩
 ·have hk' : k < l.length := by omega
  obtain ⟨_, p, hp, hc⟩ := rowI ((h.ext hE2).ext hE3) hk'
  have h1 := Int.emod_nonneg (l.getD k 0) (show (6 : Int) ≠ 0 by decide)
  have h2 := Int.emod_lt_of_pos (l.getD k 0) (show (0 : Int) < 6 by decide)
  rw [Int.toNat_natCast]
  refine ⟨by simp only [List.length_cons, List.length_nil]; omega, p, ⟨⟨by omega, by omega⟩, hp⟩, _, hc, _, fun w4 _ => place _ 6 (by decide) (by decide), p, ⟨⟨by omega, by omega⟩, hp⟩, _, hc, _, fun w4 _ => place _ 6 (by decide) (by decide), ⟨by show (-9223372036854775808 : Int) ≤ l.getD k 0 % 6 + 1; omega, by show l.getD k 0 % 6 + 1 ≤ (9223372036854775807 : Int); omega⟩, ⟨h1, by show l.getD k 0 % 6 ≤ l.getD k 0 % 6 + 1; omega, by show l.getD k 0 % 6 + 1 ≤ 6; omega⟩, ?_⟩
  have e0 : (List.drop ((l.getD k 0).emod 6).toNat ([49, 50, 51, 52, 53, 54] : Str)).take ((((l.getD k 0).emod 6) + 1).toNat - ((l.getD k 0).emod 6).toNat) = hDg (l.getD k 0) := hDg_eq _
  rw [e0]
  refine ⟨by rw [List.length_append, dg]; simp only [List.length_cons, List.length_nil]; omega, by rw [List.length_append, List.length_append, dg]; simp only [List.length_cons, List.length_nil]; omega, fun hlt2 w4 hE4 => ?_, fun hge2 => ?_⟩
  ·have hk2 : k < m.length := by omega
   obtain ⟨_, p2, hp2, hc2⟩ := rowI (((h'.ext hE2).ext hE3).ext hE4) hk2
   have h3 := Int.emod_nonneg (m.getD k 0) (show (6 : Int) ≠ 0 by decide)
   have h4 := Int.emod_lt_of_pos (m.getD k 0) (show (0 : Int) < 6 by decide)
   have e1 : (List.drop ((m.getD k 0).emod 6).toNat ([49, 50, 51, 52, 53, 54] : Str)).take ((((m.getD k 0).emod 6) + 1).toNat - ((m.getD k 0).emod 6).toNat) = hDg (m.getD k 0) := hDg_eq _
   have e2 : (((((srcs (hPs (hQs l m k)) ++ ([60, 104] : Str)) ++ hDg (l.getD k 0)) ++ ([62, 120] : Str)) ++ ([60, 47, 104] : Str)) ++ hDg (m.getD k 0)) ++ ([62] : Str) = srcs (hPs (hQs l m (k + 1))) := by
    rw [hQs_succ]
    have : hQ l m k = (hNm (l.getD k 0), some (hNm (m.getD k 0))) := by unfold hQ; rw [if_pos hk2]
    rw [this]
    simp [hpp, srcs, Pc.src, hNm]
   refine ⟨by simp only [List.length_append, dg, List.length_cons, List.length_nil]; omega, p2, ⟨⟨by omega, by omega⟩, hp2⟩, _, hc2, _, fun w5 _ => place _ 6 (by decide) (by decide), p2, ⟨⟨by omega, by omega⟩, hp2⟩, _, hc2, _, fun w5 _ => place _ 6 (by decide) (by decide), ⟨by show (-9223372036854775808 : Int) ≤ m.getD k 0 % 6 + 1; omega, by show m.getD k 0 % 6 + 1 ≤ (9223372036854775807 : Int); omega⟩, ⟨h3, by show m.getD k 0 % 6 ≤ m.getD k 0 % 6 + 1; omega, by show m.getD k 0 % 6 + 1 ≤ 6; omega⟩, ?_⟩
   rw [e1]
   refine ⟨by simp only [List.length_append, dg, List.length_cons, List.length_nil]; omega, by simp only [List.length_append, dg, List.length_cons, List.length_nil]; omega, ⟨by omega, by omega⟩, ⟨by omega, by omega⟩, fun w5 hE5 => ⟨⟨k + 1, by omega, by omega, e2, rfl, rfl, ((hE2.trans hE3).trans hE4).trans hE5⟩, by dsimp only; omega⟩⟩
  ·have e2 : ((srcs (hPs (hQs l m k)) ++ ([60, 104] : Str)) ++ hDg (l.getD k 0)) ++ ([62, 120] : Str) = srcs (hPs (hQs l m (k + 1))) := by
    rw [hQs_succ]
    have : hQ l m k = (hNm (l.getD k 0), none) := by unfold hQ; rw [if_neg (by omega)]
    rw [this]
    simp [hpp, srcs, Pc.src, hNm]
   exact ⟨⟨by omega, by omega⟩, ⟨by omega, by omega⟩, fun w4 hE4 => ⟨⟨k + 1, by omega, by omega, e2, rfl, rfl, (hE2.trans hE3).trans hE4⟩, by dsimp only; omega⟩⟩
 ·refine CallK.ext (bodyC (WP.ext hw hE2) hR) ?_
  rintro _ w3 hE3 ⟨q, rfl, hq⟩
  have hqn : q.n = k := by rw [hq.1]; simp [hQs]
  refine ⟨_, _, rfl, fun hx => ?_, fun _ => ?_⟩
  ·rcases hx with hx | hx
   ·cases hx
   ·omega
  have hE := hE2.trans hE3
  refine ⟨fun i w4 => ∃ j : Nat, j ≤ k ∧ i = (j : Int) ∧ Ext w3 w4, fun i _ => k - i.toNat, ⟨0, by omega, rfl, Chg.refl _ _⟩, ?_⟩
  rintro _ w4 ⟨j, hj, rfl, hE4⟩
  rw [Int.toNat_natCast]
  refine ⟨fun hlt w5 hE5 => ?_, fun hge => ?_⟩
  ·have hjk : j < k := by omega
   have hjl : j < l.length := by omega
   obtain ⟨p, sa, sk, hp, hc, hr⟩ := hq.2 j (by simp [hQs]; omega)
   have hkid : (((hQs l m k).map fun q => elT q.1 [txT [120]]).getD j T.nul) = elT (hNm (l.getD j 0)) [txT [120]] := by
    unfold hQs
    rw [List.getD_eq_getElem?_getD, List.getElem?_map, List.getElem?_map, List.getElem?_range hjk]; rfl
   rw [hkid] at hc hr
   have c1 : w5.cell? ((p.add (j * 5)).add 1) = some (.string (Bs (hNm (l.getD j 0)))) := Ext.cell (hE4.trans hE5) (hc 1 _ rfl)
   have c4 : w5.cell? ((p.add (j * 5)).add 4) = some sk.v := Ext.cell (hE4.trans hE5) (hc 4 _ rfl)
   obtain ⟨_, p2, hp2, hc2⟩ := rowI (h.ext ((hE.trans hE4).trans hE5)) hjl
   have h1 := Int.emod_nonneg (l.getD j 0) (show (6 : Int) ≠ 0 by decide)
   have h2 := Int.emod_lt_of_pos (l.getD j 0) (show (0 : Int) < 6 by decide)
   have hs0 : sk.n = 1 := hr.nkids
   have e0 : (List.drop ((l.getD j 0).emod 6).toNat ([49, 50, 51, 52, 53, 54] : Str)).take ((((l.getD j 0).emod 6) + 1).toNat - ((l.getD j 0).emod 6).toNat) = hDg (l.getD j 0) := hDg_eq _
   refine ⟨p, ⟨⟨by omega, by omega⟩, hp⟩, _, c1, p2, ⟨⟨by omega, by omega⟩, hp2⟩, _, hc2, _, fun w6 _ => place _ 6 (by decide) (by decide), p2, ⟨⟨by omega, by omega⟩, hp2⟩, _, hc2, _, fun w6 _ => place _ 6 (by decide) (by decide), ⟨by show (-9223372036854775808 : Int) ≤ l.getD j 0 % 6 + 1; omega, by show l.getD j 0 % 6 + 1 ≤ (9223372036854775807 : Int); omega⟩, ⟨h1, by show l.getD j 0 % 6 ≤ l.getD j 0 % 6 + 1; omega, by show l.getD j 0 % 6 + 1 ≤ 6; omega⟩, ?_⟩
   rw [e0]
   refine ⟨by rw [dg]; simp only [List.length_cons, List.length_nil]; omega, fun w6 hE6 => ⟨p, fun _ => ⟨⟨by omega, by omega⟩, hp⟩, fun w7 hE7 => ⟨sk, fun _ => Ext.cell (hE6.trans hE7) c4, fun hx => ?_, fun _ => ⟨⟨by omega, by omega⟩, ⟨j + 1, by omega, rfl, ((hE4.trans hE5).trans hE6).trans hE7⟩, by dsimp only; omega⟩⟩⟩⟩
   rcases hx with hx | hx
   ·exact absurd rfl hx
   ·omega
  ·refine CallK.exact (awakeLaw (WP.ext hw (hE.trans hE4))) fun w5 hE5 => ⟨true, rfl, (hE.trans hE4).trans hE5, rfl⟩
end
end Ev
end
section
open Go.RowKit
theorem wp_of_laid {W : World} (h : laidMetH Tryz.prog Rows.buildVoidsRow.laid W) : Ev.WP W := by
 rw [MakeChecks.laidMetH_plain _ _ _ (by kernel_rfl)] at h
 have e : (Rows.laid_strings_asciiSpace : DataW Unit) = Lib.tabData .u8 Lib.asciiSpaceTab := by kernel_rfl
 have h2 := h.filter fun x => x.1 == "strings.asciiSpace"
 have h3 : laidMet Tryz.prog [("strings.asciiSpace", Rows.laid_strings_asciiSpace)] W := h2
 rw [e] at h3
 exact Lib.tabIs_of_head (rest := []) (g := 0) (t := 160) (e := 5) (n := 256) (by kernel_rfl) (by kernel_rfl) Tryz.underlying160 Tryz.underlying5 (by kernel_rfl) (by kernel_rfl) h3
end
end Go.Proofs.YtenokfdkckhhiaaGreatDoor
