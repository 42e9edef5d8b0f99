/-
  Items read; match.Check.
-/
import Derived.Test.YteohbfaechfliaaRefF
import Derived.Test.YteohbfaechfliaaTreeI
import Derived.Test.YteohbfaechfliaaMap
import Derived.Test.YteohbfaechfliaaGmatch
namespace Go.Proofs.Yteohbfaechfliaa
open Go.RowKit Go.MapKept

/-- The node of a number. -/
def T.nd (t : T) (j : Nat) : En := t.flat.getD j ⟨0, 0, 0, T.nul⟩
theorem Items.cell {A : List Nat} {w : World} {a : Sl} {t : T} (h : Items A w a t) : a.n = t.size ∧ ∃ (p : Addr) (al : List Sl), a.a = some p ∧ ∀ j, j < t.size → Cells w (p.add (j * 10)) (itc (t.nd j) (al.getD j Sl.nil) (t.zAt j) (t.hAt j)) ∧ Row A w (al.getD j Sl.nil) 2 ((t.nd j).t.attrs.map ac) := by
  obtain ⟨al, hal, ho, hr⟩ := h
  have hpos := T.size_pos t
  have hfl := T.flat_len t
  obtain ⟨p, hp, _⟩ := ho.row.at_ 0 (by rw [icl_len]; omega)
  refine ⟨by rw [ho.len, icl_len, hfl], p, al, hp, fun j hj => ⟨?_, ?_⟩⟩
  · have := ho.row.cells1 (i := j) (by rw [icl_len]; omega) hp
    rwa [icl_get _ _ _ _ (by omega)] at this
  · refine hr j _ _ (t.flat_get hj) ?_
    rw [List.getD_eq_getElem?_getD, List.getElem?_eq_getElem (by omega)]; rfl
theorem Items.ext {A : List Nat} {w w' : World} {a : Sl} {t : T} (h : Items A w a t) (c : Ext w w') : Items A w' a t := by
  obtain ⟨al, hal, ho, hr⟩ := h
  exact ⟨al, hal, ho.ext c, fun i e a he ha => (hr i e a he ha).ext c⟩
theorem Items.chg {A F : List Nat} {w w' : World} {a : Sl} {t : T} (h : Items A w a t) (c : Chg F w w') (hF : ∀ b ∈ F, b ∈ A) : Items A w' a t := by
  obtain ⟨al, hal, ho, hr⟩ := h
  exact ⟨al, hal, ho.chg c hF, fun i e a he ha => (hr i e a he ha).chg c hF⟩
theorem Items.less {A A' : List Nat} {w : World} {a : Sl} {t : T} (h : Items A w a t) (hA : ∀ b ∈ A', b ∈ A) : Items A' w a t := by
  obtain ⟨al, hal, ho, hr⟩ := h
  exact ⟨al, hal, ho.less hA, fun i e a he ha => (hr i e a he ha).less hA⟩

theorem Items.fresh {A : List Nat} {w : World} {a : Sl} {t : T} (h : Items A w a t) {B : Nat} (hB : w.heap.size ≤ B) : Items (B :: A) w a t := by
  obtain ⟨al, hal, ho, hr⟩ := h
  exact ⟨al, hal, ho.fresh hB, fun i e a he ha => (hr i e a he ha).fresh (by decide) hB⟩

def intV (z : Int) : Value := .int .i64 z
def pc (p : Int × Int) : List Value := [.int .i64 p.1, .int .i64 p.2]
theorem keyInt (z : Int) : IsKey (.int .i64) (intV z) := rfl
theorem intV_inj (x y : Int) (h : intV x = intV y) : x = y := by injection h
theorem tiBool : TI Try.prog 4 (.bool false) 1 1 := TI.of (by kernel_rfl)
theorem tiInt : TI Try.prog 3 (.int .i64 0) 1 8 := TI.of (by kernel_rfl)

def chkL (x y : T) : Int → List (Int × Int) → List Int → Bool
  | _, [], _ => true
  | last, p :: r, seen => decide (last < p.1) && decide (p.1 < x.size) && decide (0 ≤ p.2) && decide (p.2 < y.size) && !(seen.contains p.2) && (decide ((x.nd p.1.toNat).t.kind = (y.nd p.2.toNat).t.kind ∧ (x.nd p.1.toNat).t.name = (y.nd p.2.toNat).t.name)) && chkL x y p.1 r (p.2 :: seen)
/-- May these be pairs? -/
def chkP (x y : T) (l : List (Int × Int)) : Bool := x.check && y.check && decide (l.head? = some (0, 0)) && chkL x y (-1) l []

theorem matchOf {w : World} {e : En} {a : Sl} {z h : Nat} : Calls Try.prog 61 #[.agg (itc e a z h).toArray] w (Ret fun v w' => Ext w w' ∧ v = .agg #[.int .i64 e.t.kind, .string (Bs e.t.name)]) := by
  refine match_of.ok _ _ _ _ _ _ _ _ _ _ ?_
  unfold match_of.vc
  intro w1 B1 B2 _ _ _ hE
  exact ⟨hE, rfl⟩

theorem matchCheck {A : List Nat} {w : World} {a b : T} {sa sk ta tk l : Sl} {ps : List (Int × Int)} (ha : RdT A w a sa sk) (hb : RdT A w b ta tk) (hl : Row A w l 2 (ps.map pc)) (na : a.bulk ≤ 400000000) (nb : b.bulk ≤ 400000000) (np : ps.length ≤ 1000000000) :
    Calls Try.prog 36 #[tv a sa sk, tv b ta tk, l.v] w (Ret fun v w' => Ext w w' ∧ v = .bool (chkP a b ps)) := by
  refine match_Check.ok _ _ _ _ _ _ _ _ _ _ _ ?_
  unfold match_Check.vc
  have hln := hl.len
  rw [List.length_map] at hln
  intro w1 B1 B2 _ _ _ hE1
  refine CallK.exact (treeCheck a (by omega) (ha.ext hE1)) fun w2 hE2 => ⟨_, rfl, _, fun _ => treeCheck b (by omega) (hb.ext (hE1.trans hE2)), fun w3 hE3 => ?_⟩
  have hE03 := (hE1.trans hE2).trans hE3
  have pairAt : ∀ w', Ext w w' → ∀ k, k < ps.length → ∃ p, l.a = some p ∧ Cells w' (p.add (k * 2)) (pc (ps.getD k (0, 0))) := fun w' hE k hk => by
    obtain ⟨p, hp, _, hc, _⟩ := (hl.ext hE).at_ k (by simpa using hk)
    refine ⟨p, hp, ?_⟩
    have e : (ps.map pc).getD k [] = pc (ps.getD k (0, 0)) := by simp [List.getD_eq_getElem?_getD, hk]
    rwa [e] at hc
  refine ⟨l.a.getD ⟨0, 0, none⟩, fun hg => ?_, (ps.getD 0 (0, 0)).1, (ps.getD 0 (0, 0)).2, fun hg => ?_, fun hbad => ⟨hE03, ?_⟩, fun hg w4 hE4 => ?_⟩
  · obtain ⟨p, hp, _⟩ := pairAt w3 hE03 0 (by omega)
    rw [hp]; exact ⟨⟨by omega, by omega⟩, rfl⟩
  · obtain ⟨p, hp, hc⟩ := pairAt w3 hE03 0 (by omega)
    rw [hp]; exact hc
  · congr 1
    unfold chkP
    cases ps with
    | nil => simp
    | cons q r =>
      simp only [List.length_cons] at hln
      rcases hbad with ((h | h) | h) | h
      · rw [h]; rfl
      · rw [h]; simp
      · omega
      · have : ¬ q = (0, 0) := fun e => h (by simp [e])
        simp [this]
  obtain ⟨⟨⟨hac, hbc⟩, hne⟩, h00⟩ := hg
  have hE04 := hE03.trans hE4
  have hhead : ps.head? = some (0, 0) := by
    cases ps with
    | nil => simp at hln; omega
    | cons q r =>
      simp at h00
      simp [Prod.ext_iff, h00]
  have hchk : chkP a b ps = chkL a b (-1) ps [] := by unfold chkP; rw [hac, hbc, hhead]; simp
  rw [hchk]
  refine ⟨fun s w' => Items [] w' s a, fun s w' w'' hE h => h.ext hE, fun w' hE => ?_, fun s w' => Items [] w' s b, fun s w' w'' hE h => h.ext hE, fun w' hE => ?_, ?_⟩
  · refine Ret.mono (walkFlat (by omega) (ha.ext (hE04.trans hE))) ?_
    rintro v w'' ⟨h1, s, rfl, h2⟩
    exact ⟨h1, s, rfl, h2.less (by simp)⟩
  · refine Ret.mono (walkFlat (by omega) (hb.ext (hE04.trans hE))) ?_
    rintro v w'' ⟨h1, s, rfl, h2⟩
    exact ⟨h1, s, rfl, h2.less (by simp)⟩
  intro w5 x y hE5 hX hY
  have hE05 := hE04.trans hE5
  refine makeMap_run intV (.int .i64) fun M w6 hE6 hM hMap => ⟨some M, rfl, fun last i w' => ∃ (k : Nat) (seen : List Int) (m : List (Int × Value)), i = (k : Int) ∧ k ≤ ps.length ∧ -1 ≤ last ∧ MapIs intV (.int .i64) w' M m ∧ (∀ z, (mget m z).getD (.bool false) = .bool (seen.contains z)) ∧ chkL a b (-1) ps [] = chkL a b last (ps.drop k) seen ∧ Chg [M] w5 w', fun _ i _ => ps.length - i.toNat,
    ⟨0, [], [], rfl, by omega, by omega, hMap, fun z => rfl, rfl, hE6.mono (by simp)⟩, ?_⟩
  rintro last _ w7 ⟨k, seen, m, rfl, hk, hlast, hMap7, hseen, heq, hC7⟩
  have hE07 : Ext w w7 := Chg.fresh hE05 hC7 (by simpa using Nat.le_trans hE05.size hM)
  have hX7 : Items [] w7 x a := ((hX.fresh hM).chg hC7 (by simp)).less (by simp)
  have hY7 : Items [] w7 y b := ((hY.fresh hM).chg hC7 (by simp)).less (by simp)
  refine ⟨fun hi => ?_, fun hi => ⟨hE07, ?_⟩⟩
  · have hk' : k < ps.length := by omega
    obtain ⟨p, hp, hc⟩ := pairAt w7 hE07 k hk'
    have hdr : ps.drop k = ps.getD k (0, 0) :: ps.drop (k + 1) := by
      rw [List.drop_eq_getElem_cons hk', List.getD_eq_getElem?_getD, List.getElem?_eq_getElem hk']; rfl
    rw [hdr] at heq
    generalize ps.getD k (0, 0) = q at hc heq
    obtain ⟨qa, qb⟩ := q
    refine ⟨⟨by omega, hi⟩, p, hp, qa, qb, hc, fun w8 B8 hN8 hE8 => ?_⟩
    obtain ⟨hxn, px, alx, hpx, hxc⟩ := (hX7.ext hE8).cell
    obtain ⟨hyn, py, aly, hpy, hyc⟩ := (hY7.ext hE8).cell
    refine ⟨seen.contains qb, fun hg w' hE' => ?_, px, fun hg => ⟨⟨by omega, by omega⟩, hpx⟩, _, _, _, _, _, _, _, _, _, _, fun hg => (hxc qa.toNat (by omega)).1, fun kd nm _ => kd = (a.nd qa.toNat).t.kind ∧ nm = (a.nd qa.toNat).t.name, fun _ _ _ _ _ h => h, fun hg w' hE' => ?_, py, fun hg => ⟨⟨by omega, by omega⟩, hpy⟩, _, _, _, _, _, _, _, _, _, _, fun hg => (hyc qb.toNat (by omega)).1, fun kd nm _ => kd = (b.nd qb.toNat).t.kind ∧ nm = (b.nd qb.toNat).t.name, fun _ _ _ _ _ h => h, fun hg w' hE' => ?_, ?_⟩
    · have := (lookup_run keyInt intV_inj Try.underlying107 Try.underlying3 (tiBool.zeroValue w') ((hMap7.ext hE8).ext hE') qb).2
      rw [hseen] at this; exact this
    · exact Ret.mono matchOf fun v w'' ⟨h1, h2⟩ => ⟨h1, _, _, h2, rfl, rfl⟩
    · exact Ret.mono matchOf fun v w'' ⟨h1, h2⟩ => ⟨h1, _, _, h2, rfl, rfl⟩
    intro w9 k1 n1 k2 n2 hE9 hV1 hV2
    have hE79 := hE8.trans hE9
    refine ⟨fun hbad => ⟨hE07.trans hE79, ?_⟩, fun hgood => ?_⟩
    · rw [heq]
      congr 1
      rw [chkL]
      by_cases hg : (((¬ (qa ≤ last)) ∧ (¬ ((x.n : Int) ≤ qa))) ∧ (¬ (qb < 0))) ∧ (¬ ((y.n : Int) ≤ qb))
      · by_cases hs : seen.contains qb = false
        · obtain ⟨rfl, rfl⟩ := hV1 ⟨hg, hs⟩
          obtain ⟨rfl, rfl⟩ := hV2 ⟨hg, hs⟩
          have : ¬ ((a.nd qa.toNat).t.kind = (b.nd qb.toNat).t.kind ∧ (a.nd qa.toNat).t.name = (b.nd qb.toNat).t.name) := by
            rcases hbad with ((((h | h) | h) | h) | h) | h
            · exact absurd h hg.1.1.1
            · exact absurd h hg.1.1.2
            · exact absurd h hg.1.2
            · exact absurd h hg.2
            · rw [hs] at h; cases h
            · exact h
          rw [decide_eq_false this]; simp
        · simp only [Bool.not_eq_false] at hs
          rw [hs]; simp
      · have : (decide (last < qa) && decide (qa < (a.size : Int)) && decide (0 ≤ qb) && decide (qb < (b.size : Int))) = false := by
          rw [Bool.eq_false_iff]
          intro ht
          simp only [Bool.and_eq_true, decide_eq_true_eq] at ht
          exact hg (by omega)
        simp only [this, Bool.false_and]
    · obtain ⟨⟨hg, hs⟩, hkn⟩ := hgood
      obtain ⟨rfl, rfl⟩ := hV1 ⟨hg, hs⟩
      obtain ⟨rfl, rfl⟩ := hV2 ⟨hg, hs⟩
      have hkn' := Classical.not_not.1 hkn
      refine mapUpdate_run keyInt intV_inj Try.underlying107 Try.underlying3 (hMap7.ext hE79) qb (.bool true) ?_ fun w10 hC10 hMap10 => ⟨⟨by omega, by omega⟩, ⟨k + 1, qb :: seen, _, by omega, by omega, by omega, hMap10, fun z => ?_, ?_, ?_⟩, by dsimp only; omega⟩
      · have := hMap7.lt; have := hN8.ge
        simp; omega
      · rw [mget_put]
        by_cases hz : z = qb
        · subst hz; simp
        · rw [if_neg hz, hseen]; simp [hz]
      · rw [heq, chkL, hs, decide_eq_true hkn']
        have : (decide (last < qa) && decide (qa < (a.size : Int)) && decide (0 ≤ qb) && decide (qb < (b.size : Int))) = true := by
          simp only [Bool.and_eq_true, decide_eq_true_eq]; omega
        simp only [this]; simp
      · exact (hC7.more hE79).trans hC10
  · have hkl : k = ps.length := by omega
    subst hkl
    rw [heq, List.drop_length]; rfl

end Go.Proofs.Yteohbfaechfliaa
