/-
  tree.Same, and the law TreeOrder.
-/
import Derived.Test.YtpacegmmbabhjaaTreeQ
import Derived.Test.YtpacegmmbabhjaaGlaw05TreeOrder
namespace Go.Proofs.Ytpacegmmbabhjaa
open Go.RowKit

theorem take_snoc {α : Type} (l : List α) (d : α) {k : Nat} (h : k < l.length) : l.take (k + 1) = l.take k ++ [l.getD k d] := by
  rw [List.take_succ_eq_append_getElem h, List.getD_eq_getElem?_getD, List.getElem?_eq_getElem h]; rfl

theorem treeSame {A : List Nat} : ∀ a : T, ∀ (b : T) {w : World} {sa sk ta tk : Sl}, RdT A w a sa sk → RdT A w b ta tk →
    Calls Try.prog 25 #[tv a sa sk, tv b ta tk] w (Ret fun v w' => Ext w w' ∧ v = .bool (decide (T.cmp a b = 0))) := T.ind' fun a ih b w sa sk ta tk ha hb => by
  refine tree_Same.ok _ _ _ _ _ _ _ _ _ _ ?_
  unfold tree_Same.vc
  have hna := ha.nattrs
  have hnk := ha.nkids
  have hnb := hb.nattrs
  have hnl := hb.nkids
  have hca := ha.caps
  have hcb := hb.caps
  simp only [maxLen] at hca hcb
  have no : a ≠ b → decide (T.cmp a b = 0) = false := fun h => decide_eq_false (fun e => h ((T.cmp_zero a b).1 e))
  refine ⟨fun hbad w1 B1 B2 _ _ _ hE1 => ⟨hE1, ?_⟩, fun hgood w1 B1 B2 _ _ _ hE1 => ?_⟩
  · rw [no (fun e => by
      subst e
      rcases hbad with (((h | h) | h) | h) | h
      · exact h rfl
      · exact h rfl
      · exact h rfl
      · omega
      · omega)]
  · obtain ⟨⟨⟨⟨g1, g2⟩, g3⟩, g4⟩, g5⟩ := hgood
    have g1 := Classical.not_not.1 g1
    have g2 := Classical.not_not.1 g2
    have g3 := Classical.not_not.1 g3
    have g4 : a.attrs.length = b.attrs.length := by omega
    have g5 : a.kids.length = b.kids.length := by omega
    refine ⟨fun i w2 => ∃ k : Nat, i = (k : Int) ∧ k ≤ a.attrs.length ∧ a.attrs.take k = b.attrs.take k ∧ Ext w w2, fun i _ => a.attrs.length - i.toNat, ⟨0, rfl, Nat.zero_le _, rfl, hE1⟩, ?_⟩
    rintro _ w2 ⟨k, rfl, hk, heq, hE2⟩
    rw [Int.toNat_natCast]
    refine ⟨fun hi => ?_, fun hi => ?_⟩
    · have hk1 : k < a.attrs.length := by omega
      have hk2 : k < b.attrs.length := by omega
      obtain ⟨p, hp, _, hc⟩ := (ha.ext hE2).attr hk1
      refine ⟨⟨by omega, hi⟩, p, hp, _, _, hc, fun w3 B3 _ hE3 => ?_⟩
      obtain ⟨q, hq, _, hd⟩ := (hb.ext (hE2.trans hE3)).attr hk2
      refine ⟨q, ⟨⟨by omega, by omega⟩, hq⟩, _, _, hd, fun hne w4 hE4 => ⟨(hE2.trans hE3).trans hE4, ?_⟩, fun hyes => ⟨⟨by omega, by omega⟩, fun w4 hE4 => ⟨⟨k + 1, by omega, by omega, ?_, (hE2.trans hE3).trans hE4⟩, by dsimp only; omega⟩⟩⟩
      · rw [no (fun e => by subst e; exact hne ⟨rfl, rfl⟩)]
      · have hyes := Classical.not_not.1 hyes
        rw [take_snoc a.attrs ([], []) hk1, take_snoc b.attrs ([], []) hk2, heq, Prod.ext hyes.1 hyes.2]
    · have hat : a.attrs = b.attrs := by
        have e1 := List.take_of_length_le (l := a.attrs) (i := k) (by omega)
        have e2 := List.take_of_length_le (l := b.attrs) (i := k) (by omega)
        rw [← e1, ← e2]; exact heq
      refine ⟨fun i w3 => ∃ k : Nat, i = (k : Int) ∧ k ≤ a.kids.length ∧ a.kids.take k = b.kids.take k ∧ Ext w w3, fun i _ => a.kids.length - i.toNat, ⟨0, rfl, Nat.zero_le _, rfl, hE2⟩, ?_⟩
      rintro _ w3 ⟨j, rfl, hj, heq2, hE3⟩
      rw [Int.toNat_natCast]
      refine ⟨fun hi => ?_, fun hi => ⟨hE3, ?_⟩⟩
      · have hk1 : j < a.kids.length := by omega
        have hk2 : j < b.kids.length := by omega
        obtain ⟨p, sa', sk', hp, _, hc, hr⟩ := (ha.ext hE3).kid hk1
        refine ⟨⟨by omega, hi⟩, p, hp, _, _, _, sa', sk', hc, fun w4 B4 _ hE4 => ?_⟩
        obtain ⟨q, ta', tk', hq, _, hd, hs⟩ := (hb.ext (hE3.trans hE4)).kid hk2
        refine ⟨q, ⟨⟨by omega, by omega⟩, hq⟩, _, _, _, ta', tk', hd, _, fun w' hE' => ih _ (getD_mem hk1) _ ((hr.ext hE4).ext hE') (hs.ext hE'), fun hne w5 hE5 => ⟨(hE3.trans hE4).trans hE5, ?_⟩, fun hyes => ⟨⟨by omega, by omega⟩, fun w5 hE5 => ⟨⟨j + 1, by omega, by omega, ?_, (hE3.trans hE4).trans hE5⟩, by dsimp only; omega⟩⟩⟩
        · rw [no (fun e => by subst e; exact of_decide_eq_false hne ((T.cmp_zero _ _).2 rfl))]
        · rw [take_snoc a.kids T.nul hk1, take_snoc b.kids T.nul hk2, heq2, (T.cmp_zero _ _).1 (of_decide_eq_true hyes)]
      · have hkt : a.kids = b.kids := by
          have e1 := List.take_of_length_le (l := a.kids) (i := j) (by omega)
          have e2 := List.take_of_length_le (l := b.kids) (i := j) (by omega)
          rw [← e1, ← e2]; exact heq2
        rw [decide_eq_true ((T.cmp_zero a b).2 (T.ext g1 g2 g3 hat hkt))]

theorem cmp_small (a b : T) : -1 ≤ T.cmp a b ∧ T.cmp a b ≤ 1 := by
  have hI : ∀ x y : Int, -1 ≤ cmpI x y ∧ cmpI x y ≤ 1 := fun x y => by unfold cmpI; split <;> (try split) <;> omega
  have hor : ∀ x y : Int, (-1 ≤ x ∧ x ≤ 1) → (-1 ≤ y ∧ y ≤ 1) → -1 ≤ or2 x y ∧ or2 x y ≤ 1 := fun x y h1 h2 => by unfold or2; split <;> omega
  have hlex : ∀ {α β : Type} (c : α → β → Int) (l : List α) (m : List β), (∀ x ∈ l, ∀ y, -1 ≤ c x y ∧ c x y ≤ 1) → -1 ≤ lexM c l m ∧ lexM c l m ≤ 1 := by
    intro α β c l
    induction l with
    | nil => intro m _; cases m <;> simp [lexM]
    | cons x xs ih =>
      intro m h
      cases m with
      | nil => simp [lexM]
      | cons y ys => rw [lexM_step]; exact hor _ _ (h x (by simp) y) (ih ys (fun z hz => h z (by simp [hz])))
  have hS : ∀ x y : Str, -1 ≤ cmpS x y ∧ cmpS x y ≤ 1 := fun x y => by unfold cmpS; rw [compareBytes_lex]; exact hlex cmpB x y (fun _ _ _ => hI _ _)
  have hA : ∀ x y, -1 ≤ cmpA x y ∧ cmpA x y ≤ 1 := fun x y => hor _ _ (hS _ _) (hS _ _)
  revert b
  refine T.ind' (P := fun a => ∀ b, -1 ≤ T.cmp a b ∧ T.cmp a b ≤ 1) (fun a ih b => ?_) a
  rw [T.cmp_eq]
  exact hor _ _ (hor _ _ (hor _ _ (hI _ _) (hor _ _ (hS _ _) (hS _ _))) (hlex _ _ _ (fun x _ y => hA x y))) (hlex _ _ _ (fun x hx y => ih x hx y))

/-! ### Small, exactly -/

def goL : List (Nat → Bool × Nat) → Nat → Bool × Nat
  | [], c => (true, c)
  | f :: r, c => if (f c).1 = true then goL r (f c).2 else (false, (f c).2)
def badAttr (p : Str × Str) : Bool := decide (200 < p.1.length) || decide (6000 < p.2.length)
def T.sm : T → Nat → Nat → Bool × Nat
  | .node _ n x ats ks, deep, c => if 400 < c + 1 ∨ 70 < deep ∨ 20 < ats.length ∨ 200 < n.length ∨ 6000 < x.length then (false, c + 1) else if ats.any badAttr = true then (false, c + 1)
    else goL (ks.attach.map fun ⟨t, _⟩ => fun c => T.sm t (deep + 1) c) (c + 1)
theorem T.sm_eq (t : T) (deep c : Nat) : t.sm deep c = if 400 < c + 1 ∨ 70 < deep ∨ 20 < t.attrs.length ∨ 200 < t.name.length ∨ 6000 < t.text.length then (false, c + 1) else if t.attrs.any badAttr = true then (false, c + 1)
    else goL (t.kids.map fun u => fun c => u.sm (deep + 1) c) (c + 1) := by
  cases t with
  | node k n x ats ks =>
    rw [T.sm]
    have e : (ks.attach.map fun (u : { x // x ∈ ks }) => fun c => T.sm u.1 (deep + 1) c) = ks.map fun u => fun c => T.sm u (deep + 1) c := List.attach_map_val (f := fun u => fun c => T.sm u (deep + 1) c)
    exact congrArg (fun z : List (Nat → Bool × Nat) => if 400 < c + 1 ∨ 70 < deep ∨ 20 < ats.length ∨ 200 < n.length ∨ 6000 < x.length then (false, c + 1) else if ats.any badAttr = true then (false, c + 1) else goL z (c + 1)) e
theorem goL_le : ∀ (l : List (Nat → Bool × Nat)), (∀ f ∈ l, ∀ c, (f c).1 = true → (f c).2 ≤ 400) → ∀ c, c ≤ 400 → (goL l c).1 = true → (goL l c).2 ≤ 400
  | [], _, c, hc, _ => hc
  | f :: r, h, c, hc, ht => by
    unfold goL at ht ⊢
    split at ht
    · rename_i hf
      rw [if_pos hf]
      exact goL_le r (fun g hg => h g (by simp [hg])) _ (h f (by simp) c hf) ht
    · cases ht
theorem T.sm_le : ∀ t : T, ∀ deep c : Nat, (t.sm deep c).1 = true → (t.sm deep c).2 ≤ 400 := T.ind' fun t ih deep c => by
  rw [T.sm_eq]
  split
  · intro h; cases h
  · rename_i hn
    split
    · intro h; cases h
    · exact goL_le _ (fun f hf c => by
        obtain ⟨u, hu, rfl⟩ := List.mem_map.1 hf
        exact ih u hu _ _) _ (by omega)

theorem lawSmallX {A : List Nat} {B : Nat} (hBA : B ∈ A) : ∀ t : T, t.bulk ≤ 1099511627776 → ∀ {w : World} {sa sk : Sl} (deep : Nat) (c : Nat), c ≤ 400 → deep ≤ 71 → RdT A w t sa sk → Box w B 3 [.int .i64 (c : Int)] →
    Calls Try.prog 39 #[tv t sa sk, .int .i64 (deep : Int), .pointer (some ⟨B, 0, none⟩)] w (Ret fun v w' => Chg [B] w w' ∧ (v = .bool (t.sm deep c).1 ∧ Box w' B 3 [.int .i64 (((t.sm deep c).2 : Nat) : Int)])) := T.ind' fun t ih hb w sa sk deep c hc hd h hB => by
  refine law00_small.ok _ _ _ _ _ _ _ ?_
  unfold law00_small.vc
  have hn := h.nkids
  have hna := h.nattrs
  have hcp := h.caps
  simp only [maxLen] at hcp
  have hl := T.kids_len t
  intro w5 B4 hN hE5
  have hB5 := hB.ext hE5
  have hlt := hB.lt
  have hge := hN.ge
  refine ⟨(c : Int), hB5.cell 0 _ rfl, ⟨by omega, by omega⟩, B, 0, 3, _, rfl, hB5, by simp, by simp; omega, fun w1 hC hB1 => ?_⟩
  have hB1 : Box w1 B 3 [.int .i64 (((c + 1 : Nat) : Nat) : Int)] := hB1
  have hC1 : Chg [B] w w1 := (Chg.ext hE5).trans hC
  have hF : ∀ b ∈ [B], b ∈ A := by simpa using hBA
  rw [T.sm_eq]
  refine ⟨((c + 1 : Nat) : Int), hB1.cell 0 _ rfl, fun hbad => ?_, fun hok => ?_⟩
  · rw [if_pos (by omega)]; exact ⟨hC1, rfl, hB1⟩
  rw [if_neg (by omega)]
  refine ⟨fun i w2 => ∃ k : Nat, i = (k : Int) ∧ k ≤ t.attrs.length ∧ t.attrs.any badAttr = (t.attrs.drop k).any badAttr ∧ Chg [B] w w2 ∧ Box w2 B 3 [.int .i64 ((c + 1 : Nat) : Int)], fun i _ => t.attrs.length - i.toNat, ⟨0, rfl, Nat.zero_le _, rfl, hC1, hB1⟩, ?_⟩
  rintro _ w2 ⟨k, rfl, hk, hany, hC2, hB2⟩
  refine ⟨fun hi => ?_, fun hi => ?_⟩
  · have hk1 : k < t.attrs.length := by omega
    obtain ⟨p, hp, _, hcell⟩ := (RdT.chg hC2 hF h).attr hk1
    rw [Int.toNat_natCast]
    rw [drop_at t.attrs ([], []) hk1, List.any_cons] at hany
    refine ⟨⟨by omega, hi⟩, p, hp, _, hcell 0 _ rfl, p, fun _ => ⟨⟨by omega, hi⟩, hp⟩, _, fun _ => hcell 1 _ rfl, fun hbad => ?_, fun hgood => ⟨⟨by omega, by omega⟩, ⟨k + 1, by omega, by omega, ?_, hC2, hB2⟩, by dsimp only; omega⟩⟩
    · have : badAttr (t.attrs.getD k ([], [])) = true := by unfold badAttr; rw [Bool.or_eq_true, decide_eq_true_iff, decide_eq_true_iff]; omega
      rw [hany, this, Bool.true_or, if_pos rfl]; exact ⟨hC2, rfl, hB2⟩
    · have : badAttr (t.attrs.getD k ([], [])) = false := by unfold badAttr; rw [Bool.or_eq_false_iff, decide_eq_false_iff_not, decide_eq_false_iff_not]; omega
      rw [hany, this, Bool.false_or]
  · have hkl : k = t.attrs.length := by omega
    subst hkl
    rw [List.drop_length] at hany
    rw [hany, if_neg (by simp)]
    refine ⟨fun i w3 => ∃ k c' : Nat, i = (k : Int) ∧ k ≤ t.kids.length ∧ goL (t.kids.map fun u => fun c => u.sm (deep + 1) c) (c + 1) = goL ((t.kids.drop k).map fun u => fun c => u.sm (deep + 1) c) c' ∧ Chg [B] w w3 ∧ Box w3 B 3 [.int .i64 (c' : Int)] ∧ c' ≤ 400, fun i _ => t.kids.length - i.toNat, ⟨0, c + 1, rfl, Nat.zero_le _, rfl, hC2, hB2, by omega⟩, ?_⟩
    rintro _ w3 ⟨k, c', rfl, hk, hgo, hC3, hB3, hc'⟩
    rw [hgo]
    refine ⟨fun hi => ?_, fun hi => ?_⟩
    · have hk' : k < t.kids.length := by omega
      obtain ⟨p, sa', sk', hp, _, hcell, hr⟩ := (RdT.chg hC3 hF h).kid hk'
      rw [Int.toNat_natCast]
      have hm := getD_mem (d := T.nul) hk'
      rw [drop_at t.kids T.nul hk', List.map_cons, goL] at hgo ⊢
      refine ⟨⟨by omega, hi⟩, p, hp, _, _, _, sa', sk', hcell, ⟨by omega, by omega⟩, CallK.chg (ih _ hm (by have := T.kid_bulk hm; omega) (deep + 1) c' hc' (by omega) hr hB3) (by simp; omega) fun v w4 hC4 ⟨hv, hB4⟩ => ⟨_, hv, fun hf => ?_, fun ht => ⟨⟨by omega, by omega⟩, ⟨k + 1, _, by omega, by omega, ?_, hC3.trans hC4, hB4, T.sm_le _ _ _ ht⟩, by dsimp only; omega⟩⟩⟩
      · rw [if_neg (by rw [hf]; simp)]; exact ⟨hC3.trans hC4, rfl, hB4⟩
      · rw [if_pos ht]
    · have hkl : k = t.kids.length := by omega
      subst hkl
      rw [List.drop_length]
      exact ⟨hC3, rfl, hB3⟩

def T.small (t : T) : Bool := (t.sm 0 0).1
theorem lawSmallE {A : List Nat} {w : World} {t : T} {sa sk : Sl} (h : RdT A w t sa sk) (hb : t.bulk ≤ 1099511627776) :
    Calls Try.prog 20 #[tv t sa sk] w (Ret fun v w' => Ext w w' ∧ v = .bool t.small) := by
  refine law00_Small.ok _ _ _ _ _ ?_
  unfold law00_Small.vc
  intro w1 B1 B2 hN1 hN2 hne hE1 hB
  have hr := (((h.less (A' := []) (by simp)).fresh hN2.ge).ext hE1)
  have hs := lawSmallX (A := [B2]) (B := B2) (by simp) t hb 0 0 (by omega) (by omega) hr hB
  exact CallK.chg hs (by simpa using hne) fun v w2 hC ⟨hv, _⟩ => ⟨_, hv, Chg.fresh hE1 hC (by simpa using hN2.ge), rfl⟩

theorem treeOrderLaw {w : World} {a b c : T} {sa sk ta tk ua uk : Sl} (ha : RdT [] w a sa sk) (hb : RdT [] w b ta tk) (hc : RdT [] w c ua uk) (na : a.bulk ≤ 1048576) (nb : b.bulk ≤ 1048576) (nc : c.bulk ≤ 1048576) :
    Calls Try.prog 8 #[tv a sa sk, tv b ta tk, tv c ua uk] w (Ret fun v w' => Ext w w' ∧ v = .bool true) := by
  refine law05_TreeOrder.ok _ _ _ _ _ _ _ _ _ _ _ _ _ _ _ ?_
  unfold law05_TreeOrder.vc
  intro w1 B1 B2 B3 _ _ _ _ _ _ hE1
  refine CallK.exact (lawSmallE (ha.ext hE1) (by omega)) fun w2 hE2 => ⟨_, rfl, _, fun _ => lawSmallE (hb.ext (hE1.trans hE2)) (by omega), fun w3 hE3 => ⟨_, fun _ => lawSmallE (hc.ext ((hE1.trans hE2).trans hE3)) (by omega), fun w4 hE4 => ⟨fun _ => CallK.exact (treeAwake w4) fun w5 hE5 => ⟨true, rfl, (((hE1.trans hE2).trans hE3).trans hE4).trans hE5, rfl⟩, fun _ w5 hE5 => ?_⟩⟩⟩
  have hE := (((hE1.trans hE2).trans hE3).trans hE4).trans hE5
  have s1 := cmp_small b a
  have an := T.cmp_anti a b
  have zr := T.cmp_zero a b
  refine ⟨_, fun w' hE' => treeCompare a b (ha.ext (hE.trans hE')) (hb.ext (hE.trans hE')), _, fun w' hE' => treeCompare b c (hb.ext (hE.trans hE')) (hc.ext (hE.trans hE')), _, fun w' hE' => treeCompare a c (ha.ext (hE.trans hE')) (hc.ext (hE.trans hE')), fun w6 hE6 => ?_⟩
  have hE6 := hE.trans hE6
  refine CallK.exact (treeCompare b a (hb.ext hE6) (ha.ext hE6)) fun w7 hE7 => ⟨_, rfl, ⟨by omega, by omega⟩, _, fun _ => treeSame a b (ha.ext (hE6.trans hE7)) (hb.ext (hE6.trans hE7)), fun w8 hE8 => ⟨true, fun _ => treeAwake w8, fun w9 hE9 => ⟨((hE6.trans hE7).trans hE8).trans hE9, ?_⟩⟩⟩
  have tr := fun h1 h2 => T.cmp_trans (x := a) (y := b) (z := c) h1 h2
  have z2 := T.cmp_zero a c
  have an2 := T.cmp_anti b c
  have an3 := T.cmp_anti c b
  rw [decide_eq_true (by omega : T.cmp a b = 0 - T.cmp b a)]
  simp only [beq_self_eq_true, Bool.true_and, Bool.and_true]
  congr 1
  have h1 : (!(decide (T.cmp a b ≤ 0) && decide (T.cmp b c ≤ 0) && decide (0 < T.cmp a c))) = true := by
    by_cases p : T.cmp a b ≤ 0
    · by_cases q : T.cmp b c ≤ 0
      · have r := tr p q
        simp; omega
      · simp; omega
    · simp; omega
  have h2 : (!(decide (T.cmp a b < 0) && decide (T.cmp b c ≤ 0) && decide (0 ≤ T.cmp a c))) = true := by
    by_cases p : T.cmp a b < 0
    · by_cases q : T.cmp b c ≤ 0
      · have r := tr (by omega) q
        by_cases e : T.cmp a c = 0
        · have eac := z2.1 e
          subst eac
          omega
        · simp; omega
      · simp; omega
    · simp; omega
  rw [h1, h2]; rfl

end Go.Proofs.Ytpacegmmbabhjaa
