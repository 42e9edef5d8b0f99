/-
  tree.Same, and the law TreeOrder.
-/
import Derived.Test.YteohbfaechfliaaTreeQ
namespace Go.Proofs.Yteohbfaechfliaa
open Go.RowKit

theorem take_snoc {α : Type} (l : List α) (d : α) {k : Nat} (h : k < l.length) : l.take (k + 1) = l.take k ++ [l.getD k d] := by
  rw [List.take_succ_eq_append_getElem h, List.getD_eq_getElem?_getD, List.getElem?_eq_getElem h]; rfl

theorem cmp_small (a b : T) : -1 ≤ T.cmp a b ∧ T.cmp a b ≤ 1 := by
  have hI : ∀ x y : Int, -1 ≤ cmpI x y ∧ cmpI x y ≤ 1 := fun x y => by unfold cmpI; split <;> (try split) <;> omega
  have hor : ∀ x y : Int, (-1 ≤ x ∧ x ≤ 1) → (-1 ≤ y ∧ y ≤ 1) → -1 ≤ or2 x y ∧ or2 x y ≤ 1 := fun x y h1 h2 => by unfold or2; split <;> omega
  have hlex : ∀ {α β : Type} (c : α → β → Int) (l : List α) (m : List β), (∀ x ∈ l, ∀ y, -1 ≤ c x y ∧ c x y ≤ 1) → -1 ≤ lexM c l m ∧ lexM c l m ≤ 1 := by
    intro α β c l
    induction l with
    | nil => intro m _; cases m <;> simp [lexM]
    | cons x xs ih =>
      intro m h
      cases m with
      | nil => simp [lexM]
      | cons y ys => rw [lexM_step]; exact hor _ _ (h x (by simp) y) (ih ys (fun z hz => h z (by simp [hz])))
  have hS : ∀ x y : Str, -1 ≤ cmpS x y ∧ cmpS x y ≤ 1 := fun x y => by unfold cmpS; rw [compareBytes_lex]; exact hlex cmpB x y (fun _ _ _ => hI _ _)
  have hA : ∀ x y, -1 ≤ cmpA x y ∧ cmpA x y ≤ 1 := fun x y => hor _ _ (hS _ _) (hS _ _)
  revert b
  refine T.ind' (P := fun a => ∀ b, -1 ≤ T.cmp a b ∧ T.cmp a b ≤ 1) (fun a ih b => ?_) a
  rw [T.cmp_eq]
  exact hor _ _ (hor _ _ (hor _ _ (hI _ _) (hor _ _ (hS _ _) (hS _ _))) (hlex _ _ _ (fun x _ y => hA x y))) (hlex _ _ _ (fun x hx y => ih x hx y))

/-! ### Small, exactly -/

def goL : List (Nat → Bool × Nat) → Nat → Bool × Nat
  | [], c => (true, c)
  | f :: r, c => if (f c).1 = true then goL r (f c).2 else (false, (f c).2)
def badAttr (p : Str × Str) : Bool := decide (200 < p.1.length) || decide (6000 < p.2.length)
def T.sm : T → Nat → Nat → Bool × Nat
  | .node _ n x ats ks, deep, c => if 400 < c + 1 ∨ 70 < deep ∨ 20 < ats.length ∨ 200 < n.length ∨ 6000 < x.length then (false, c + 1) else if ats.any badAttr = true then (false, c + 1)
    else goL (ks.attach.map fun ⟨t, _⟩ => fun c => T.sm t (deep + 1) c) (c + 1)
theorem T.sm_eq (t : T) (deep c : Nat) : t.sm deep c = if 400 < c + 1 ∨ 70 < deep ∨ 20 < t.attrs.length ∨ 200 < t.name.length ∨ 6000 < t.text.length then (false, c + 1) else if t.attrs.any badAttr = true then (false, c + 1)
    else goL (t.kids.map fun u => fun c => u.sm (deep + 1) c) (c + 1) := by
  cases t with
  | node k n x ats ks =>
    rw [T.sm]
    have e : (ks.attach.map fun (u : { x // x ∈ ks }) => fun c => T.sm u.1 (deep + 1) c) = ks.map fun u => fun c => T.sm u (deep + 1) c := List.attach_map_val (f := fun u => fun c => T.sm u (deep + 1) c)
    exact congrArg (fun z : List (Nat → Bool × Nat) => if 400 < c + 1 ∨ 70 < deep ∨ 20 < ats.length ∨ 200 < n.length ∨ 6000 < x.length then (false, c + 1) else if ats.any badAttr = true then (false, c + 1) else goL z (c + 1)) e
theorem goL_le : ∀ (l : List (Nat → Bool × Nat)), (∀ f ∈ l, ∀ c, (f c).1 = true → (f c).2 ≤ 400) → ∀ c, c ≤ 400 → (goL l c).1 = true → (goL l c).2 ≤ 400
  | [], _, c, hc, _ => hc
  | f :: r, h, c, hc, ht => by
    unfold goL at ht ⊢
    split at ht
    · rename_i hf
      rw [if_pos hf]
      exact goL_le r (fun g hg => h g (by simp [hg])) _ (h f (by simp) c hf) ht
    · cases ht
theorem T.sm_le : ∀ t : T, ∀ deep c : Nat, (t.sm deep c).1 = true → (t.sm deep c).2 ≤ 400 := T.ind' fun t ih deep c => by
  rw [T.sm_eq]
  split
  · intro h; cases h
  · rename_i hn
    split
    · intro h; cases h
    · exact goL_le _ (fun f hf c => by
        obtain ⟨u, hu, rfl⟩ := List.mem_map.1 hf
        exact ih u hu _ _) _ (by omega)

theorem lawSmallX {A : List Nat} {B : Nat} (hBA : B ∈ A) : ∀ t : T, t.bulk ≤ 1099511627776 → ∀ {w : World} {sa sk : Sl} (deep : Nat) (c : Nat), c ≤ 400 → deep ≤ 71 → RdT A w t sa sk → Box w B 3 [.int .i64 (c : Int)] →
    Calls Try.prog 66 #[tv t sa sk, .int .i64 (deep : Int), .pointer (some ⟨B, 0, none⟩)] w (Ret fun v w' => Chg [B] w w' ∧ (v = .bool (t.sm deep c).1 ∧ Box w' B 3 [.int .i64 (((t.sm deep c).2 : Nat) : Int)])) := T.ind' fun t ih hb w sa sk deep c hc hd h hB => by
  refine law00_small.ok _ _ _ _ _ _ _ ?_
  unfold law00_small.vc
  have hn := h.nkids
  have hna := h.nattrs
  have hcp := h.caps
  simp only [maxLen] at hcp
  have hl := T.kids_len t
  intro w5 B4 hN hE5
  have hB5 := hB.ext hE5
  have hlt := hB.lt
  have hge := hN.ge
  refine ⟨(c : Int), hB5.cell 0 _ rfl, ⟨by omega, by omega⟩, B, 0, 3, _, rfl, hB5, by simp, by simp; omega, fun w1 hC hB1 => ?_⟩
  have hB1 : Box w1 B 3 [.int .i64 (((c + 1 : Nat) : Nat) : Int)] := hB1
  have hC1 : Chg [B] w w1 := (Chg.ext hE5).trans hC
  have hF : ∀ b ∈ [B], b ∈ A := by simpa using hBA
  rw [T.sm_eq]
  refine ⟨((c + 1 : Nat) : Int), hB1.cell 0 _ rfl, fun hbad => ?_, fun hok => ?_⟩
  · rw [if_pos (by omega)]; exact ⟨hC1, rfl, hB1⟩
  rw [if_neg (by omega)]
  refine ⟨fun i w2 => ∃ k : Nat, i = (k : Int) ∧ k ≤ t.attrs.length ∧ t.attrs.any badAttr = (t.attrs.drop k).any badAttr ∧ Chg [B] w w2 ∧ Box w2 B 3 [.int .i64 ((c + 1 : Nat) : Int)], fun i _ => t.attrs.length - i.toNat, ⟨0, rfl, Nat.zero_le _, rfl, hC1, hB1⟩, ?_⟩
  rintro _ w2 ⟨k, rfl, hk, hany, hC2, hB2⟩
  refine ⟨fun hi => ?_, fun hi => ?_⟩
  · have hk1 : k < t.attrs.length := by omega
    obtain ⟨p, hp, _, hcell⟩ := (RdT.chg hC2 hF h).attr hk1
    rw [Int.toNat_natCast]
    rw [drop_at t.attrs ([], []) hk1, List.any_cons] at hany
    refine ⟨⟨by omega, hi⟩, p, hp, _, hcell 0 _ rfl, p, fun _ => ⟨⟨by omega, hi⟩, hp⟩, _, fun _ => hcell 1 _ rfl, fun hbad => ?_, fun hgood => ⟨⟨by omega, by omega⟩, ⟨k + 1, by omega, by omega, ?_, hC2, hB2⟩, by dsimp only; omega⟩⟩
    · have : badAttr (t.attrs.getD k ([], [])) = true := by unfold badAttr; rw [Bool.or_eq_true, decide_eq_true_iff, decide_eq_true_iff]; omega
      rw [hany, this, Bool.true_or, if_pos rfl]; exact ⟨hC2, rfl, hB2⟩
    · have : badAttr (t.attrs.getD k ([], [])) = false := by unfold badAttr; rw [Bool.or_eq_false_iff, decide_eq_false_iff_not, decide_eq_false_iff_not]; omega
      rw [hany, this, Bool.false_or]
  · have hkl : k = t.attrs.length := by omega
    subst hkl
    rw [List.drop_length] at hany
    rw [hany, if_neg (by simp)]
    refine ⟨fun i w3 => ∃ k c' : Nat, i = (k : Int) ∧ k ≤ t.kids.length ∧ goL (t.kids.map fun u => fun c => u.sm (deep + 1) c) (c + 1) = goL ((t.kids.drop k).map fun u => fun c => u.sm (deep + 1) c) c' ∧ Chg [B] w w3 ∧ Box w3 B 3 [.int .i64 (c' : Int)] ∧ c' ≤ 400, fun i _ => t.kids.length - i.toNat, ⟨0, c + 1, rfl, Nat.zero_le _, rfl, hC2, hB2, by omega⟩, ?_⟩
    rintro _ w3 ⟨k, c', rfl, hk, hgo, hC3, hB3, hc'⟩
    rw [hgo]
    refine ⟨fun hi => ?_, fun hi => ?_⟩
    · have hk' : k < t.kids.length := by omega
      obtain ⟨p, sa', sk', hp, _, hcell, hr⟩ := (RdT.chg hC3 hF h).kid hk'
      rw [Int.toNat_natCast]
      have hm := getD_mem (d := T.nul) hk'
      rw [drop_at t.kids T.nul hk', List.map_cons, goL] at hgo ⊢
      refine ⟨⟨by omega, hi⟩, p, hp, _, _, _, sa', sk', hcell, ⟨by omega, by omega⟩, CallK.chg (ih _ hm (by have := T.kid_bulk hm; omega) (deep + 1) c' hc' (by omega) hr hB3) (by simp; omega) fun v w4 hC4 ⟨hv, hB4⟩ => ⟨_, hv, fun hf => ?_, fun ht => ⟨⟨by omega, by omega⟩, ⟨k + 1, _, by omega, by omega, ?_, hC3.trans hC4, hB4, T.sm_le _ _ _ ht⟩, by dsimp only; omega⟩⟩⟩
      · rw [if_neg (by rw [hf]; simp)]; exact ⟨hC3.trans hC4, rfl, hB4⟩
      · rw [if_pos ht]
    · have hkl : k = t.kids.length := by omega
      subst hkl
      rw [List.drop_length]
      exact ⟨hC3, rfl, hB3⟩

def T.small (t : T) : Bool := (t.sm 0 0).1
theorem lawSmallE {A : List Nat} {w : World} {t : T} {sa sk : Sl} (h : RdT A w t sa sk) (hb : t.bulk ≤ 1099511627776) :
    Calls Try.prog 42 #[tv t sa sk] w (Ret fun v w' => Ext w w' ∧ v = .bool t.small) := by
  refine law00_Small.ok _ _ _ _ _ ?_
  unfold law00_Small.vc
  intro w1 B1 B2 hN1 hN2 hne hE1 hB
  have hr := (((h.less (A' := []) (by simp)).fresh hN2.ge).ext hE1)
  have hs := lawSmallX (A := [B2]) (B := B2) (by simp) t hb 0 0 (by omega) (by omega) hr hB
  exact CallK.chg hs (by simpa using hne) fun v w2 hC ⟨hv, _⟩ => ⟨_, hv, Chg.fresh hE1 hC (by simpa using hN2.ge), rfl⟩

end Go.Proofs.Yteohbfaechfliaa
