/-
  The laws of chapter 5: TreeAll.
-/
import Derived.Test.YtpacegmmbabhjaaRefE
import Derived.Test.YtpacegmmbabhjaaTreeA
import Derived.Test.YtpacegmmbabhjaaGlaw05TreeAll
namespace Go.Proofs.Ytpacegmmbabhjaa
open Go.RowKit

theorem Sl.v_inj {a b : Sl} (h : a.v = b.v) : a = b := by
  cases a; cases b; simpa [Sl.v] using h
theorem Row.join {A B : List Nat} {w : World} {s : Sl} {size : Nat} {vs : List (List Value)} (h : Row A w s size vs) (k : Row B w s size vs) : Row (A ++ B) w s size vs :=
  ⟨h.len, h.cap, h.most, fun i hi => by
    obtain ⟨p, h1, h2, h3, h4⟩ := h.at_ i hi
    obtain ⟨q, k1, k2, _, _⟩ := k.at_ i hi
    rw [h1] at k1; cases k1
    exact ⟨p, h1, fun hm => (List.mem_append.1 hm).elim h2 k2, h3, h4⟩⟩
theorem RdT.join {A B : List Nat} {w : World} {t : T} {sa sk : Sl} (h : RdT A w t sa sk) (k : RdT B w t sa sk) : RdT (A ++ B) w t sa sk := by
  induction h with
  | @mk kd n x ats ks sa sk ps ha hl hk h ih =>
    cases k with
    | mk ps' ha' hl' hk' h' =>
      have e : ps' = ps := by
        refine List.ext_getElem (by omega) fun i h1 h2 => ?_
        have hi : i < ks.length := by omega
        have g : ∀ qs : List (Sl × Sl), (hq : i < qs.length) → (List.zipWith tc ks qs).getD i [] = tc ks[i] qs[i] := fun qs hq => by
          simp [List.getD_eq_getElem?_getD, hi, hq, List.getElem?_zipWith]
        obtain ⟨p, a1, _, a3, _⟩ := hk.at_ i (by simp; omega)
        obtain ⟨q, b1, _, b3, _⟩ := hk'.at_ i (by simp; omega)
        rw [a1] at b1; cases b1
        rw [g ps h2] at a3
        rw [g ps' h1] at b3
        have c3 := (a3 3 _ rfl).symm.trans (b3 3 _ rfl)
        have c4 := (a3 4 _ rfl).symm.trans (b3 4 _ rfl)
        have d3 := Sl.v_inj (Option.some.inj c3)
        have d4 := Sl.v_inj (Option.some.inj c4)
        exact (Prod.ext d3 d4).symm
      subst e
      exact .mk ps' (ha.join ha') hl (hk.join hk') fun i t p hi hp => ih i t p hi hp (h' i t p hi hp)
theorem tv_inj {k : Int} {n x : Str} {a b : Sl} {t : T} {sa sk : Sl} (h : Value.agg #[.int .i64 k, .string (Bs n), .string (Bs x), Sl.v a, Sl.v b] = tv t sa sk) : a = sa ∧ b = sk := by
  unfold tv at h
  simp only [Value.agg.injEq, Array.mk.injEq, List.cons.injEq, and_true] at h
  exact ⟨Sl.v_inj h.2.2.2.1, Sl.v_inj h.2.2.2.2⟩

/-- What the copy of a tree is: its reading avoids a block. -/
def copyG (t : T) (v : Value) (b : Nat) (w : World) : Prop := ∃ sa sk : Sl, v = tv t sa sk ∧ RdT [b] w t sa sk
def copyV (t : T) (k : Int) (n x : Str) (a b : Sl) (w : World) : Prop := k = t.kind ∧ n = t.name ∧ x = t.text ∧ RdT [] w t a b
theorem copy_call {A : List Nat} {t : T} (hb : t.bulk ≤ 1099511627776) {w0 w : World} {sa sk : Sl} (h : RdT A w t sa sk) :
    Calls Try.prog 13 #[tv t sa sk] w (Ret fun v w' => Ext w w' ∧ ∃ (k : Int) (n x : Str) (a b : Sl), (v = .agg #[.int .i64 k, .string (Bs n), .string (Bs x), Sl.v a, Sl.v b] ∧ copyV t k n x a b w') ∧ ∀ c, w0.heap.size ≤ c → c < w.heap.size → copyG t v c w') := by
  refine Ret.mono (lawTree t hb h) ?_
  rintro v w' ⟨hE, a, b, rfl, hr⟩
  exact ⟨hE, _, _, _, a, b, ⟨rfl, rfl, rfl, rfl, hr.less (by simp)⟩, fun c _ hc => ⟨a, b, rfl, hr.less fun d hd => by simp at hd; subst hd; exact List.mem_range.2 hc⟩⟩

theorem treeAllLaw {w : World} {a b : T} {sa sk ta tk : Sl} (ha : RdT [] w a sa sk) (hb : RdT [] w b ta tk) (na : a.bulk ≤ 1048576) (nb : b.bulk ≤ 1048576) (nm : Str) :
    Calls Try.prog 10 #[tv a sa sk, tv b ta tk, .string (Bs nm)] w (Ret fun v w' => Ext w w' ∧ v = .bool true) := by
  refine law05_TreeAll.ok _ _ _ _ _ _ _ _ _ _ _ ?_
  unfold law05_TreeAll.vc
  intro w1 B1 B2 _ _ _ hE1
  refine CallK.exact (lawSmallE (ha.ext hE1) (by omega)) fun w2 hE2 => ⟨_, rfl, _, fun _ => lawSmallE (hb.ext (hE1.trans hE2)) (by omega), fun w3 hE3 => ⟨fun _ => CallK.exact (treeAwake w3) fun w4 hE4 => ⟨true, rfl, ((hE1.trans hE2).trans hE3).trans hE4, rfl⟩, fun _ w4 hE4 => ?_⟩⟩
  have hE := ((hE1.trans hE2).trans hE3).trans hE4
  refine ⟨copyG a, fun v c w' w'' hE' ⟨x, y, h1, h2⟩ => ⟨x, y, h1, h2.ext hE'⟩, copyV a, fun k n x p q w' w'' hE' ⟨h1, h2, h3, h4⟩ => ⟨h1, h2, h3, h4.ext hE'⟩, fun k n x p q w' c ⟨h1, h2, h3, h4⟩ hc => ⟨p, q, by subst h1; subst h2; subst h3; rfl, h4.fresh hc⟩, fun w' hE' => copy_call (by omega) (ha.ext (hE.trans hE')), ?_⟩
  refine ⟨copyG b, fun v c w' w'' hE' ⟨x, y, h1, h2⟩ => ⟨x, y, h1, h2.ext hE'⟩, copyV b, fun k n x p q w' w'' hE' ⟨h1, h2, h3, h4⟩ => ⟨h1, h2, h3, h4.ext hE'⟩, fun k n x p q w' c ⟨h1, h2, h3, h4⟩ hc => ⟨p, q, by subst h1; subst h2; subst h3; rfl, h4.fresh hc⟩, fun w' hE' => copy_call (by omega) (hb.ext (hE.trans hE')), ?_⟩
  rintro w5 k1 n1 x1 a1 s1 k2 n2 x2 a2 s2 B3 B4 hE5 ⟨rfl, rfl, rfl, hx⟩ ⟨rfl, rfl, rfl, hy⟩ hB3 hb3 hB4 hb4 ⟨_, _, e1, g1⟩ ⟨_, _, e2, g2⟩ ⟨_, _, e3, g3⟩ ⟨_, _, e4, g4⟩ w6 hC6
  obtain ⟨rfl, rfl⟩ := tv_inj e1
  obtain ⟨rfl, rfl⟩ := tv_inj e2
  obtain ⟨rfl, rfl⟩ := tv_inj e3
  obtain ⟨rfl, rfl⟩ := tv_inj e4
  have hx6 := RdT.chg hC6 (by simp) (g2.join g1)
  have hy6 := RdT.chg hC6 (by simp) (g4.join g3)
  have hE6 : Ext w w6 := Chg.fresh (hE.trans hE5) hC6 fun c hc => by
    have := hE.size
    simp at hc
    rcases hc with rfl | rfl <;> omega
  refine CallK.exact (treeAttr hx6 nm) fun w7 hE7 => ⟨_, _, rfl, CallK.exact (refAttr ((ha.ext (hE6.trans hE7)).attrs) nm) fun w8 hE8 => ⟨_, _, rfl, fun w9 hE9 => ?_⟩⟩
  have hE69 := (hE7.trans hE8).trans hE9
  have hx9 := hx6.ext hE69
  have hy9 := hy6.ext hE69
  have hF := hE6.trans hE69
  have ha9 := ha.ext hF
  have hb9 := hb.ext hF
  refine ⟨_, fun w' h => treeCheck a (by omega) (hx9.ext h), _, fun w' h => refCheck a (by omega) (ha9.ext h), _, fun _ w' _ => treeName nm, _, fun _ w' _ => refName nm,
    _, fun _ w' h => treeSize a (by omega) (hx9.ext h), _, fun _ w' h => refSize a (by omega) (ha9.ext h), _, fun _ w' h => treeDepth a (by omega) (hx9.ext h), _, fun _ w' h => refDepth a (by omega) (ha9.ext h),
    _, fun _ w' h => treeSlots a (by omega) (hx9.ext h), _, fun _ w' h => refSlots a (by omega) (ha9.ext h), ?_⟩
  refine ⟨_, fun _ w' h => treeSame a b ((hx9.less (A' := []) (by simp)).ext h) ((hy9.less (A' := []) (by simp)).ext h), _, fun _ w' h => refSame a b (ha9.ext h) (hb9.ext h), _, fun _ w' h => treeCompare a b ((hx9.less (A' := []) (by simp)).ext h) ((hy9.less (A' := []) (by simp)).ext h), _, fun _ w' h => refCompare a b (ha9.ext h) (hb9.ext h), _, fun _ w' h => refSame a a ((hx9.less (A' := []) (by simp)).ext h) (ha9.ext h), true, fun _ w' _ => treeAwake w', fun w10 hE10 => ⟨hF.trans hE10, ?_⟩⟩
  have hz : T.cmp a a = 0 := (T.cmp_zero a a).2 rfl
  simp [hz]

end Go.Proofs.Ytpacegmmbabhjaa
