/-
  Each: the trees behind each operation. ApplyParts.
-/
import Derived.Test.YtghmgfkdnolcdaaQApplyParts2
import Derived.Test.YtghmgfkdnolcdaaQApplyParts1
import Derived.Test.YtghmgfkdnolcdaaQApplyPartsGlaw23ApplyParts
namespace Go.Proofs.Ytghmgfkdnolcdaa
section
open Go.RowKit Go.MapKept
theorem Nur.wide {A A' : List Nat} {w : World} {s : Sl} {ts : List T} (h : Nur A w s ts) (hA : ∀ b ∈ A', b ∈ A ∨ w.heap.size ≤ b) : Nur A' w s ts := by
 obtain ⟨ps, hl, ho, hr⟩ := h
 refine ⟨ps, hl, ho.avoid fun b hb hm => ?_, fun i t p ht hp => RdT.wide (hr i t p ht hp) fun b hb => ?_⟩
 ·have h2 := ho.blk b hb
  rcases hA b hm with h3 | h3
  ·exact h2.1 h3
  ·omega
 ·rcases List.mem_append.1 hb with hb | hb
  ·exact .inl (List.mem_append_left _ hb)
  ·exact (hA b hb).imp_left fun h => List.mem_append_right _ h
theorem Nur.setLast {A : List Nat} {w w' : World} {s : Sl} {us : List T} {u t : T} {sa sk : Sl} {g : Nat} {cur : List Value} (h : Nur A w s (us ++ [u])) (hg : s.a = some ⟨g, 0, none⟩) (hb : Box w g 29 cur) (hC : Chg [g] w w')
  (hb' : Box w' g 29 (putAt cur (us.length * 5) (tc t (sa, sk)))) (ht : RdT (s.blk ++ A) w t sa sk) : Nur A w' s (us ++ [t]) := by
 obtain ⟨ps, hl, ho, hr⟩ := h
 have hgs : s.blk = [g] := by simp [Sl.blk, hg]
 have hgm : ∀ b ∈ [g], b ∈ s.blk ++ A := by rw [hgs]; simp
 rw [List.length_append, List.length_singleton] at hl
 obtain ⟨ps0, q, rfl⟩ : ∃ ps0 q, ps = ps0 ++ [q] := by
  have hne : ps ≠ [] := fun e => by rw [e] at hl; simp at hl
  exact ⟨ps.dropLast, ps.getLast hne, (List.dropLast_concat_getLast hne).symm⟩
 have hl0 : ps0.length = us.length := by simpa using hl
 have hz : (List.zipWith tc us ps0).length = us.length := by simp [hl0]
 rw [List.zipWith_append hl0.symm] at ho
 have hput := ho.put (o := 0) (us := tc t (sa, sk)) (j := us.length) hg hb (by rw [List.length_append, hz]; simp) (by simp [tc]) hb'
 have hgd : (List.zipWith tc us ps0 ++ List.zipWith tc [u] [q]).getD us.length [] = tc u q := by
  rw [List.getD_eq_getElem?_getD, List.getElem?_append_right (by omega), hz, Nat.sub_self]; rfl
 have hset : (List.zipWith tc us ps0 ++ List.zipWith tc [u] [q]).set us.length (tc t (sa, sk)) = List.zipWith tc (us ++ [t]) (ps0 ++ [(sa, sk)]) := by
  rw [List.zipWith_append hl0.symm, List.set_append_right _ _ (by omega), hz, Nat.sub_self]; rfl
 rw [hgd, show putAt (tc u q) 0 (tc t (sa, sk)) = tc t (sa, sk) from rfl, hset] at hput
 refine ⟨ps0 ++ [(sa, sk)], by simp [hl0], hput, fun i x p hx hp => ?_⟩
 rcases Nat.lt_trichotomy i us.length with hi | hi | hi
 ·rw [List.getElem?_append_left hi] at hx
  rw [List.getElem?_append_left (by omega)] at hp
  exact RdT.chg hC hgm (hr i x p (by rw [List.getElem?_append_left hi]; exact hx) (by rw [List.getElem?_append_left (by omega)]; exact hp))
 ·rw [List.getElem?_append_right (by omega), hi, Nat.sub_self] at hx
  rw [List.getElem?_append_right (by omega), hi, hl0, Nat.sub_self] at hp
  simp at hx hp
  subst hx; subst hp
  exact RdT.chg hC hgm ht
 ·have := (List.getElem?_eq_some_iff.1 hx).1
  simp at this; omega
theorem each1 {A Z : List Nat} {w : World} {D c : Nat} {R : I} {s : Sl} {us : List T} (hD : Dom A w D R) (hA : ∀ b ∈ A, b < w.heap.size) (hc : Box w c 27 [s.v]) (hcZ : c ∈ Z) (hZA : ∀ b ∈ Z, b ∈ A) (hN : Nur (Z ++ Free A w) w s us) (hs : ∀ b ∈ s.blk, b ∈ A) (hlen : us.length ≤ 2000) :
  Calls Try.prog 73 #[.pointer (some ⟨D, 0, none⟩), .pointer (some ⟨c, 0, none⟩)] w (Ret fun v w' => v = .tuple #[] ∧ ∃ (s' : Sl) (A' : List Nat), (∀ b ∈ A, b ∈ A') ∧ (∀ b ∈ A', b < w'.heap.size) ∧ Dom A' w' D R ∧ Box w' c 27 [s'.v] ∧ Nur (Z ++ Free A' w') w' s' (us ++ [R.toT]) ∧ (∀ b ∈ s'.blk, b ∈ A') ∧
   ∃ F, Chg F w w' ∧ ∀ b ∈ F, b = c ∨ b ∈ s.own ∨ w.heap.size ≤ b) := by
 refine apply_Each_1.ok _ _ ?_
 unfold apply_Each_1.vc
 intro w1 hE1
 have hclt := hc.lt
 refine ⟨s, (hc.ext hE1).cell 0 _ rfl, fun k n x a b w' => k = R.toT.kind ∧ n = R.toT.name ∧ x = R.toT.text ∧ RdT (List.range w1.heap.size) w' R.toT a b, fun _ _ _ _ _ _ _ hE h => ⟨h.1, h.2.1, h.2.2.1, h.2.2.2.ext hE⟩, fun w' hE' => ?_, ?_⟩
 ·refine Ret.mono (domTree ((hD.ext hE1).ext hE')) ?_
  rintro v w'' ⟨h1, sa, sk, h2, h3⟩
  exact ⟨h1, _, _, _, sa, sk, h2, rfl, rfl, rfl, h3.less fun b hb => List.mem_range.2 (Nat.lt_of_lt_of_le (List.mem_range.1 hb) hE'.size)⟩
 rintro w2 _ _ _ sa sk B2 hE2 ⟨rfl, rfl, rfl, hrd⟩ hB2 hbox2 _
 have hE02 := hE1.trans hE2
 obtain ⟨X, hX⟩ : ∃ X, X = Z ++ Free A w := ⟨_, rfl⟩
 rw [← hX] at hN
 have hXlt : ∀ b ∈ X, b < w.heap.size := fun b hb => by
  rw [hX] at hb
  rcases List.mem_append.1 hb with hb | hb
  ·exact hA b (hZA b hb)
  ·exact (mem_free.1 hb).1
 have hcX : c ∈ X := by rw [hX]; exact List.mem_append_left _ hcZ
 have hown := hN.own
 have hsn := hown.1
 have hco : c ∉ s.own := fun hm => (hown.2.2.2 c (Sl.own_blk hm)).1 hcX
 have hN2 := hN.ext hE02
 refine hN2.push (u := T.nul) (su := Sl.nil) (sk := Sl.nil) (fun b hb => Nat.lt_of_lt_of_le (hXlt b hb) hE02.size) hbox2 (RdT.nil _ _ _ _ _) (by omega) (by simp) fun s' w3 hN3 hC3 hbl => ?_
 have hc3 : Box w3 c 27 [s.v] := (hc.ext hE02).keep hC3 hco
 refine ⟨s', rfl, hc3.cell 0 _ rfl, ?_⟩
 have hs'n := hN3.own.1
 rw [List.length_append, List.length_singleton] at hs'n
 have hN3' := hN3
 obtain ⟨ps, hpl, ho, _⟩ := hN3'
 obtain ⟨g, cur, hg, hgX, hgB, hgl⟩ : ∃ g cur, s'.a = some ⟨g, 0, none⟩ ∧ g ∉ X ∧ Box w3 g 29 cur ∧ cur.length = s'.c * 5 := by
  rcases ho.at_ with e | ⟨g, cur, h1, h2, h3, h4, _⟩
  ·rw [e] at hs'n; simp [Sl.nil] at hs'n
  ·exact ⟨g, cur, h1, h2, h3, h4⟩
 have hcap := ho.cap
 have hgs : s'.blk = [g] := by simp [Sl.blk, hg]
 have hgc : g ≠ c := fun e => hgX (e ▸ hcX)
 have hgo : g ∈ s.own ∨ w.heap.size ≤ g := (hbl g (by rw [hgs]; simp)).imp_right fun h => Nat.le_trans hE02.size h
 have hso : ∀ b ∈ s.own, b ∈ A ∧ b < w.heap.size := fun b hb => ⟨hs b (Sl.own_blk hb), (hown.2.2.2 b (Sl.own_blk hb)).2⟩
 have hrd3 : RdT (s'.blk ++ X) w3 R.toT sa sk := by
  have h1 : RdT (s.own ++ (s'.blk ++ X)) w2 R.toT sa sk := RdT.wide hrd fun b hb => by
   rcases List.mem_append.1 hb with hb | hb
   ·exact .inl (List.mem_range.2 (Nat.lt_of_lt_of_le (hso b hb).2 hE1.size))
   ·rcases List.mem_append.1 hb with hb | hb
    ·exact (hbl b hb).imp_left fun h => List.mem_range.2 (Nat.lt_of_lt_of_le (hso b h).2 hE1.size)
    ·exact .inl (List.mem_range.2 (Nat.lt_of_lt_of_le (hXlt b hb) hE1.size))
  exact (RdT.chg hC3 (fun b hb => List.mem_append_left _ hb) h1).less fun b hb => List.mem_append_right _ hb
 have hput : (us.length * 5 : Nat) + 5 ≤ cur.length := by rw [hgl]; omega
 have fin : ∀ {wf : World}, Chg [c, g] w3 wf → Box wf c 27 [s'.v] → Nur X wf s' (us ++ [R.toT]) → ∃ (s' : Sl) (A' : List Nat), (∀ b ∈ A, b ∈ A') ∧ (∀ b ∈ A', b < wf.heap.size) ∧ Dom A' wf D R ∧ Box wf c 27 [s'.v] ∧ Nur (Z ++ Free A' wf) wf s' (us ++ [R.toT]) ∧ (∀ b ∈ s'.blk, b ∈ A') ∧
   ∃ F, Chg F w wf ∧ ∀ b ∈ F, b = c ∨ b ∈ s.own ∨ w.heap.size ≤ b := fun {wf} hC hcf hNf => by
  have hsz : w.heap.size ≤ wf.heap.size := Nat.le_trans hE02.size (Nat.le_trans hC3.size hC.size)
  have hglt : g < wf.heap.size := Nat.lt_of_lt_of_le hgB.lt hC.size
  have hin : ∀ b, b < wf.heap.size → w.heap.size ≤ b → b ∈ List.range' w.heap.size (wf.heap.size - w.heap.size) := fun b h1 h2 => List.mem_range'_1.2 ⟨h2, by omega⟩
  have hgA : g ∈ A ++ List.range' w.heap.size (wf.heap.size - w.heap.size) := by
   rcases hgo with h | h
   ·exact List.mem_append_left _ (hso g h).1
   ·exact List.mem_append_right _ (hin g hglt h)
  have hCf : Chg (c :: g :: s.own) w wf := ((hE02.mono (by simp)).trans (hC3.mono fun b hb => by simp [hb])).trans (hC.mono fun b hb => by simp at hb; rcases hb with rfl | rfl <;> simp)
  refine ⟨s', A ++ List.range' w.heap.size (wf.heap.size - w.heap.size), fun b hb => List.mem_append_left _ hb, fun b hb => ?_, ?_, hcf, hNf.less fun b hb => ?_, fun b hb => ?_, _, hCf, fun b hb => ?_⟩
  ·rcases List.mem_append.1 hb with hb | hb
   ·exact Nat.lt_of_lt_of_le (hA b hb) hsz
   ·have := List.mem_range'_1.1 hb; omega
  ·refine (hD.wide fun b hb => ?_).chg hCf fun b hb => ?_
   ·rcases List.mem_append.1 hb with hb | hb
    ·exact .inl hb
    ·exact .inr (List.mem_range'_1.1 hb).1
   ·rcases List.mem_cons.1 hb with rfl | hb
    ·exact List.mem_append_left _ (hZA _ hcZ)
    ·rcases List.mem_cons.1 hb with rfl | hb
     ·exact hgA
     ·exact List.mem_append_left _ (hso b hb).1
  ·rw [hX]
   rcases List.mem_append.1 hb with hb | hb
   ·exact List.mem_append_left _ hb
   ·obtain ⟨h1, h2⟩ := mem_free.1 hb
    refine List.mem_append_right _ (mem_free.2 ⟨Nat.lt_of_not_le fun h => h2 (List.mem_append_right _ (hin b h1 h)), fun hm => h2 (List.mem_append_left _ hm)⟩)
  ·rw [hgs] at hb
   rw [List.mem_singleton.1 hb]; exact hgA
  ·rcases List.mem_cons.1 hb with rfl | hb
   ·exact .inl rfl
   ·rcases List.mem_cons.1 hb with rfl | hb
    ·exact .inr hgo
    ·exact .inr (.inl hb)
 have hcg : ∀ b ∈ [c], b ∈ X := by simpa using hcX
 refine ⟨⟨g, 0, none⟩, ⟨⟨by omega, by omega⟩, hg⟩, ⟨g, us.length * 5, _, cur, by rw [Addr.add_lit, Nat.zero_add, Int.toNat_natCast, hsn], hgB, hput, by simp, fun w4 hC4 hB4 => ⟨c, 0, _, [s.v], rfl, hc3.keep hC4 (by simpa using fun e => hgc e.symm), by simp, by simp, fun w5 hC5 hB5 w6 hE6 => ⟨rfl, fin ?_ (hB5.ext hE6) ?_⟩⟩⟩, ⟨c, 0, _, [s.v], rfl, hc3, by simp, by simp, fun w4 hC4 hB4 => ⟨g, us.length * 5, _, cur, by rw [Addr.add_lit, Nat.zero_add, Int.toNat_natCast, hsn], hgB.keep hC4 (by simpa using hgc), hput, by simp, fun w5 hC5 hB5 w6 hE6 => ⟨rfl, fin ?_ ?_ ?_⟩⟩⟩⟩
 ·exact ((hC4.mono fun b hb => by simp at hb; simp [hb]).trans (hC5.mono fun b hb => by simp at hb; simp [hb])).trans (hE6.mono (by simp))
 ·exact ((hN3.setLast hg hgB hC4 hB4 hrd3).chg hC5 hcg).ext hE6
 ·exact ((hC4.mono fun b hb => by simp at hb; simp [hb]).trans (hC5.mono fun b hb => by simp at hb; simp [hb])).trans (hE6.mono (by simp))
 ·exact (Box.keep hB4 hC5 (by simpa using fun e => hgc e.symm)).ext hE6
 ·exact ((hN3.chg hC4 hcg).setLast hg (hgB.keep hC4 (by simpa using hgc)) hC5 hB5 (RdT.chg hC4 (fun b hb => List.mem_append_right _ (hcg b hb)) hrd3)).ext hE6
def runE : I → List OpT → List T
 |_, [] => []
 |R, o :: r => if rightO o = false then [] else if opE R o = 0 then (opR R o).toT :: runE (opR R o) r else []
def eachT (t : T) (ops : List OpT) : List T := if t.check = false then [] else if 1500 < ops.length then [] else runE (I.num t 0) ops
theorem noTouch {F bx : List Nat} {w w' : World} (h : Chg F w w') (hb : ∀ b ∈ bx, b ∉ F) : NoTouch bx w w' := h.noTouch bx hb
theorem CallK.some {P : Program} {f : FuncId} {args : Array Value} {w : World} {bx : List Nat} {R K : Value → World → Prop} {G : Nat → Prop}
  (h : Calls P f args w (Ret fun v w' => (∃ F, Chg F w w' ∧ ∀ b ∈ F, G b) ∧ R v w')) (hd : ∀ b ∈ bx, ¬ G b) (k : ∀ v w', (∃ F, Chg F w w' ∧ ∀ b ∈ F, G b) → R v w' → K v w') : CallK P f args w bx K :=
 Ret.mono h fun v w' ⟨⟨F, hF, hG⟩, hr⟩ => ⟨noTouch hF fun b hb hm => hd b hb (hG b hm), hF.size, k v w' ⟨F, hF, hG⟩ hr⟩
theorem eachRun {X : List Nat} {w : World} {t : T} {sa sk l : Sl} {ops : List OpT} {c : Nat} (hr : RdT X w t sa sk) (hb : t.span ≤ 900000) (hl : Row [c] w l 7 (ops.map oc)) (hc : Box w c 27 [Sl.v Sl.nil]) :
  Calls Try.prog 66 #[tv t sa sk, l.v, .func (.func 73) #[] #[.pointer (some ⟨c, 0, none⟩)]] w (Ret fun v w' => Chg [c] w w' ∧ ∃ (p : Option Addr) (n e : Int) (s : Sl), v = .tuple #[.pointer p, .int .i64 n, .int .i64 e] ∧ Box w' c 27 [s.v] ∧ Nur [] w' s (eachT t ops)) := by
 refine apply_run.ok _ _ _ _ _ _ _ ?_
 unfold apply_run.vc
 intro w1 B1 hN1 hE1
 refine CallK.ext (domNew (hr.ext hE1) hb) ?_
 rintro v w2 hE2 (⟨h, rfl⟩ | ⟨hck, D, rfl, hD⟩)
 ·have hx : eachT t ops = [] := by unfold eachT; rw [if_pos h]
  rw [hx]
  exact ⟨none, 1, rfl, fun _ => ⟨(hE1.trans hE2).mono (by simp), none, _, _, Sl.nil, rfl, hc.ext (hE1.trans hE2), Nur.nil _ _⟩, fun h => absurd (by decide) h⟩
 have hln := hl.len
 rw [List.length_map] at hln
 have hE02 := hE1.trans hE2
 refine ⟨_, 0, rfl, fun h => absurd rfl h, fun _ => ⟨fun hbig => ?_, fun hsm => ?_⟩⟩
 ·have hx : eachT t ops = [] := by unfold eachT; rw [if_neg (by rw [hck]; decide), if_pos (by omega)]
  rw [hx]
  exact ⟨hE02.mono (by simp), none, _, _, Sl.nil, rfl, hc.ext hE02, Nur.nil _ _⟩
 have hx : eachT t ops = runE (I.num t 0) ops := by unfold eachT; rw [if_neg (by rw [hck]; decide), if_neg (by omega)]
 rw [hx]
 refine CallK.exact (callsC w2) fun w3 hE3 => ⟨rfl, fun w4 B4 hN4 hE4 => ?_⟩
 have hE04 := (hE02.trans hE3).trans hE4
 have hb4 := hN4.ge
 have hclt := hc.lt
 obtain ⟨Z, hZ⟩ : ∃ Z, Z = B4 :: List.range w1.heap.size := ⟨_, rfl⟩
 have hD4 : Dom Z w4 D (I.num t 0) := (hD.wide (A' := Z) fun b hb => by
  rw [hZ] at hb
  rcases List.mem_cons.1 hb with rfl | hb
  ·exact .inr (Nat.le_trans hE3.size hb4)
  ·exact .inl hb).ext (hE3.trans hE4)
 have hBZ : B4 ∈ Z := by rw [hZ]; exact List.mem_cons_self ..
 have hoZ : ∀ x, x < w.heap.size → x ∈ Z := fun x hx => by rw [hZ]; exact List.mem_cons_of_mem _ (List.mem_range.2 (Nat.lt_of_lt_of_le hx hE1.size))
 have hZ4 : ∀ b ∈ Z, b < w4.heap.size := fun b hb => by
  rw [hZ] at hb
  rcases List.mem_cons.1 hb with rfl | hb
  ·exact hN4.lt
  ·exact Nat.lt_of_lt_of_le (List.mem_range.1 hb) (Nat.le_trans hE2.size (Nat.le_trans hE3.size hE4.size))
 have hcB : c ≠ B4 := by have := hE02.size; have := hE3.size; omega
 have hcZ := hoZ c hclt
 clear hZ
 refine ⟨fun x w' => ∃ (k : Nat) (R : I) (A : List Nat) (us : List T) (s : Sl), x = (k : Int) ∧ k ≤ ops.length ∧ Dom A w' D R ∧ (∀ b ∈ A, b < w'.heap.size) ∧ (∀ b ∈ Z, b ∈ A) ∧ Box w' c 27 [s.v] ∧ Nur (Z ++ Free A w') w' s us ∧ (∀ b ∈ s.blk, b ∈ A) ∧ us.length = k ∧ Chg [c] w w' ∧ runE (I.num t 0) ops = us ++ runE R (ops.drop k), fun x _ => ops.length - x.toNat,
  ⟨0, _, Z, [], Sl.nil, rfl, by omega, hD4, hZ4, fun b hb => hb, hc.ext hE04, Nur.nil _ _, by simp [Sl.blk, Sl.nil], rfl, hE04.mono (by simp), rfl⟩, ?_⟩
 rintro _ w5 ⟨k, R, A, us, s, rfl, hk, hD5, hA5, hZA, hc5, hNu5, hsA, hul, hC5, hrun⟩
 have done : ∀ {w' : World} {e : Int}, Chg [c] w w' → Box w' c 27 [s.v] → Nur [] w' s us → runE R (ops.drop k) = [] → ∀ (p : Option Addr) (n : Int), Chg [c] w w' ∧ ∃ (p' : Option Addr) (n' e' : Int) (s : Sl), Value.tuple #[.pointer p, .int .i64 n, .int .i64 e] = .tuple #[.pointer p', .int .i64 n', .int .i64 e'] ∧ Box w' c 27 [s.v] ∧ Nur [] w' s (runE (I.num t 0) ops) := fun {w' e} h1 h2 h3 h4 p n => by
  rw [hrun, h4, List.append_nil]
  exact ⟨h1, _, _, _, s, rfl, h2, h3⟩
 refine ⟨fun hlt => ?_, fun hge => ?_⟩
 ·have hk' : k < ops.length := by omega
  obtain ⟨p, hp, _, hcell, _⟩ := (hl.chg hC5 (by simp)).at_ k (by simpa using hk')
  have hgd : (ops.map oc).getD k [] = oc ops[k] := by simp [List.getD_eq_getElem?_getD, hk']
  rw [hgd] at hcell
  have hdr : ops.drop k = ops[k] :: ops.drop (k + 1) := List.drop_eq_getElem_cons hk'
  generalize ops[k] = o at hcell hdr
  refine ⟨⟨by omega, by omega⟩, p, hp, o.kind, o.id, o.par, o.at_, o.what, o.name, o.text, by rw [Int.toNat_natCast]; exact hcell, fun w6 B6 hN6 hE6 => ?_⟩
  have hb6 := hN6.ge
  refine CallK.exact (callRight o) fun w7 hE7 => ⟨_, rfl, fun hno => ?_, fun hyes w8 hE8 => ?_⟩
  ·have hE57 := hE6.trans hE7
   exact done (hC5.more' hE57 (by simp)) (hc5.ext hE57) ((hNu5.ext hE57).less (by simp)) (by rw [hdr, runE, if_pos hno]) none _
  have hkd := right_kind hyes
  have hrn : ¬ rightO o = false := by rw [hyes]; decide
  refine ⟨⟨by omega, by omega⟩, ?_⟩
  have hE58 := (hE6.trans hE7).trans hE8
  have hD8 : Dom (B6 :: A) w8 D R := (hD5.wide (A' := B6 :: A) fun b hb => by
   rcases List.mem_cons.1 hb with rfl | hb
   ·exact .inr hb6
   ·exact .inl hb).ext hE58
  have hA8 : ∀ {w' : World}, Ext w8 w' → ∀ b ∈ B6 :: A, b < w'.heap.size := fun hE b hb => by
   rcases List.mem_cons.1 hb with rfl | hb
   ·exact Nat.lt_of_lt_of_le hN6.lt (Nat.le_trans hE7.size (Nat.le_trans hE8.size hE.size))
   ·exact Nat.lt_of_lt_of_le (hA5 b hb) (Nat.le_trans hE58.size hE.size)
  obtain ⟨f, hfl, hbody, _⟩ := doCall hD8 (hA8 (Chg.refl _ _)) o hkd.1 hkd.2
  refine ⟨f, #[], #[], hfl, fun w9 hE9 => ⟨hbody, ?_⟩⟩
  have hD9 := hD8.ext hE9
  obtain ⟨f', hfl', _, hcall⟩ := doCall hD9 (hA8 hE9) o hkd.1 hkd.2
  have hff : f' = f := by
   have := hfl'.symm.trans hfl
   injection this with h1
   injection h1
  subst hff
  refine CallK.mod (A := B6 :: A) (R := fun v w' => v = .int .i64 (opE R o) ∧ Dom (B6 :: A) w' D (if opE R o = 0 then opR R o else R)) (Ret.mono hcall ?_) ?_ ?_
  ·rintro v w' ⟨rfl, h⟩
   by_cases h0 : opE R o = 0
   ·rw [if_pos h0] at h ⊢; exact ⟨h.1, rfl, h.2⟩
   ·rw [if_neg h0] at h ⊢; exact ⟨Mod.ext h, rfl, hD9.ext h⟩
  ·intro b hb
   simp only [List.mem_cons, List.not_mem_nil, or_false] at hb
   rcases hb with rfl | rfl
   ·exact List.mem_cons_of_mem _ (hZA _ hBZ)
   ·exact List.mem_cons_self ..
  rintro v w10 hM10 ⟨rfl, hD10⟩
  have hE59 := hE58.trans hE9
  have hC9 : Chg [c] w w9 := hC5.more' hE59 (by simp)
  have hC10 : Chg [c] w w10 := ⟨hM10.os.trans hC9.os, hM10.tape.trans hC9.tape, hM10.output.trans hC9.output, Nat.le_trans hC9.size hM10.size, fun i hi hn => (hM10.block i (Nat.lt_of_lt_of_le hi hC9.size) (List.mem_cons_of_mem _ (hZA _ (hoZ i hi)))).trans (hC9.block i hi hn)⟩
  have hc10 : Box w10 c 27 [s.v] := (hc5.ext hE59).mod hM10 (List.mem_cons_of_mem _ (hZA _ hcZ))
  have hNu10 : Nur (Z ++ Free A w10) w10 s us := by
   have h1 : Nur (Z ++ Free A w10) w5 s us := hNu5.wide fun b hb => by
    rcases List.mem_append.1 hb with hb | hb
    ·exact .inl (List.mem_append_left _ hb)
    ·obtain ⟨_, h2⟩ := mem_free.1 hb
     by_cases hlt : b < w5.heap.size
     ·exact .inl (List.mem_append_right _ (mem_free.2 ⟨hlt, h2⟩))
     ·exact .inr (by omega)
   refine (h1.ext hE59).chg hM10.chg fun b hb => ?_
   obtain ⟨h2, h3⟩ := mem_free.1 hb
   exact List.mem_append_right _ (mem_free.2 ⟨Nat.lt_of_lt_of_le h2 hM10.size, fun hm => h3 (List.mem_cons_of_mem _ hm)⟩)
  refine ⟨_, rfl, fun hne => ?_, fun hz => ?_⟩
  ·exact done hC10 hc10 (hNu10.less (by simp)) (by rw [hdr, runE, if_neg hrn, if_neg hne]) none _
  have hz : opE R o = 0 := Classical.not_not.1 hz
  rw [if_pos hz] at hD10
  have hA10 : ∀ b ∈ A, b < w10.heap.size := fun b hb => Nat.lt_of_lt_of_le (hA5 b hb) (Nat.le_trans hE59.size hM10.size)
  have hsz : w.heap.size ≤ w10.heap.size := hC10.size
  refine ⟨73, #[], #[.pointer (some ⟨c, 0, none⟩)], rfl, ⟨_, Try.func73, by decide, rfl⟩, ?_⟩
  refine CallK.some (G := fun b => b = c ∨ b ∈ s.own ∨ w10.heap.size ≤ b) (R := fun v w' => v = .tuple #[] ∧ ∃ (s' : Sl) (A' : List Nat), (∀ b ∈ A, b ∈ A') ∧ (∀ b ∈ A', b < w'.heap.size) ∧ Dom A' w' D (opR R o) ∧ Box w' c 27 [s'.v] ∧ Nur (Z ++ Free A' w') w' s' (us ++ [(opR R o).toT]) ∧ (∀ b ∈ s'.blk, b ∈ A')) (Ret.mono (each1 (hD10.wide fun b hb => .inl (List.mem_cons_of_mem _ hb)) hA10 hc10 hcZ hZA hNu10 hsA (by omega)) ?_) ?_ ?_
  ·rintro v w' ⟨rfl, s', A', h1, h2, h3, h4, h5, h6, h7⟩
   exact ⟨h7, rfl, s', A', h1, h2, h3, h4, h5, h6⟩
  ·intro b hb hG
   rw [List.mem_singleton.1 hb] at hG
   rcases hG with h | h | h
   ·exact hcB h.symm
   ·exact (hNu10.own.2.2.2 B4 (Sl.own_blk h)).1 (List.mem_append_left _ hBZ)
   ·have := hA10 B4 (hZA _ hBZ); omega
  rintro v w11 ⟨F, hF, hG⟩ ⟨rfl, s', A', h1, h2, h3, h4, h5, h6⟩
  refine ⟨rfl, ⟨by omega, by omega⟩, ⟨k + 1, opR R o, A', us ++ [(opR R o).toT], s', by omega, by omega, h3, h2, fun b hb => h1 b (hZA b hb), h4, h5, h6, by rw [List.length_append, hul]; rfl, hC10.more' hF fun b hb => ?_, ?_⟩, by dsimp only; omega⟩
  ·rcases hG b hb with h | h | h
   ·exact .inl (by simp [h])
   ·refine .inr (Nat.le_of_not_lt fun hlt => (hNu10.own.2.2.2 b (Sl.own_blk h)).1 (List.mem_append_left _ (hoZ b hlt)))
   ·exact .inr (by omega)
  ·rw [hrun, hdr, runE, if_neg hrn, if_pos hz, List.append_assoc]; rfl
 ·exact done hC5 hc5 (hNu5.less (by simp)) (by rw [List.drop_of_length_le (by omega)]; rfl) _ _
theorem eachCall {X L : List Nat} {w : World} {t : T} {sa sk l : Sl} {ops : List OpT} (hr : RdT X w t sa sk) (hb : t.span ≤ 900000) (hl : Row L w l 7 (ops.map oc)) :
  Calls Try.prog 43 #[tv t sa sk, l.v] w (Ret fun v w' => Ext w w' ∧ ∃ s : Sl, v = s.v ∧ Nur [] w' s (eachT t ops)) := by
 refine apply_Each.ok _ _ _ _ _ _ ?_
 unfold apply_Each.vc
 intro w1 B1 c hN1 hN2 hne hE1 hc
 have hge := hN2.ge
 have hl1 : Row [c] w1 l 7 (ops.map oc) := ((hl.less (A' := []) (by simp)).fresh (by decide) hge).ext hE1
 refine CallK.chg (eachRun (hr.ext hE1) hb hl1 hc) (by simpa using hne) ?_
 rintro v w2 hC2 ⟨p, n, e, s, rfl, hbox, hN⟩
 exact ⟨p, n, e, rfl, s, hbox.cell 0 _ rfl, Chg.fresh hE1 hC2 (by simpa using hge), s, rfl, hN⟩
theorem runE_len : ∀ (l : List OpT) (R : I) (k : Nat), (runI R l k).1 = k + (runE R l).length
 |[], R, k => rfl
 |o :: r, R, k => by
  rw [runI, runE]
  by_cases h1 : rightO o = false
  ·rw [if_pos h1, if_pos h1]; rfl
  ·rw [if_neg h1, if_neg h1]
   by_cases h2 : opE R o = 0
   ·rw [if_pos h2, if_pos h2, runE_len r, List.length_cons]; omega
   ·rw [if_neg h2, if_neg h2]; rfl
theorem runI_take : ∀ (l : List OpT) (R : I) (k j : Nat), j ≤ l.length →
  (j ≤ (runE R l).length → (runI R (l.take j) k).2.1 = 0 ∧ (runI R (l.take j) k).1 = k + j ∧ (runI R (l.take j) k).2.2.toT = if j = 0 then R.toT else (runE R l).getD (j - 1) T.nul) ∧
  ((runE R l).length < j → runI R (l.take j) k = runI R l k)
 |l, R, k, 0, _ => ⟨fun _ => ⟨rfl, rfl, rfl⟩, fun h => by omega⟩
 |[], R, k, j + 1, h => by simp at h
 |o :: r, R, k, j + 1, h => by
  rw [List.take_succ_cons, runI, runI, runE]
  by_cases h1 : rightO o = false
  ·rw [if_pos h1, if_pos h1, if_pos h1]
   exact ⟨fun h => by simp at h, fun _ => rfl⟩
  ·rw [if_neg h1, if_neg h1, if_neg h1]
   by_cases h2 : opE R o = 0
   ·rw [if_pos h2, if_pos h2, if_pos h2]
    simp only [List.length_cons]
    obtain ⟨a, b⟩ := runI_take r (opR R o) (k + 1) j (by simpa using h)
    refine ⟨fun hj => ?_, fun hj => b (by omega)⟩
    obtain ⟨a1, a2, a3⟩ := a (by omega)
    refine ⟨a1, by omega, ?_⟩
    rw [a3]
    cases j <;> rfl
   ·rw [if_neg h2, if_neg h2, if_neg h2]
    exact ⟨fun h => by simp at h, fun _ => rfl⟩
end
section
open Go.RowKit Go.MapKept
theorem Row.pre {A : List Nat} {w : World} {s : Sl} {size : Nat} {vs : List (List Value)} (h : Row A w s size vs) {k : Nat} (hk : k ≤ vs.length) : Row A w (s.cut size 0 k s.c) size (vs.take k) := by
 have hl := h.len
 have hc := h.cap
 refine ⟨by rw [List.length_take]; show k - 0 = _; omega, by show k - 0 ≤ s.c - 0; omega, by show s.c - 0 ≤ _; have := h.most; omega, fun i hi => ?_⟩
 rw [List.length_take] at hi
 obtain ⟨p, h1, h2, h3, h4⟩ := h.at_ i (by omega)
 have hgd : (vs.take k).getD i [] = vs.getD i [] := by
  rw [List.getD_eq_getElem?_getD, List.getD_eq_getElem?_getD, List.getElem?_take, if_pos (by omega)]
 have ha : (s.cut size 0 k s.c).a = s.a := by
  simp only [Sl.cut, Nat.zero_mul]
  split
  ·rw [h1]
  ·rw [h1]; simp [Addr.add_zero']
 exact ⟨p, by rw [ha]; exact h1, h2, by rw [hgd]; exact h3, by rw [hgd]; exact h4⟩
theorem applyPartsLaw {w : World} {a l : Sl} {zs : List Int} {ops : List OpT} (cut : Int) (ha : Row [] w a 1 (zs.map ic)) (hl : Row [] w l 7 (ops.map oc)) :
  Calls Try.prog 12 #[a.v, l.v, .int .i64 cut] w (Ret fun v w' => Ext w w' ∧ v = .bool true) := by
 refine law23_ApplyParts.ok _ _ _ ?_
 unfold law23_ApplyParts.vc
 refine CallK.ext (lawFew hl) ?_
 rintro v w1 hE1 ⟨b, rfl, hb⟩
 refine ⟨b, rfl, fun _ => CallK.exact (apAwake w1) fun w2 hE2 => ⟨_, rfl, hE1.trans hE2, rfl⟩, fun hb' => ?_⟩
 have hops := hb hb'
 refine CallK.ext (lawGrownT (ha.ext hE1)) ?_
 rintro v w2 hE2 ⟨us, sk, rfl, hN, hG⟩
 have hbulk := hG.bulk
 have hchk := hG.check
 have hrd : RdT [] w2 (grownT us) Sl.nil sk := (hN.less (by simp)).rd (k := 1) (n := []) (x := []) (ats := []) (Row.nil _ _ _)
 have hspan := T.span_bulk (grownT us)
 generalize grownT us = t at hbulk hchk hrd hspan
 clear hN hG
 have hln := hl.len
 have hlc := hl.cap
 rw [List.length_map] at hln
 have hE02 := hE1.trans hE2
 refine ⟨t.kind, t.name, t.text, Sl.nil, sk, rfl, ⟨by omega, by omega⟩, fun w3 B3 hN3 hE3 => ?_⟩
 refine CallK.exact (place cut _ (by omega) (by omega)) fun w4 hE4 => ⟨_, rfl, fun w5 hE5 => ?_⟩
 obtain ⟨k, hk, hkl⟩ : ∃ k : Nat, cut.emod ((l.n : Int) + 1) = (k : Int) ∧ k ≤ ops.length := by
  have h1 : 0 ≤ cut.emod ((l.n : Int) + 1) := Int.emod_nonneg _ (by omega)
  have h2 : cut.emod ((l.n : Int) + 1) < (l.n : Int) + 1 := Int.emod_lt_of_pos _ (by omega)
  generalize cut.emod ((l.n : Int) + 1) = q at h1 h2
  exact ⟨q.toNat, by omega, by omega⟩
 rw [hk]
 have hE25 := (hE3.trans hE4).trans hE5
 have hE05 := hE02.trans hE25
 have hlt : (ops.take k).length = k := by rw [List.length_take]; omega
 obtain ⟨hx, hbad, hgood⟩ := runX_end hchk (ops := ops) (by omega)
 obtain ⟨hx2, _, _⟩ := runX_end hchk (ops := ops.take k) (by omega)
 obtain ⟨hlive, _⟩ := res_live hchk (ops := ops) (by omega)
 obtain ⟨hlive2, _⟩ := res_live hchk (ops := ops.take k) (by omega)
 have heach : eachT t ops = runE (I.num t 0) ops := by unfold eachT; rw [if_neg (by rw [hchk]; decide), if_neg (by omega)]
 have hn : (runX t ops).1 = (eachT t ops).length := by rw [hx, runE_len, Nat.zero_add, heach]
 have hnle : (eachT t ops).length ≤ ops.length := by
  rw [← hn]
  by_cases h : (runX t ops).2.1 = 0
  ·rw [(hgood h).1]; exact Nat.le_refl _
  ·exact Nat.le_of_lt (hbad h).1
 obtain ⟨htake, hpart⟩ := runI_take ops (I.num t 0) 0 k hkl
 rw [← hx2, ← heach] at htake
 rw [← hx, ← hx2, ← heach] at hpart
 rw [I.num_toT, Nat.zero_add] at htake
 have hfull : (runX t ops).2.1 = 0 → 0 < (runX t ops).1 → resT t ops = (eachT t ops).getD ((runX t ops).1 - 1) T.nul := fun h0 hp => by
  have h1 := (runI_take ops (I.num t 0) 0 ops.length (Nat.le_refl _)).1 (by rw [← heach, ← hn, (hgood h0).1]; exact Nat.le_refl _)
  rw [List.take_length, ← hx] at h1
  have h2 := h1.2.2
  rw [(hgood h0).1] at hp ⊢
  rw [if_neg (by omega), ← heach] at h2
  unfold resT
  rw [if_pos h0, h2]
 refine ⟨fun s w' => Row [] w' s 7 (ops.map oc), fun _ _ _ hE h => h.ext hE, fun w' hE' => ?_, (resT t ops).kind, (resT t ops).name, (resT t ops).text, ((runX t ops).1 : Int), (runX t ops).2.1, fun sa sk w' => RdT [] w' (resT t ops) sa sk, fun _ _ _ _ hE h => h.ext hE, fun s w' hE' hs => ?_, ?_⟩
 ·refine Ret.mono (lawOps (hl.ext (hE05.trans hE')) (by omega)) ?_
  rintro v w'' ⟨h1, s, h2, h3⟩
  exact ⟨h1, s, h2, h3.row.less (by simp)⟩
 ·refine Ret.mono (applyCall ((hrd.ext hE25).ext hE') (by omega) hs) ?_
  rintro v w'' ⟨h1, sa', sk', h2, h3⟩
  exact ⟨h1, sa', sk', h2, h3.less (by simp)⟩
 rintro w6 saA skA B6 hE6 hr6 hB6 hbox6 w7 hC7 w8 hE8
 have hE08 : Ext w w8 := (Chg.fresh (hE05.trans hE6) hC7 (by simp only [List.mem_singleton]; rintro b rfl; exact Nat.le_trans hE05.size hB6)).trans hE8
 have hE28 : Ext w2 w8 := (Chg.fresh (hE25.trans hE6) hC7 (by simp only [List.mem_singleton]; rintro b rfl; exact Nat.le_trans hE25.size hB6)).trans hE8
 have hA8 : RdT [] w8 (resT t ops) saA skA := ((RdT.chg hC7 (by simp) (RdT.apart hbox6 _ hlive hr6)).less (by simp)).ext hE8
 refine ⟨⟨by omega, by omega⟩, fun s w' => Row [] w' s 7 ((ops.take k).map oc), fun _ _ _ hE h => h.ext hE, fun w' hE' => ?_, (resT t (ops.take k)).kind, (resT t (ops.take k)).name, (resT t (ops.take k)).text, ((runX t (ops.take k)).1 : Int), (runX t (ops.take k)).2.1, fun sa sk w' => RdT [] w' (resT t (ops.take k)) sa sk, fun _ _ _ _ hE h => h.ext hE, fun s w' hE' hs => ?_, ?_⟩
 ·rw [Int.toNat_natCast]
  have hpre := (hl.ext (hE08.trans hE')).pre (k := k) (by rw [List.length_map]; exact hkl)
  rw [← List.map_take] at hpre
  refine Ret.mono (lawOps hpre (by omega)) ?_
  rintro v w'' ⟨h1, s, h2, h3⟩
  exact ⟨h1, s, h2, h3.row.less (by simp)⟩
 ·refine Ret.mono (applyCall ((hrd.ext hE28).ext hE') (by omega) hs) ?_
  rintro v w'' ⟨h1, sa', sk', h2, h3⟩
  exact ⟨h1, sa', sk', h2, h3.less (by simp)⟩
 rintro w9 saB skB B9 hE9 hr9 hB9 hbox9 w10 hC10 w11 hE11
 have hE011 : Ext w w11 := (Chg.fresh (hE08.trans hE9) hC10 (by simp only [List.mem_singleton]; rintro b rfl; exact Nat.le_trans hE08.size hB9)).trans hE11
 have hE211 : Ext w2 w11 := (Chg.fresh (hE28.trans hE9) hC10 (by simp only [List.mem_singleton]; rintro b rfl; exact Nat.le_trans hE28.size hB9)).trans hE11
 have hE811 : Ext w8 w11 := (Chg.fresh hE9 hC10 (by simp only [List.mem_singleton]; rintro b rfl; exact hB9)).trans hE11
 have hA11 := hA8.ext hE811
 have hB11 : RdT [] w11 (resT t (ops.take k)) saB skB := ((RdT.chg hC10 (by simp) (RdT.apart hbox9 _ hlive2 hr9)).less (by simp)).ext hE11
 refine ⟨fun s w' => Row [] w' s 7 (ops.map oc), fun _ _ _ hE h => h.ext hE, fun w' hE' => ?_, fun s w' => Nur [] w' s (eachT t ops), fun _ _ _ hE h => h.ext hE, fun s w' hE' hs => ?_, fun w12 se hE12 hNe => ?_⟩
 ·refine Ret.mono (lawOps (hl.ext (hE011.trans hE')) (by omega)) ?_
  rintro v w'' ⟨h1, s, h2, h3⟩
  exact ⟨h1, s, h2, h3.row.less (by simp)⟩
 ·exact eachCall ((hrd.ext hE211).ext hE') (by omega) hs
 have hsen := hNe.own.1
 have hE012 := hE011.trans hE12
 refine ⟨fun hf => ?_, fun _ w13 hE13 => ?_⟩
 ·exfalso
  rcases hf with h | h
  ·exact h (by omega)
  ·omega
 have hE013 := hE012.trans hE13
 have hel : ∀ {w' : World}, Ext w13 w' → ∀ j, j < (eachT t ops).length → ∃ p sa' sk', se.a = some p ∧ Cells w' (p.add (j * 5)) (tc ((eachT t ops).getD j T.nul) (sa', sk')) ∧ RdT [] w' ((eachT t ops).getD j T.nul) sa' sk' := fun {w'} hE j hj => by
  have hrde : RdT [] w' (.node 0 [] [] [] (eachT t ops)) Sl.nil se := ((hNe.ext hE13).ext hE).rd (Row.nil _ _ _)
  obtain ⟨p, sa', sk', h1, _, h3, h4⟩ := hrde.kid (i := j) hj
  exact ⟨p, sa', sk', h1, h3, h4⟩
 have hsame : ∀ {w' : World} {u v : T} {s1 s2 s3 s4 : Sl}, u = v → RdT [] w' u s1 s2 → RdT [] w' v s3 s4 → Calls Try.prog 40 #[tv u s1 s2, tv v s3 s4] w' (Ret fun x w'' => Ext w' w'' ∧ x = .bool true) := fun {w' u v s1 s2 s3 s4} e h1 h2 => by
  have := refSame u v h1 h2
  rwa [decide_eq_true ((T.cmp_zero u v).2 e)] at this
 have first : ∃ p : Addr, ((0 < ((runX t ops).1 : Int) ∧ (runX t ops).2.1 = 0) → ((0 : Int) ≤ ((runX t ops).1 : Int) - 1 ∧ ((runX t ops).1 : Int) - 1 < (se.n : Int)) ∧ se.a = some p) ∧ ∃ (u : T) (s1 s2 : Sl), ((0 < ((runX t ops).1 : Int) ∧ (runX t ops).2.1 = 0) → Cells w13 (p.add ((((runX t ops).1 : Int) - 1).toNat * 5)) (tc u (s1, s2)) ∧ RdT [] w13 u s1 s2 ∧ resT t ops = u) := by
  by_cases h : 0 < ((runX t ops).1 : Int) ∧ (runX t ops).2.1 = 0
  ·obtain ⟨p, s1, s2, h1, h2, h3⟩ := hel (Chg.refl _ _) ((runX t ops).1 - 1) (by omega)
   have e : (((runX t ops).1 : Int) - 1).toNat = (runX t ops).1 - 1 := by omega
   exact ⟨p, fun _ => ⟨⟨by omega, by omega⟩, h1⟩, _, s1, s2, fun _ => ⟨by rw [e]; exact h2, h3, hfull h.2 (by omega)⟩⟩
  ·exact ⟨⟨0, 0, none⟩, fun h' => absurd h' h, T.nul, Sl.nil, Sl.nil, fun h' => absurd h' h⟩
 obtain ⟨p1, hp1, u1, s1, s2, hu1⟩ := first
 refine ⟨fun _ => ⟨by omega, by omega⟩, p1, hp1, u1.kind, u1.name, u1.text, s1, s2, fun h => (hu1 h).1, true, fun h w' hE' => hsame (hu1 h).2.2 (((hA11.ext hE12).ext hE13).ext hE') ((hu1 h).2.1.ext hE'), fun hf => (by cases hf.2), fun _ => ⟨fun hlt2 w14 hE14 => ?_, fun hge w14 hE14 => ?_⟩⟩
 ·have hj : (eachT t ops).length < k := by rcases hlt2 with h | h <;> omega
  have hp := hpart hj
  rw [hp]
  exact ⟨true, fun _ => apAwake w14, fun w15 hE15 => ⟨hE013.trans (hE14.trans hE15), by simp⟩⟩
 ·have hj : k ≤ (eachT t ops).length := by omega
  obtain ⟨t1, t2, t3⟩ := htake hj
  have hres : resT t (ops.take k) = if k = 0 then t else (eachT t ops).getD (k - 1) T.nul := by unfold resT; rw [if_pos t1]; exact t3
  have hE014 := hE013.trans hE14
  have hB14 := ((hB11.ext hE12).ext hE13).ext hE14
  have ht14 : RdT [] w14 t Sl.nil sk := ((hrd.ext hE211).ext hE12).ext (hE13.trans hE14)
  rw [t1, t2]
  by_cases h0 : k = 0
  ·rw [if_pos h0] at hres
   have hk0 : (k : Int) = 0 := by omega
   refine ⟨true, fun _ w' hE' => hsame hres (hB14.ext hE') (ht14.ext hE'), fun hf => absurd hf.2.2 (by omega), ⟨0, 0, none⟩, fun hf => absurd hf.2.2 (by omega), 0, [], [], Sl.nil, Sl.nil, fun hf => absurd hf.2.2 (by omega), true, fun hf => absurd hf.2.2 (by omega), true, fun _ w' _ => apAwake w', fun w15 hE15 => ⟨hE014.trans hE15, ?_⟩⟩
   simp [hk0]
  ·rw [if_neg h0] at hres
   have hk0 : ¬ (k : Int) = 0 := by omega
   have hk1 : (0 : Int) < k := by omega
   obtain ⟨p, s3, s4, h1, h2, h3⟩ := hel hE14 (k - 1) (by omega)
   have e : ((k : Int) - 1).toNat = k - 1 := by omega
   refine ⟨true, fun hf => absurd hf.2 hk0, fun _ => ⟨by omega, by omega⟩, p, fun _ => ⟨⟨by omega, by omega⟩, h1⟩, _, _, _, s3, s4, fun _ => by rw [e]; exact h2, true, fun _ w' hE' => hsame hres (hB14.ext hE') (h3.ext hE'), true, fun _ w' _ => apAwake w', fun w15 hE15 => ⟨hE014.trans hE15, ?_⟩⟩
   rw [decide_eq_true hk1]; simp
end
end Go.Proofs.Ytghmgfkdnolcdaa
