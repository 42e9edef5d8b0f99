/-
  Trees as plain data, how they stand in memory, and how an argument is opened.
-/
import Derived.Test.YteohbfaechfliaaRow
namespace Go.Proofs.Yteohbfaechfliaa
open Go.RowKit Go.ChangeShapes Go.WideShapes Go.ChangeAt

inductive T where
  | node (kind : Int) (name text : Str) (attrs : List (Str × Str)) (kids : List T)
namespace T
def kind : T → Int | .node k _ _ _ _ => k
def name : T → Str | .node _ n _ _ _ => n
def text : T → Str | .node _ _ x _ _ => x
def attrs : T → List (Str × Str) | .node _ _ _ ats _ => ats
def kids : T → List T | .node _ _ _ _ ks => ks
theorem ind {P : T → Prop} (h : ∀ k n x ats ks, (∀ t ∈ ks, P t) → P (.node k n x ats ks)) : ∀ t, P t
  | .node k n x ats ks => h k n x ats ks fun t _ => ind h t
theorem ind' {P : T → Prop} (h : ∀ t, (∀ u ∈ t.kids, P u) → P t) : ∀ t, P t := ind fun _ _ _ _ _ ih => h _ ih
def nul : T := .node 0 [] [] [] []
def size : T → Nat | .node _ _ _ _ ks => 1 + (ks.attach.map fun ⟨t, _⟩ => size t).sum
def depth : T → Nat | .node _ _ _ _ ks => 1 + (ks.attach.map fun ⟨t, _⟩ => depth t).foldr max 0
def slots : T → Nat | .node _ _ _ ats ks => ats.length + (ks.attach.map fun ⟨t, _⟩ => slots t).sum
def abulk (p : Str × Str) : Nat := p.1.length + p.2.length + 1
def bulk : T → Nat | .node _ n x ats ks => 1 + n.length + x.length + (ats.map abulk).sum + (ks.attach.map fun ⟨t, _⟩ => bulk t).sum
theorem size_eq (t : T) : t.size = 1 + (t.kids.map size).sum := by cases t; rw [size]; simp [kids]
theorem depth_eq (t : T) : t.depth = 1 + (t.kids.map depth).foldr max 0 := by cases t; rw [depth]; simp [kids]
theorem slots_eq (t : T) : t.slots = t.attrs.length + (t.kids.map slots).sum := by cases t; rw [slots]; simp [kids, attrs]
theorem bulk_eq (t : T) : t.bulk = 1 + t.name.length + t.text.length + (t.attrs.map abulk).sum + (t.kids.map bulk).sum := by cases t; rw [bulk]; simp [kids, attrs, name, text]
theorem sum_le {α : Type} (f g : α → Nat) : ∀ l : List α, (∀ x ∈ l, f x ≤ g x) → (l.map f).sum ≤ (l.map g).sum
  | [], _ => Nat.le_refl _
  | x :: r, h => by
    have h1 := h x (by simp)
    have h2 := sum_le f g r (fun y hy => h y (by simp [hy]))
    simp only [List.map_cons, List.sum_cons]; omega
theorem mem_sum {α : Type} (f : α → Nat) : ∀ {l : List α} {x : α}, x ∈ l → f x ≤ (l.map f).sum
  | y :: r, x, h => by
    simp only [List.map_cons, List.sum_cons]
    rcases List.mem_cons.1 h with rfl | h
    · omega
    · have := mem_sum f h; omega
theorem size_bulk : ∀ t : T, t.size ≤ t.bulk := ind' fun t ih => by
  rw [size_eq, bulk_eq]
  have := sum_le size bulk t.kids ih
  omega
theorem len_abulk (ats : List (Str × Str)) : ats.length ≤ (ats.map abulk).sum := by
  induction ats with
  | nil => simp
  | cons p r ih => simp only [List.map_cons, List.sum_cons, List.length_cons, abulk]; omega
theorem slots_bulk : ∀ t : T, t.slots ≤ t.bulk := ind' fun t ih => by
  rw [slots_eq, bulk_eq]
  have := sum_le slots bulk t.kids ih
  have := len_abulk t.attrs
  omega
theorem foldr_max_le {l : List Nat} {n : Nat} (h : ∀ x ∈ l, x ≤ n) : l.foldr max 0 ≤ n := by
  induction l with
  | nil => exact Nat.zero_le _
  | cons a r ih => simp only [List.foldr_cons]; have := h a (by simp); have := ih (fun x hx => h x (by simp [hx])); omega
theorem depth_size : ∀ t : T, t.depth ≤ t.size := ind' fun t ih => by
  rw [depth_eq, size_eq]
  have : (t.kids.map depth).foldr max 0 ≤ (t.kids.map size).sum := foldr_max_le fun x hx => by
    obtain ⟨u, hu, rfl⟩ := List.mem_map.1 hx
    exact Nat.le_trans (ih u hu) (mem_sum size hu)
  omega
theorem kid_bulk {t u : T} (h : u ∈ t.kids) : u.bulk < t.bulk := by
  rw [bulk_eq t]; have := mem_sum bulk h; omega
theorem attr_bulk {t : T} {p : Str × Str} (h : p ∈ t.attrs) : p.1.length + p.2.length < t.bulk := by
  rw [bulk_eq t]; have := mem_sum abulk h; have h2 : abulk p = p.1.length + p.2.length + 1 := rfl; omega
theorem kids_len (t : T) : t.kids.length < t.bulk := by
  have h1 : t.kids.length ≤ (t.kids.map bulk).sum := by
    have := sum_le (fun _ => 1) bulk t.kids (fun u _ => by rw [bulk_eq]; omega)
    have e : ∀ l : List T, (l.map fun _ => 1).sum = l.length := fun l => by induction l with
      | nil => rfl
      | cons a r ih => simp only [List.map_cons, List.sum_cons, ih, List.length_cons]; omega
    rw [e] at this; exact this
  rw [bulk_eq t]; omega
end T

/-- An attribute's cells. -/
def ac (p : Str × Str) : List Value := [.string (Bs p.1), .string (Bs p.2)]
/-- A node's cells. -/
def tc (t : T) (p : Sl × Sl) : List Value := [.int .i64 t.kind, .string (Bs t.name), .string (Bs t.text), p.1.v, p.2.v]
/-- A node as a value. -/
def tv (t : T) (sa sk : Sl) : Value := .agg #[.int .i64 t.kind, .string (Bs t.name), .string (Bs t.text), sa.v, sk.v]

/-- The tree t stands in w; its attributes and kids stand in sa and sk; none of it lies in a block of A. -/
inductive RdT (A : List Nat) (w : World) : T → Sl → Sl → Prop
  | mk {k : Int} {n x : Str} {ats : List (Str × Str)} {ks : List T} {sa sk : Sl} (ps : List (Sl × Sl)) (ha : Row A w sa 2 (ats.map ac)) (hl : ps.length = ks.length) (hk : Row A w sk 5 (List.zipWith tc ks ps))
    (h : ∀ (i : Nat) (t : T) (p : Sl × Sl), ks[i]? = some t → ps[i]? = some p → RdT A w t p.1 p.2) : RdT A w (.node k n x ats ks) sa sk

theorem RdT.attrs {A : List Nat} {w : World} {t : T} {sa sk : Sl} (h : RdT A w t sa sk) : Row A w sa 2 (t.attrs.map ac) := by
  cases h with | mk ps ha hl hk h => exact ha
theorem RdT.nattrs {A : List Nat} {w : World} {t : T} {sa sk : Sl} (h : RdT A w t sa sk) : sa.n = t.attrs.length := by
  have := h.attrs.len; simpa using this
theorem RdT.nkids {A : List Nat} {w : World} {t : T} {sa sk : Sl} (h : RdT A w t sa sk) : sk.n = t.kids.length := by
  cases h with | mk ps ha hl hk h => have := hk.len; simp [hl] at this; exact this
theorem RdT.caps {A : List Nat} {w : World} {t : T} {sa sk : Sl} (h : RdT A w t sa sk) : sa.n ≤ sa.c ∧ sa.c ≤ maxLen ∧ sk.n ≤ sk.c ∧ sk.c ≤ maxLen := by
  cases h with | mk ps ha hl hk h => exact ⟨ha.cap, ha.most, hk.cap, hk.most⟩
theorem RdT.attr {A : List Nat} {w : World} {t : T} {sa sk : Sl} (h : RdT A w t sa sk) {i : Nat} (hi : i < t.attrs.length) :
    ∃ p, sa.a = some p ∧ p.block ∉ A ∧ Cells w (p.add (i * 2)) (ac (t.attrs.getD i ([], []))) := by
  obtain ⟨p, h1, h2, h3, _⟩ := h.attrs.at_ i (by simpa using hi)
  refine ⟨p, h1, h2, ?_⟩
  have e : (t.attrs.map ac).getD i [] = ac (t.attrs.getD i ([], [])) := by simp [List.getD_eq_getElem?_getD, hi]
  rwa [e] at h3
theorem RdT.kid {A : List Nat} {w : World} {t : T} {sa sk : Sl} (h : RdT A w t sa sk) {i : Nat} (hi : i < t.kids.length) :
    ∃ p sa' sk', sk.a = some p ∧ p.block ∉ A ∧ Cells w (p.add (i * 5)) (tc (t.kids.getD i T.nul) (sa', sk')) ∧ RdT A w (t.kids.getD i T.nul) sa' sk' := by
  cases h with
  | @mk k n x ats ks _ _ ps ha hl hk h =>
    simp only [T.kids] at hi ⊢
    have hp : i < ps.length := by omega
    obtain ⟨p, h1, h2, h3, _⟩ := hk.at_ i (by simp; omega)
    have e : (List.zipWith tc ks ps).getD i [] = tc (ks.getD i T.nul) ((ps[i]).1, (ps[i]).2) := by
      simp [List.getD_eq_getElem?_getD, hi, hp, List.getElem?_zipWith]
    rw [e] at h3
    refine ⟨p, (ps[i]).1, (ps[i]).2, h1, h2, h3, h i _ _ ?_ (List.getElem?_eq_getElem hp)⟩
    rw [List.getElem?_eq_getElem hi, List.getD_eq_getElem?_getD, List.getElem?_eq_getElem hi]; rfl
theorem RdT.chg {A F : List Nat} {w w' : World} (c : Chg F w w') (hF : ∀ b ∈ F, b ∈ A) : ∀ {t : T} {sa sk : Sl}, RdT A w t sa sk → RdT A w' t sa sk := by
  intro t sa sk h
  induction h with
  | mk ps ha hl hk h ih => exact .mk ps (ha.chg c hF) hl (hk.chg c hF) ih
theorem RdT.ext {A : List Nat} {w w' : World} {t : T} {sa sk : Sl} (h : RdT A w t sa sk) (c : Ext w w') : RdT A w' t sa sk := RdT.chg c (by simp) h
theorem RdT.less {A A' : List Nat} {w : World} {t : T} {sa sk : Sl} (h : RdT A w t sa sk) (hA : ∀ b ∈ A', b ∈ A) : RdT A' w t sa sk := by
  induction h with
  | mk ps ha hl hk h ih => exact .mk ps (ha.less hA) hl (hk.less hA) ih
theorem RdT.fresh {A : List Nat} {w : World} {t : T} {sa sk : Sl} (h : RdT A w t sa sk) {B : Nat} (hB : w.heap.size ≤ B) : RdT (B :: A) w t sa sk := by
  induction h with
  | mk ps ha hl hk h ih => exact .mk ps (ha.fresh (by decide) hB) hl (hk.fresh (by decide) hB) ih
theorem RdT.nil (A : List Nat) (w : World) (k : Int) (n x : Str) : RdT A w (.node k n x [] []) Sl.nil Sl.nil :=
  .mk [] (Row.nil _ _ _) rfl (Row.nil _ _ _) (by simp)

theorem getD_mem {α : Type} {l : List α} {d : α} {i : Nat} (h : i < l.length) : l.getD i d ∈ l := by
  rw [List.getD_eq_getElem?_getD, List.getElem?_eq_getElem h]; exact List.getElem_mem h

end Go.Proofs.Yteohbfaechfliaa
