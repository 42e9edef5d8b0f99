/-
  What the proof of the statement leans on: texts one behind the other.
-/
import Derived.Test.YtmmikhhklifjhaaGreatDoorQBuildAdopts1
import Derived.Test.YtmmikhhklifjhaaGreatDoorQBuildAdoptsShelf
import Derived.Laws.Tables
import Derived.MapKept
import Derived.Lib.UnsafeStr
namespace Go.Proofs.YtmmikhhklifjhaaGreatDoor
section
namespace Ev

set_option autoImplicit false

section

variable {P : Program} {G : Nat} {dst : Option Nat} {ty : TypeId} {pos : String} {after : Array Edge} {guard : Option (Nat × Bool)}

/-- Bytes, as the numbers they are. -/
theorem u8s_eq {E : En} : ∀ {l : List AC} {cs : List Value} {s : List Nat}, u8s l = some s → ACs E l cs → By s ∧ cs = s.map fun (n : Nat) => Value.int .u8 (n : Int)
  | [], _, s, h, .nil => by
    injection h with h; subst h; exact ⟨fun n hn => (by cases hn), rfl⟩
  | x :: l, c :: cs, s, h, .cons h1 t => by
    replace h : (match (generalizing := false) x with | .i .u8 (.ofNat n) => cond (Nat.blt n 256) (match u8s l with | some r => some (n :: r) | none => none) none | _ => none) = some s := h
    split at h
    · rename_i n
      cases hb : Nat.blt n 256 with
      | false => rw [hb] at h; cases h
      | true =>
        rw [hb] at h
        replace h : (match u8s l with | some r => some (n :: r) | none => none) = some s := h
        cases hr : u8s l with
        | none => rw [hr] at h; cases h
        | some r =>
          rw [hr] at h; injection h with h; subst h
          obtain ⟨g1, g2⟩ := u8s_eq hr t
          have hn : n < 256 := by simpa [Nat.blt_eq] using hb
          refine ⟨fun k hk => ?_, by rw [List.map_cons, ← g2]; congr 1⟩
          rcases List.mem_cons.1 hk with rfl | hk
          · exact hn
          · exact g1 k hk
    · cases h

theorem strOfNums_eq (s : List Nat) : strOfNums (s.map fun (n : Nat) => (n : Int)) = Bs (s.map UInt8.ofNat) := by
  unfold strOfNums Bs
  rw [List.map_map]
  congr 3

theorem V_b2s {src d e : TypeId} {x : Operand} {x' : X} (hs : P.underlying src = some (.slice e)) (he : P.underlying e = some (.int .u8)) (hd : P.underlying d = some .string) (hx : XR G x x') : OpV P G ⟨dst, .convert src d x, ty, pos, after, guard⟩ (.b2s x') := by
  intro E H w0 w a L run v H' hG hH hF h
  replace h : (match evX L x' with | some (.c (.sl none _ _ _)) => some (AV.c (.s []), H) | some (.c (.sl (some (b, o)) n _ es)) => cond (Nat.beq es 1) (match H.rd b o n with | some l => (match u8s l with | some s => some (AV.c (.s s), H) | none => none) | none => none) none | _ => none) = some (v, H') := h
  split at h
  · rename_i n c es h1
    injection h with h; injection h with h2 h3; subst h2
    obtain ⟨_, _, e1⟩ := hx hG hF h1
    refine ⟨h3.symm, _, r_convR e1 (run_convert_bytes_nil w src e hs he 0 0 d hd), ?_, fun n hn => (by cases hn)⟩
    rfl
  · rename_i b o n c es h1
    cases hb : Nat.beq es 1 with
    | false => rw [hb] at h; cases h
    | true =>
      rw [hb] at h
      replace h : (match H.rd b o n with | some l => (match u8s l with | some s => some (AV.c (.s s), H) | none => none) | none => none) = some (v, H') := h
      split at h
      · rename_i l h2
        split at h
        · rename_i s h3
          injection h with h; injection h with h4 h5; subst h4
          obtain ⟨B, S, o', c', e1, e2, e3, e4, e5, e6⟩ := hx hG hF h1
          obtain ⟨cs, g1, g2, g3⟩ := hH.rd h2 e1
          obtain ⟨k1, k2⟩ := u8s_eq h3 g2
          have hlen : (s.map fun (n : Nat) => (n : Int)).length = n := by
            rw [← g1, k2]; simp
          refine ⟨h5.symm, _, r_convR e2 (run_convert_bytes_arg w src e hs he B o' n c' (s.map fun (n : Nat) => (n : Int)) hlen (fun i hi => ?_) d hd), ?_, k1⟩
          · have ho : o' = o := by rcases e5 with e5 | e5
                                   · omega
                                   · exact e5
            subst ho
            have hi' : i < s.length := by simpa using (by rw [hlen]; exact hi : i < (s.map fun (n : Nat) => (n : Int)).length)
            have := g3 i (.int .u8 ((s[i] : Nat) : Int)) (by rw [k2]; simp [hi'])
            rw [Addr.add_lit] at this
            rw [this]
            simp [List.getD_eq_getElem?_getD, hi']
          · rw [strOfNums_eq]
        · cases h
      · cases h
  · cases h

theorem repl_get (z : List AC) : ∀ (n j : Nat), j < n * z.length → (repl z n)[j]? = z[j % z.length]?
  | 0, j, h => by simp at h
  | n + 1, j, h => by
    have e : repl z (n + 1) = z ++ repl z n := rfl
    rw [e, List.getElem?_append]
    by_cases hj : j < z.length
    · rw [if_pos hj, Nat.mod_eq_of_lt hj]
    · rw [if_neg hj, repl_get z n (j - z.length) (by rw [Nat.add_mul, Nat.one_mul] at h; omega), Nat.mod_eq_sub_mod (Nat.le_of_not_lt hj)]

theorem repl_length (z : List AC) : ∀ n, (repl z n).length = n * z.length
  | 0 => by show ([] : List AC).length = _; simp
  | n + 1 => by
    have e : repl z (n + 1) = z ++ repl z n := rfl
    rw [e, List.length_append, repl_length z n, Nat.add_mul, Nat.one_mul]; omega

theorem A_mks {t e T size bytes : Nat} {z : Value} {zs : List AC} {x y : Operand} {x' y' : X} (ht : P.underlying t = some (.slice e)) (hi : TI P e z size bytes) (hz : ∀ E, ∃ cs : List Value, z.cells = cs.toArray ∧ ACs E zs cs) (hzs : zs.length = size) (hb20 : bytes ≤ 1048576) (hs20 : size ≤ 256) (hsz : 0 < size) (hx : XR G x x') (hy : XR G y y') :
    OpA P G ⟨dst, .makeSlice t x y, ty, pos, after, guard⟩ (.mks T size zs x' y') := by
  intro L run H H' v h
  replace h : (match idx (evX L x'), idx (evX L y') with | some n, some c => cond (Nat.ble n c && Nat.blt c 65536) (some (AV.c (.sl (some (H.nx, 0)) n c size), H.new T (repl zs c))) none | _, _ => none) = some (v, H') := h
  split at h
  · rename_i n c h1 h2
    cases hb : (Nat.ble n c && Nat.blt c 65536) with
    | false => rw [hb] at h; cases h
    | true =>
      rw [hb] at h; injection h with h; injection h with h3 h4; subst h3; subst h4
      obtain ⟨c1, c2⟩ : n ≤ c ∧ c < 65536 := by
        rw [Bool.and_eq_true] at hb
        exact ⟨by simpa using hb.1, by simpa [Nat.blt_eq] using hb.2⟩
      refine ⟨_, rfl, fun _ _ _ _ h => (by cases h), fun {E H2 w0 w a} hG hH hF hg hE => ?_⟩
      obtain ⟨k1, hk1⟩ := idx_eq h1
      obtain ⟨k2, hk2⟩ := idx_eq h2
      have g1 : a.eval x = .int k1 (.ofNat n) := hx hG hF hk1
      have g2 : a.eval y = .int k2 (.ofNat c) := hy hG hF hk2
      obtain ⟨i, hi0, hz0, hs, hby⟩ := hi
      subst hs; subst hby
      have hr := run_makeSlice (P := P) w t e i z ht hi0 hz0 k1 k2 (.ofNat n) (.ofNat c) (by simp) (by simp; omega) (by
        have : c * i.size ≤ 65536 * 256 := Nat.mul_le_mul (by omega) hs20
        simpa using this) (by
        have : i.bytes * c ≤ 1048576 * 65536 := Nat.mul_le_mul hb20 (by omega)
        simp; omega) (by simp; omega)
      obtain ⟨cs, e1, e2⟩ := hz E
      have hlen := All2.length e2
      have hP : Pre E (repl zs c) (madeCells z.cells (c * i.size)).toList := fun j u hj => by
        have hjl : j < c * zs.length := by rw [← repl_length]; exact (List.getElem?_eq_some_iff.1 hj).1
        rw [repl_get zs c j hjl] at hj
        obtain ⟨u', q1, q2⟩ := All2.get e2 _ _ hj
        refine ⟨u', ?_, q2⟩
        have hsz' : z.cells.size = i.size := by rw [e1, List.size_toArray, hlen, hzs]
        have hm : z.cells[j % z.cells.size]! = u' := by
          rw [hsz', ← hzs, e1]
          have := (List.getElem?_eq_some_iff.1 q1)
          obtain ⟨p1, p2⟩ := this
          simp [getElem!_def, q1]
        have hlt : j < c * i.size := by rw [← hzs]; exact hjl
        simp only [madeCells, Array.toList_map, Array.toList_range, List.getElem?_map, List.getElem?_range hlt, Option.map_some, hm]
      have hE1 := Ext.alloc w (.cells (madeCells z.cells (c * i.size)) e (0, 0))
      have hB1 : Box (w.alloc (.cells (madeCells z.cells (c * i.size)) e (0, 0))) w.heap.size e (madeCells z.cells (c * i.size)).toList := by
        have := Box.alloc w e (madeCells z.cells (c * i.size)).toList
        simpa using this
      have key := hH.real hg hE hE1 (Nat.le_refl _) hB1 hP
      refine ⟨_, _, _, En.le_add hE, fun b hb => En.add_other _ _ _ hb, r_makeSlice g1 g2 hr, by simpa using key, w.heap.size, _, 0, c, En.add_same _ _ _ _, by simp, Nat.le_refl _, c1, .inr rfl, ?_⟩
      show 0 + c * i.size ≤ _
      simp only [Array.length_toList, size_madeCells]; omega
  · cases h

theorem A_s2b {src d e T : TypeId} {x : Operand} {x' : X} (hs : P.underlying src = some .string) (hd : P.underlying d = some (.slice e)) (he : P.underlying e = some (.int .u8)) (hx : XR G x x') : OpA P G ⟨dst, .convert src d x, ty, pos, after, guard⟩ (.s2b T x') := by
  intro L run H H' v h
  replace h : (match evX L x' with | some (.c (.s s)) => some (AV.c (.sl (some (H.nx, 0)) s.length s.length 1), H.push (.cells T (s8 s) .ro)) | _ => none) = some (v, H') := h
  split at h
  · rename_i s h1
    injection h with h; injection h with h2 h3; subst h2; subst h3
    refine ⟨_, rfl, fun _ _ _ _ h => (by cases h), fun {E H2 w0 w a} hG hH hF hg hE => ?_⟩
    obtain ⟨e1, e2⟩ := hx hG hF h1
    have hr := run_bytes_of_string (P := P) w src d e (Bs (s.map UInt8.ofNat)) hs hd he
    have hsz : (Bs (s.map UInt8.ofNat)).size = s.length := by rw [Bs_size]; simp
    rw [hsz] at hr
    have hP : Pre E (s8 s) (bytesRow (Bs (s.map UInt8.ofNat)) (grownCap w s.length 0 e)).toList := fun j u hj => by
      unfold s8 at hj
      rw [List.getElem?_map] at hj
      cases hn : s[j]? with
      | none => rw [hn] at hj; cases hj
      | some n =>
        rw [hn] at hj; injection hj with hj; subst hj
        have hlt := (List.getElem?_eq_some_iff.1 hn).1
        have hn256 : n < 256 := e2 n (List.mem_of_getElem? hn)
        refine ⟨.int .u8 (n : Int), ?_, rfl⟩
        simp only [bytesRow, Array.toList_append, Array.toList_map, Bs_data]
        rw [List.getElem?_append_left (by simpa using hlt), List.getElem?_map, List.getElem?_map, hn]
        simp
        omega
    have hE1 : Ext w (w.drew.alloc (.cells (bytesRow (Bs (s.map UInt8.ofNat)) (grownCap w s.length 0 e)) e ((bytesRow (Bs (s.map UInt8.ofNat)) (grownCap w s.length 0 e)).size, (bytesRow (Bs (s.map UInt8.ofNat)) (grownCap w s.length 0 e)).size + 1))) := (Chg.drew (Chg.refl [] w)).trans (Ext.alloc w.drew _)
    have key := hH.realZ hg hE hE1 (Nat.le_refl _) (by simpa using heap_alloc_new w.drew _) (fun hh => absurd rfl hh) hP
    have hge := grownCap_ge w s.length 0 e
    refine ⟨_, _, _, En.le_add hE, fun b hb => En.add_other _ _ _ hb, r_convR e1 hr, key, w.heap.size, _, 0, grownCap w s.length 0 e, En.add_same _ _ _ _, rfl, hge, hge, .inr rfl, ?_⟩
    show 0 + grownCap w s.length 0 e * 1 ≤ _
    simp only [Array.length_toList, bytesRow, Array.size_append, Array.size_map, Array.size_replicate]
    have : (Bs (s.map UInt8.ofNat)).data.size = s.length := hsz
    rw [this, hsz]; omega
  · cases h

end

end Ev
end

section
namespace Ev

set_option autoImplicit false

section

variable {P : Program} {G : Nat} {dst : Option Nat} {ty : TypeId} {pos : String} {after : Array Edge} {guard : Option (Nat × Bool)}

theorem V_usd {t : TypeId} {x : Operand} {x' : X} (hx : XR G x x') : OpV P G ⟨dst, .call { callee := .builtin .unsafeSliceData, args := #[x], argTypes := #[t] }, ty, pos, after, guard⟩ (.usd x') := by
  intro E H w0 w a L run v H' hG hH hF h
  replace h : (match evX L x' with | some (.c (.sl none _ _ _)) => some (AV.c (.p none), H) | some (.c (.sl (some a) _ c _)) => cond (Nat.beq c 0) none (some (AV.c (.p (some a)), H)) | _ => none) = some (v, H') := h
  split at h
  · rename_i n c es h1
    injection h with h; injection h with h2 h3; subst h2
    obtain ⟨_, _, e1⟩ := hx hG hF h1
    have hu : (Builtin.unsafeSliceData_ #[t] ty #[.slice none 0 0]).run P w = .ok (.pointer none) w := rfl
    exact ⟨h3.symm, .pointer none, by simp [execOp, resolve, invoke, builtin, e1, hu], rfl⟩
  · rename_i p n c es h1
    cases hb : Nat.beq c 0 with
    | true => rw [hb] at h; cases h
    | false =>
      rw [hb] at h; injection h with h; injection h with h2 h3; subst h2
      obtain ⟨b, o⟩ := p
      obtain ⟨B, S, o', c', e1, e2, e3, e4, e5, e6⟩ := hx hG hF h1
      have hc0 : c ≠ 0 := fun e => by subst e; cases hb
      have hc : c' ≠ 0 := by omega
      have ho : o' = o := by rcases e5 with e5 | e5
                             · exact absurd e5 hc
                             · exact e5
      subst ho
      have hu : (Builtin.unsafeSliceData_ #[t] ty #[.slice (some ⟨B, o', none⟩) n c']).run P w = .ok (.pointer (some ⟨B, o', none⟩)) w := by
        unfold Builtin.unsafeSliceData_
        show Sem.run P (if c' ≠ 0 then pure (Value.pointer (some ⟨B, o', none⟩)) else _) w = _
        rw [if_pos hc]; rfl
      exact ⟨h3.symm, .pointer (some ⟨B, o', none⟩), by simp [execOp, resolve, invoke, builtin, e2, hu], B, S, e1, rfl⟩
  · cases h

theorem A_mkm {t : TypeId} (hr : ∀ w : World, (Instr.makeMap t none).run P w = .ok (.map (some w.heap.size)) (w.alloc (.map #[] 0))) : OpS P G ⟨dst, .makeMap t none, ty, pos, after, guard⟩ .mkm := by
  intro E H w0 w a L run v H' _ hG hH hF h
  replace h : some (AV.c (.m (some H.nx)), H.push (.map [] 0)) = some (v, H') := h
  injection h with h; injection h with h1 h2; subst h1; subst h2
  refine ⟨⟨Nat.le_succ _, fun b hb _ => (AH.get_push _ _ _).trans (if_neg (Nat.ne_of_lt hb))⟩, .inl ⟨_, _, r_makeMap (hr w), ?_⟩⟩
  have hg : (H.push (.map [] 0)).get H.nx = some (.map [] 0) := (AH.get_push _ _ _).trans (if_pos rfl)
  have hp := (hH.push (o := .map [] 0) fun _ _ _ _ h => (by cases h)).ext (Ext.alloc w (.map #[] 0))
  have hE := hH.free
  have old : ∀ {x p}, x ≠ H.nx → E.add H.nx w.heap.size 0 x = some p → E x = some p := fun hx hp => by rwa [En.add_other _ _ _ hx] at hp
  have hlt : ∀ {x p}, E x = some p → live (H.push (.map [] 0)) x → p.1 < w.heap.size := fun {x p} hx hl => by
    have hpw := hH.push (o := .map [] 0) fun _ _ _ _ h => (by cases h)
    rcases hl with hl | ⟨es, cl, hl⟩
    · cases ha : (H.push (.map [] 0)).at x with
      | none => rw [ha] at hl; cases hl
      | some q =>
        obtain ⟨C', T'', fz, h1, _⟩ := hpw.cel x q.1 q.2.1 q.2.2 p.1 p.2 ha hx
        exact (Array.getElem?_eq_some_iff.1 h1).1
    · obtain ⟨_, ms, h1, _⟩ := hpw.mp x es cl p.1 p.2 hl hx
      exact (Array.getElem?_eq_some_iff.1 h1).1
  have hle := En.le_add (B := w.heap.size) (S := 0) hE
  refine ⟨E.add H.nx w.heap.size 0, hle, fun b p hb => ?_, ⟨hp.wp, hp.ch, fun x p hx => ?_, hp.key, hp.fkey, hp.bf, hp.las, fun x T c l B S ha hx => ?_, fun x es cl B S hm hx => ?_, fun x y B S S' hxy hx hy hl hl' => ?_⟩, w.heap.size, 0, En.add_same _ _ _ _, rfl⟩
  · by_cases hbn : b = H.nx
    · subst hbn; exact .inr (Nat.le_refl _)
    · exact .inl (old hbn hb)
  · by_cases hxn : x = H.nx
    · subst hxn; exact Nat.lt_succ_self _
    · exact hp.dom x p (old hxn hx)
  · have hxn : x ≠ H.nx := fun e => by subst e; have := (AH.at_eq.1 ha).1; rw [hg] at this; cases this
    obtain ⟨C, T', fz, h1, h2, h3, h4⟩ := hp.cel x T c l B S ha (old hxn hx)
    exact ⟨C, T', fz, h1, h2, h3.mono hle, h4⟩
  · by_cases hxn : x = H.nx
    · subst hxn
      rw [En.add_same] at hx; injection hx with hx; injection hx with g1 g2; subst g1
      rw [hg] at hm; injection hm with hm; injection hm with g3 g4; subst g3; subst g4
      exact ⟨hH.ch.size, [], heap_alloc_new w _, .nil⟩
    · obtain ⟨h0, ms, h1, h2⟩ := hp.mp x es cl B S hm (old hxn hx)
      exact ⟨h0, ms, h1, h2.mono fun _ _ => entR.mono hle⟩
  · by_cases hxn : x = H.nx
    · subst hxn
      rw [En.add_same] at hx; injection hx with hx; injection hx with g1 _; subst g1
      exact absurd (hlt (old (Ne.symm hxy) hy) hl') (Nat.lt_irrefl _)
    · by_cases hyn : y = H.nx
      · subst hyn
        rw [En.add_same] at hy; injection hy with hy; injection hy with g1 _; subst g1
        exact absurd (hlt (old hxn hx) hl) (Nat.lt_irrefl _)
      · exact hp.inj x y B S S' hxy (old hxn hx) (old hyn hy) hl hl'

theorem zeroCells_get (zs : Array Value) (n j : Nat) (h : j < n * zs.size) : (Builtin.zeroCells zs n).toList[j]? = some zs[j % zs.size]! := by
  simp only [Builtin.zeroCells, Array.toList_map, Array.toList_range, List.getElem?_map, List.getElem?_range h, Option.map_some]

theorem S_clr {t e size bytes : Nat} {z : Value} {zs : List AC} {x : Operand} {x' : X} (ht : P.underlying t = some (.slice e)) (hi : TI P e z size bytes) (hz : ∀ E, ∃ cs : List Value, z.cells = cs.toArray ∧ ACs E zs cs) (hx : XR G x x') (hun : undef = Value.tuple #[]) :
    OpS P G ⟨dst, .call { callee := .builtin .clear, args := #[x], argTypes := #[t] }, ty, pos, after, guard⟩ (.clr zs x') := by
  intro E H w0 w a L run v H' _ hG hH hF h
  replace h : (match evX L x' with | some (.c (.sl none _ _ _)) => some (AV.u, H) | some (.c (.sl (some (b, o)) n _ _)) => cond (Nat.beq n 0) (some (AV.u, H)) (match H.wr b o (repl zs n) with | some H' => some (AV.u, H') | none => none) | _ => none) = some (v, H') := h
  obtain ⟨i, hi0, hz0, hs, hby⟩ := hi
  split at h
  · rename_i n c es h1
    injection h with h; injection h with h2 h3; subst h2; subst h3
    obtain ⟨_, _, e1⟩ := hx hG hF h1
    have hr : (Builtin.clear_ #[t] ty #[.slice none 0 0]).run P w = .ok (.tuple #[]) w := by
      simp [Builtin.clear_, run_underlying ht]
    exact ⟨Keeps.refl _ _, .inl ⟨_, w, r_clear e1 hr, E, En.le_refl _, fun _ _ h => .inl h, hH, hun.symm⟩⟩
  · rename_i b o n c es h1
    obtain ⟨B, S, o', c', e1, e2, e3, e4, e5, e6⟩ := hx hG hF h1
    cases hn : Nat.beq n 0 with
    | true =>
      have hn := Nat.eq_of_beq_eq_true hn
      subst hn
      injection h with h; injection h with h2 h3; subst h2; subst h3
      have hr : (Builtin.clear_ #[t] ty #[.slice (some ⟨B, o', none⟩) 0 c']).run P w = .ok (.tuple #[]) w := by
        simp [Builtin.clear_, run_underlying ht]
      exact ⟨Keeps.refl _ _, .inl ⟨_, w, r_clear e2 hr, E, En.le_refl _, fun _ _ h => .inl h, hH, hun.symm⟩⟩
    | false =>
      rw [hn] at h
      replace h : (match H.wr b o (repl zs n) with | some H' => some (AV.u, H') | none => none) = some (v, H') := h
      cases hw : H.wr b o (repl zs n) with
      | none => rw [hw] at h; cases h
      | some H1 =>
        rw [hw] at h; injection h with h; injection h with h2 h3; subst h2; subst h3
        have hn0 : 0 < n := by
          rcases Nat.eq_zero_or_pos n with h | h
          · subst h; cases hn
          · exact h
        have ho : o' = o := by rcases e5 with e5 | e5
                               · omega
                               · exact e5
        subst ho
        obtain ⟨cs, f1, f2⟩ := hz E
        have hlen := All2.length f2
        have hzc : z.cells.size = zs.length := by rw [f1, List.size_toArray, hlen]
        have hv : ACs E (repl zs n) (Builtin.zeroCells z.cells n).toList := All2.of_get (by have h1 := size_zeroCells z.cells n; rw [hzc] at h1; rw [repl_length, ← h1]; rfl) fun j u y hu hy => by
          have hjl : j < n * zs.length := by rw [← repl_length]; exact (List.getElem?_eq_some_iff.1 hu).1
          rw [repl_get zs n j hjl] at hu
          obtain ⟨u', q1, q2⟩ := All2.get f2 _ _ hu
          rw [zeroCells_get _ _ _ (by rw [hzc]; exact hjl)] at hy
          injection hy with hy
          have : z.cells[j % z.cells.size]! = u' := by
            rw [hzc, f1]; simp [getElem!_def, q1]
          rw [this] at hy; subst hy; exact q2
        obtain ⟨C, T', hb, hl, hk⟩ := hH.wr hw e1 hv
        have hst := run_storeCells_box (P := P) o' (Builtin.zeroCells z.cells n).toList 0 hb (by simpa using hl) hv.one
        have hr : (Builtin.clear_ #[t] ty #[.slice (some ⟨B, o', none⟩) n c']).run P w = .ok (.tuple #[]) (setCells w B o' (Builtin.zeroCells z.cells n).toList) := by
          simp only [Nat.add_zero] at hst
          have : ∃ k, n = k + 1 := ⟨n - 1, by omega⟩
          obtain ⟨k, rfl⟩ := this
          simp [Builtin.clear_, run_underlying ht, zeroValue, typeInfo, hi0, hz0, hst]
        exact ⟨wr_keeps hw e1, .inl ⟨_, _, r_clear e2 hr, E, En.le_refl _, fun _ _ h => .inl h, hk _ (setCells_chg B _ w o') (setCells_box _ hb), hun.symm⟩⟩
  · cases h

end

end Ev
end

section
namespace Ev

set_option autoImplicit false

/-- Parts, where they come. -/
def PsR (G : Nat) (place : Nat → Option (Nat × Nat)) (p : Nat × Operand) (q : Nat × Nat × X) : Prop := place p.1 = some (q.1, q.2.1) ∧ XR G p.2 q.2.2

section

variable {P : Program} {G : Nat} {dst : Option Nat} {ty : TypeId} {pos : String} {after : Array Edge} {guard : Option (Nat × Bool)}

theorem foldl_put : ∀ (us : List Value) (C : List Value) (o k : Nat), (us.zipIdx k).foldl (fun cs (p : Value × Nat) => cs.setIfInBounds (o + p.2) p.1) C.toArray = (putAt C (o + k) us).toArray
  | [], C, o, k => rfl
  | u :: us, C, o, k => by
    rw [List.zipIdx_cons, List.foldl_cons]
    have e : C.toArray.setIfInBounds (o + k) u = (C.set (o + k) u).toArray := by simp
    show ((us.zipIdx (k + 1)).foldl _ (C.toArray.setIfInBounds (o + k) u)) = _
    rw [e, foldl_put us (C.set (o + k) u) o (k + 1)]
    rfl

theorem fill_ok {place : Nat → Option (Nat × Nat)} {E : En} {a : Act} {L : Fr} (hG : GE G E) (hF : FR E L a) : ∀ {ps : List (Nat × Operand)} {qs : List (Nat × Nat × X)} {z l : List AC} {C : List Value}, All2 (PsR G place) ps qs → ACs E z C → evP L qs z = some l →
    ∃ cs : List Value, Instr.fill place C.toArray (ps.map fun p => (p.1, a.eval p.2)) = some cs.toArray ∧ ACs E l cs
  | [], [], z, l, C, .nil, hz, h => by
    injection h with h; subst h
    exact ⟨C, rfl, hz⟩
  | p :: ps, q :: qs, z, l, C, .cons hp ht, hz, h => by
    replace h : (match evX L q.2.2 with | some v => cond (v.plain && Nat.beq v.cells.length q.2.1) (match over z q.1 v.cells with | some z' => evP L qs z' | none => none) none | none => none) = some l := h
    split at h
    · rename_i v hv
      cases hb : (v.plain && Nat.beq v.cells.length q.2.1) with
      | false => rw [hb] at h; cases h
      | true =>
        rw [hb] at h
        obtain ⟨b1, b2⟩ : v.plain = true ∧ Nat.beq v.cells.length q.2.1 = true := by simpa using hb
        replace b2 := Nat.eq_of_beq_eq_true b2
        replace h : (match over z q.1 v.cells with | some z' => evP L qs z' | none => none) = some l := h
        split at h
        · rename_i z' ho
          obtain ⟨us, h1, h2⟩ := AV.cells_of b1 (hp.2 hG hF hv)
          have hlu := All2.length h2
          have hlC := All2.length hz
          obtain ⟨o1, o2, o3⟩ := over_eq _ _ _ _ ho
          have hput : ACs E z' (putAt C q.1 us) := by
            have hpre := Pre.put (Pre.all2 hz) h2 ho
            refine All2.of_get (by rw [putAt_length, o2, hlC]) fun i x y hx hy => ?_
            obtain ⟨y', g1, g2⟩ := hpre i x hx
            rw [hy] at g1; injection g1 with g1; subst g1; exact g2
          obtain ⟨cs, g1, g2⟩ := fill_ok hG hF ht hput h
          refine ⟨cs, ?_, g2⟩
          rw [List.map_cons, Instr.fill, hp.1]
          simp only [h1, List.size_toArray]
          have c : (us.length ≠ q.2.1 || decide (q.1 + us.length > C.length)) = false := by
            rw [hlu, b2, hlC]
            simp; omega
          have c' : ¬ ((decide (us.length ≠ q.2.1) || decide (q.1 + us.length > C.length)) = true) := by
            intro hh
            rw [Bool.or_eq_true] at hh
            rcases hh with hh | hh
            · exact absurd (of_decide_eq_true hh) (by rw [hlu, b2]; simp)
            · have := of_decide_eq_true hh; omega
          have e : us.toArray.zipIdx.foldl (fun cs (p : Value × Nat) => cs.setIfInBounds (q.1 + p.2) p.1) C.toArray = (putAt C q.1 us).toArray := by
            have := foldl_put us C q.1 0
            rw [Nat.add_zero] at this
            rw [← this]
            simp [← Array.foldl_toList]
          rw [if_neg (by simpa using c')]
          rw [e]; exact g1
        · cases h
    · cases h

theorem V_bld {t : TypeId} {ps : List (Nat × Operand)} {qs : List (Nat × Nat × X)} {place : Nat → Option (Nat × Nat)} {z : Value} {zs : List AC} (hb : ∀ vs, P.built t vs = Instr.fill place z.cells vs) (hz : ∀ E, ∃ cs : List Value, z.cells = cs.toArray ∧ ACs E zs cs) (hp : All2 (PsR G place) ps qs) :
    OpV P G ⟨dst, .build t ps.toArray, ty, pos, after, guard⟩ (.bld zs qs) := by
  intro E H w0 w a L run v H' hG hH hF h
  replace h : (match evP L qs zs with | some l => some (AV.a l, H) | none => none) = some (v, H') := h
  split at h
  · rename_i l h1
    injection h with h; injection h with h2 h3; subst h2
    obtain ⟨C, e1, e2⟩ := hz E
    obtain ⟨cs, g1, g2⟩ := fill_ok hG hF hp e2 h1
    refine ⟨h3.symm, .agg cs.toArray, ?_, cs, rfl, g2⟩
    have hr := run_build (P := P) w t (ps.toArray.map fun (i, x) => (i, a.eval x)) cs.toArray (by
      rw [hb, e1]
      simpa using g1)
    simp only [execOp, hr, Sem.run_bind, Result.andThen_ok, Sem.run_pure]
  · cases h

theorem made_acs {E : En} {zs : List AC} {cs : List Value} (h : ACs E zs cs) (c : Nat) (hs : 0 < zs.length) : ACs E (repl zs c) ((Array.range (c * zs.length)).map (cs.toArray[· % cs.toArray.size]!)).toList := by
  have hlen := All2.length h
  refine All2.of_get (by rw [repl_length]; simp) fun j x y hx hy => ?_
  have hjl : j < c * zs.length := by rw [← repl_length]; exact (List.getElem?_eq_some_iff.1 hx).1
  rw [repl_get zs c j hjl] at hx
  obtain ⟨u, q1, q2⟩ := All2.get h _ _ hx
  have hm : cs.toArray[j % cs.toArray.size]! = u := by
    rw [List.size_toArray, hlen]
    simp [getElem!_def, q1]
  simp only [Array.toList_map, Array.toList_range, List.getElem?_map, List.getElem?_range hjl, Option.map_some, hm] at hy
  injection hy with hy; subst hy; exact q2

theorem A_bsl {t e T n size bytes : Nat} {z : Value} {zs : List AC} {ps : List (Nat × Operand)} {qs : List (Nat × Nat × X)} (ht : P.underlying t = some (.slice e)) (hi : TI P e z size bytes) (hz : ∀ E, ∃ cs : List Value, z.cells = cs.toArray ∧ ACs E zs cs) (hzs : zs.length = size) (hsz : 0 < size) (hle : n * size ≤ 2 ^ 24) (hn : 0 < n)
    (hp : All2 (PsR G fun i => some (i * size, size)) ps qs) : OpA P G ⟨dst, .buildSlice t n ps.toArray, ty, pos, after, guard⟩ (.bsl T size n (repl zs n) qs) := by
  intro L run H H' v h
  replace h : (match evP L qs (repl zs n) with | some l => some (AV.c (.sl (some (H.nx, 0)) n n size), H.new T l) | none => none) = some (v, H') := h
  split at h
  · rename_i l h1
    injection h with h; injection h with h2 h3; subst h2; subst h3
    refine ⟨_, rfl, fun _ _ _ _ h => (by cases h), fun {E H2 w0 w a} hG hH hF hg hE => ?_⟩
    obtain ⟨C, e1, e2⟩ := hz E
    subst hzs
    obtain ⟨cs, g1, g2⟩ := fill_ok hG hF hp (made_acs e2 n hsz) h1
    have hr := r_buildSlice (P := P) (ρ := a.eval) (w := w) (dst := dst) (ty := ty) (pos := pos) (after := after) (guard := guard) (t := t) (len := n) (parts := ps.toArray) (cs := cs) rfl ht hi (by rw [Nat.ble_eq]; exact hle) (by rw [Nat.blt_eq]; exact Nat.mul_pos hn hsz) (by
      rw [e1]
      rw [Array.toArray_toList] at g1
      rw [← g1]
      congr 1
      simp)
    have key := hH.real hg hE (Ext.alloc w (.cells cs.toArray e (0, 0))) (Nat.le_refl _) (Box.alloc w e cs) (Pre.all2 g2)
    have hl : cs.length = n * zs.length := by
      have := All2.length g2
      have h0 : l.length = (repl zs n).length := by
        have : ∀ (qs : List (Nat × Nat × X)) (z l : List AC), evP L qs z = some l → l.length = z.length := fun qs => by
          induction qs with
          | nil => intro z l h; injection h with h; rw [h]
          | cons q qs ih =>
            intro z l h
            replace h : (match evX L q.2.2 with | some v => cond (v.plain && Nat.beq v.cells.length q.2.1) (match over z q.1 v.cells with | some z' => evP L qs z' | none => none) none | none => none) = some l := h
            split at h
            · rename_i v _
              cases hb : (v.plain && Nat.beq v.cells.length q.2.1) with
              | false => rw [hb] at h; cases h
              | true =>
                rw [hb] at h
                replace h : (match over z q.1 v.cells with | some z' => evP L qs z' | none => none) = some l := h
                split at h
                · rename_i z' ho
                  rw [ih _ _ h, (over_eq _ _ _ _ ho).2.1]
                · cases h
            · cases h
        exact this _ _ _ h1
      rw [this, h0, repl_length]
    exact ⟨_, _, _, En.le_add hE, fun b hb => En.add_other _ _ _ hb, hr, key, w.heap.size, cs.length, 0, n, En.add_same _ _ _ _, by simp, Nat.le_refl _, Nat.le_refl _, .inr rfl, by rw [hl]; omega⟩
  · cases h

theorem A_bsl0 {t e T es size bytes : Nat} {z : Value} (ht : P.underlying t = some (.slice e)) (hi : TI P e z size bytes) : OpA P G ⟨dst, .buildSlice t 0 #[], ty, pos, after, guard⟩ (.bsl T es 0 [] []) := by
  intro L run H H' v h
  replace h : some (AV.c (.sl (some (H.nx, 0)) 0 0 es), H.new T []) = some (v, H') := h
  injection h with h; injection h with h2 h3; subst h2; subst h3
  refine ⟨_, rfl, fun _ _ _ _ h => (by cases h), fun {E H2 w0 w a} hG hH hF hg hE => ?_⟩
  have key := hH.real hg hE (Ext.alloc w (.cells ([] : List Value).toArray e (0, 0))) (Nat.le_refl _) (Box.alloc w e []) (Pre.all2 All2.nil)
  exact ⟨_, _, _, En.le_add hE, fun b hb => En.add_other _ _ _ hb, r_buildSlice0 ht hi, key, w.heap.size, 0, 0, 0, En.add_same _ _ _ _, by simp, Nat.le_refl _, Nat.le_refl _, .inl rfl, by simp⟩

end

section

variable {P : Program} {G : Nat} {dst : Option Nat} {ty : TypeId} {pos : String} {after : Array Edge} {guard : Option (Nat × Bool)}

/-- The parts of a struct that is compared, cell by cell. -/
def kdOf (P : Program) (t : TypeId) : Option Kd := match P.underlying t with
  | some .string => some .s
  | some .bool => some .b
  | some (.int k) => some (.i k)
  | _ => none

def kdsOf (P : Program) : List Field → Nat → Option (List Kd)
  | [], _ => some []
  | f :: fs, o => match kdOf P f.type, kdsOf P fs (o + 1) with
    | some k, some r => cond (Nat.beq f.offset o && !(f.name == "_")) (some (k :: r)) none
    | _, _ => none

theorem ceq_fe {E : En} {x y : AC} {b c : Bool} {k : Kd} {f : Field} {fs : List Field} {xs ys : Array Value} {u v : Value} (hk : kdOf P f.type = some k) (hn : f.name ≠ "_") (h : ceq k x y = some b) (hx : x.v E u) (hy : y.v E v) (gx : xs[f.offset]? = some u) (gy : ys[f.offset]? = some v) (hf : FE P xs ys fs c) : FE P xs ys (f :: fs) (b && c) := by
  unfold ceq at h
  unfold kdOf at hk
  split at h
  · rename_i a a'
    have hd : P.underlying f.type = some .string := by
      split at hk <;> first | assumption | (cases hk; done) | (injection hk with hk; cases hk; done)
    injection h with h; subst h
    rw [leqL_eq]
    obtain ⟨rfl, q1⟩ := hx
    obtain ⟨rfl, q2⟩ := hy
    have := fe_str hn hd gx gy hf
    have e : decide (a = a') = decide (a.map UInt8.ofNat = a'.map UInt8.ofNat) := by
      rw [decide_eq_decide]; exact (map_u8_inj q1 q2).symm
    rw [e]; exact this
  · rename_i kk j a j' a'
    have hd : P.underlying f.type = some (.int kk) := by
      split at hk <;> first | (cases hk; assumption) | (cases hk; done)
    cases hb : (decide (j = kk) && decide (j' = kk)) with
    | false => rw [hb] at h; cases h
    | true =>
      rw [hb] at h
      injection h with h; subst h
      simp only [Bool.and_eq_true, decide_eq_true_eq] at hb
      obtain ⟨rfl, rfl⟩ := hb
      rw [ieq_eq]
      cases hx; cases hy
      exact fe_int hn hd gx gy hf
  · rename_i a a'
    have hd : P.underlying f.type = some .bool := by
      split at hk <;> first | assumption | (cases hk; done) | (injection hk with hk; cases hk; done)
    injection h with h; subst h
    cases hx; cases hy
    have := fe_bool hn hd gx gy hf
    have e : (a == a') = decide (a = a') := by cases a <;> cases a' <;> rfl
    rw [e]; exact this
  · cases h

theorem ceqs_fe {E : En} {xs ys : List Value} : ∀ {fs : List Field} {o : Nat} {ks : List Kd} {l r : List AC} {b : Bool}, kdsOf P fs o = some ks → ceqs ks l r = some b → ACs E l (xs.drop o) → ACs E r (ys.drop o) → FE P xs.toArray ys.toArray fs b
  | [], o, ks, l, r, b, hk, h, _, _ => by
    injection hk with hk; subst hk
    replace h : (match (generalizing := false) l, r with | [], [] => some true | _, _ => none) = some b := h
    split at h
    · injection h with h; subst h; exact fe_nil _ _
    · cases h
  | f :: fs, o, ks, l, r, b, hk, h, hl, hr => by
    unfold kdsOf at hk
    split at hk
    · rename_i k ks' h1 h2
      cases hc : (Nat.beq f.offset o && !(f.name == "_")) with
      | false => rw [hc] at hk; cases hk
      | true =>
        rw [hc] at hk
        injection hk with hk; subst hk
        simp only [Bool.and_eq_true, Bool.not_eq_true', beq_eq_false_iff_ne] at hc
        obtain ⟨ho, hn⟩ := hc
        have ho := Nat.eq_of_beq_eq_true ho
        replace h : (match (generalizing := false) l, r with
          | x :: l', y :: r' => (match ceq k x y with
            | some true => ceqs ks' l' r'
            | some false => (match ceqs ks' l' r' with | some _ => some false | none => none)
            | none => none)
          | _, _ => none) = some b := h
        split at h
        · rename_i x l' y r'
          cases hxs : xs.drop o with
          | nil => rw [hxs] at hl; cases hl
          | cons u xs' =>
            cases hys : ys.drop o with
            | nil => rw [hys] at hr; cases hr
            | cons v ys' =>
              rw [hxs] at hl; rw [hys] at hr
              cases hl with
              | cons hx hl =>
                cases hr with
                | cons hy hr =>
                  have gx : xs.toArray[f.offset]? = some u := by
                    have := congrArg (fun q : List Value => q[0]?) hxs
                    simpa [ho] using this
                  have gy : ys.toArray[f.offset]? = some v := by
                    have := congrArg (fun q : List Value => q[0]?) hys
                    simpa [ho] using this
                  have e1 : xs' = xs.drop (o + 1) := by
                    have := congrArg List.tail hxs
                    simpa using this.symm
                  have e2 : ys' = ys.drop (o + 1) := by
                    have := congrArg List.tail hys
                    simpa using this.symm
                  subst e1; subst e2
                  split at h
                  · rename_i hc
                    have := ceqs_fe h2 h hl hr
                    have := ceq_fe h1 hn hc hx hy gx gy this
                    simpa using this
                  · rename_i hc
                    split at h
                    · rename_i b' hb'
                      injection h with h; subst h
                      have := ceqs_fe h2 hb' hl hr
                      have := ceq_fe h1 hn hc hx hy gx gy this
                      simpa using this
                    · cases h
                  · cases h
        · cases h
    · cases hk

theorem V_aeq {neg : Bool} {t yt : TypeId} {x y : Operand} {x' y' : X} {ks : List Kd} (hg : P.eqGuardType P.depth t = false) (ht : P.underlying t = some (.struct (P.fieldsOf t))) (hp : P.stoodInHeld t = false) (hk : kdsOf P (P.fieldsOf t).toList 0 = some ks) (hx : XR G x x') (hy : XR G y y') :
    OpV P G ⟨dst, .binOp (cond neg .neq .eql) t x y yt, ty, pos, after, guard⟩ (.aeq neg ks x' y') := by
  intro E H w0 w a L run v H' hG hH hF h
  replace h : (match evX L x', evX L y' with | some (.a l), some (.a r) => (match ceqs ks l r with | some b => val H (bV (b != neg)) | none => none) | _, _ => none) = some (v, H') := h
  split at h
  · rename_i l r h1 h2
    split at h
    · rename_i b h3
      obtain ⟨h4, h5⟩ := val_eq h
      obtain ⟨xs, e1, e2⟩ := hx hG hF h1
      obtain ⟨ys, e3, e4⟩ := hy hG hF h2
      have hfe := ceqs_fe hk h3 (by simpa using e2) (by simpa using e4)
      have he : EqA P t xs.toArray ys.toArray b := EqA.of hg ht hp rfl hfe rfl
      refine ⟨h5, ?_⟩
      cases neg with
      | false => exact ⟨_, r_aeql e1 e3 he, bV_v h4 (by simp)⟩
      | true => exact ⟨_, r_aneq e1 e3 he, bV_v h4 (by cases b <;> rfl)⟩
    · cases h
  · cases h

end

end Ev
end

section
namespace Ev

set_option autoImplicit false

noncomputable section

def cC : Value → Option AC
  | .bool b => some (.b b)
  | .int k n => some (.i k n)
  | .string s => some (.s (s.data.toList.map UInt8.toNat))
  | .pointer none => some (.p none)
  | .slice none 0 0 => some (.sl none 0 0 0)
  | .map none => some (.m none)
  | .nilFunc => some .nf
  | .nilIface => some .ni
  | _ => none

def cCs (l : List Value) : Option (List AC) := List.rec (some []) (fun v _ ih => match cC v, ih with | some x, some r => some (x :: r) | _, _ => none) l

def cV : Value → Option AV
  | .agg cs => (cCs cs.toList).map .a
  | v => (cC v).map .c

def cX (G : Nat) : Operand → Option X
  | .tmp t => some (.t t)
  | .const v => (cV v).map .c
  | .global g => cond (Nat.blt g G) (some (.c (.c (.p (some (g, 0)))))) none
  | .func f => some (.c (.c (.f f [])))

def cXo (G : Nat) : Option Operand → Option (Option X)
  | none => some none
  | some o => (cX G o).map some

def cXs (G : Nat) (l : List Operand) : Option (List X) := List.rec (some []) (fun o _ ih => match cX G o, ih with | some x, some r => some (x :: r) | _, _ => none) l

def cPs (G : Nat) (place : Nat → Option (Nat × Nat)) (l : List (Nat × Operand)) : Option (List (Nat × Nat × X)) := List.rec (some []) (fun p _ ih => match place p.1, cX G p.2, ih with | some q, some x, some r => some ((q.1, q.2, x) :: r) | _, _, _ => none) l

theorem cC_v {v : Value} {x : AC} (h : cC v = some x) (E : En) : x.v E v := by
  unfold cC at h
  split at h <;> first | (injection h with h; subst h; first | rfl | exact ⟨rfl, rfl, rfl⟩) | cases h
  rename_i s
  refine ⟨?_, fun n hn => ?_⟩
  · have e : (s.data.toList.map UInt8.toNat).map UInt8.ofNat = s.data.toList := by
      rw [List.map_map]
      conv => rhs; rw [← List.map_id s.data.toList]
      apply List.map_congr_left
      intro b _
      simp
    rw [e]
    show Value.string s = .string ⟨s.data.toList.toArray⟩
    rw [Array.toArray_toList]
  · obtain ⟨b, _, rfl⟩ := List.mem_map.1 hn
    exact b.toNat_lt

theorem cCs_v : ∀ {l : List Value} {xs : List AC}, cCs l = some xs → ∀ E : En, ACs E xs l
  | [], xs, h, E => by injection h with h; subst h; exact .nil
  | v :: l, xs, h, E => by
    replace h : (match cC v, cCs l with | some x, some r => some (x :: r) | _, _ => none) = some xs := h
    split at h
    · rename_i x r h1 h2
      injection h with h; subst h
      exact .cons (cC_v h1 E) (cCs_v h2 E)
    · cases h

theorem cV_v {v : Value} {x : AV} (h : cV v = some x) (E : En) : x.v E v := by
  unfold cV at h
  split at h
  · rename_i cs
    obtain ⟨l, h1, rfl⟩ := Option.map_eq_some_iff.1 h
    exact ⟨cs.toList, by rw [Array.toArray_toList], cCs_v h1 E⟩
  · obtain ⟨y, h1, rfl⟩ := Option.map_eq_some_iff.1 h
    exact cC_v h1 E

theorem cX_ok {G : Nat} {o : Operand} {x : X} (h : cX G o = some x) : XR G o x := by
  unfold cX at h
  split at h
  · injection h with h; subst h; exact XR.tmp G _
  · obtain ⟨y, h1, rfl⟩ := Option.map_eq_some_iff.1 h
    exact XR.const (cV_v h1)
  · rename_i g
    cases hb : Nat.blt g G with
    | false => rw [hb] at h; cases h
    | true =>
      rw [hb] at h; injection h with h; subst h
      exact XR.global (by simpa [Nat.blt_eq] using hb)
  · injection h with h; subst h; exact XR.func G _

theorem cXo_ok {G : Nat} {o : Option Operand} {x : Option X} (h : cXo G o = some x) : XRo G o x := by
  cases o with
  | none => injection h with h; subst h; trivial
  | some o =>
    obtain ⟨y, h1, rfl⟩ := Option.map_eq_some_iff.1 (h : (cX G o).map some = some x)
    exact cX_ok h1

theorem cXs_ok {G : Nat} : ∀ {l : List Operand} {xs : List X}, cXs G l = some xs → All2 (XR G) l xs
  | [], xs, h => by injection h with h; subst h; exact .nil
  | o :: l, xs, h => by
    replace h : (match cX G o, cXs G l with | some x, some r => some (x :: r) | _, _ => none) = some xs := h
    split at h
    · rename_i x r h1 h2
      injection h with h; subst h
      exact .cons (cX_ok h1) (cXs_ok h2)
    · cases h

theorem cPs_ok {G : Nat} {place : Nat → Option (Nat × Nat)} : ∀ {l : List (Nat × Operand)} {qs : List (Nat × Nat × X)}, cPs G place l = some qs → All2 (PsR G place) l qs
  | [], qs, h => by injection h with h; subst h; exact .nil
  | p :: l, qs, h => by
    replace h : (match place p.1, cX G p.2, cPs G place l with | some q, some x, some r => some ((q.1, q.2, x) :: r) | _, _, _ => none) = some qs := h
    split at h
    · rename_i q x r h1 h2 h3
      injection h with h; subst h
      exact .cons ⟨h1, cX_ok h2⟩ (cPs_ok h3)
    · cases h

section

variable (P : Program)

/-- Zero, cells, bytes. -/
def tiE (t : TypeId) : Option (Value × Nat × Nat) := match P.info? t with
  | some i => (match i.zero with | some z => some (z, i.size, i.bytes) | none => none)
  | none => none

/-- Zero as cells, their count, bytes. -/
def zcE (t : TypeId) : Option (List AC × Nat × Nat) := match tiE P t with
  | some (z, n, b) => (match cCs z.cells.toList with | some l => cond (Nat.beq l.length n) (some (l, n, b)) none | none => none)
  | none => none

def isU8 (t : TypeId) : Bool := match P.underlying t with
  | some (.int .u8) => true
  | _ => false

end

section

variable {P : Program}

theorem tiE_ok {t : TypeId} {z : Value} {n b : Nat} (h : tiE P t = some (z, n, b)) : TI P t z n b := by
  unfold tiE at h
  split at h
  · rename_i i hi
    split at h
    · rename_i z' hz
      injection h with h; injection h with h1 h; injection h with h2 h3
      exact ⟨i, hi, by rw [hz, h1], h2, h3⟩
    · cases h
  · cases h

theorem zcE_ok {t : TypeId} {l : List AC} {n b : Nat} (h : zcE P t = some (l, n, b)) : ∃ z, TI P t z n b ∧ (∀ E, ∃ cs : List Value, z.cells = cs.toArray ∧ ACs E l cs) ∧ l.length = n ∧ z.cells.size = n := by
  unfold zcE at h
  split at h
  · rename_i z n' b' h1
    split at h
    · rename_i l' h2
      cases hb : Nat.beq l'.length n' with
      | false => rw [hb] at h; cases h
      | true =>
        rw [hb] at h
        injection h with h; injection h with e1 h; injection h with e2 e3
        subst e1; subst e2; subst e3
        have hl := Nat.eq_of_beq_eq_true hb
        have hv := cCs_v h2
        refine ⟨z, tiE_ok h1, fun E => ⟨z.cells.toList, by rw [Array.toArray_toList], hv E⟩, hl, ?_⟩
        have := All2.length (hv fun _ => none)
        rw [Array.length_toList] at this
        rw [this, hl]
    · cases h
  · cases h

theorem isU8_ok {t : TypeId} (h : isU8 P t = true) : P.underlying t = some (.int .u8) := by
  unfold isU8 at h
  split at h
  · assumption
  · cases h

end

/-- An operation is as it is reckoned. -/
structure OK (P : Program) (G : Nat) (o : Oper) (i : I) : Prop where
  v : kindI i ≤ 1 → OpV P G o i
  a : kindI i = 2 → OpA P G o i
  s : OpS P G o i

section

variable {P : Program} {G : Nat} {o : Oper} {i : I}

theorem OK.ofV (h : OpV P G o i) (hk : kindI i ≠ 2) : OK P G o i := ⟨fun _ => h, fun k => absurd k hk, h.s⟩

theorem OK.ofA (h : OpA P G o i) (hk : ¬ kindI i ≤ 1) : OK P G o i := ⟨fun k => absurd k hk, fun _ => h, h.s⟩

theorem OK.ofS (h : OpS P G o i) (hk : kindI i = 3) : OK P G o i := ⟨fun k => absurd k (by omega), fun k => absurd k (by omega), h⟩

theorem OK.bad (o : Oper) : OK P G o .bad := .ofS (fun _ _ _ _ h => by cases h) rfl

end

section

variable (P : Program) (G : Nat)

def cBin (op : BinOp) (t : TypeId) (x y : X) : Option I := match P.underlying t with
  | some (.int _) => some (.bin op x y)
  | some .string => some (.bin op x y)
  | some .bool => (match op with | .eql => some (.bq false x y) | .neq => some (.bq true x y) | _ => none)
  | some (.pointer e) => (match tiE P e with
    | some (_, n, _) => cond (Nat.beq n 0) none (match op with | .eql => some (.pq false x y) | .neq => some (.pq true x y) | _ => none)
    | none => none)
  | some (.slice _) => (match op with | .eql => some (.sq false x y) | .neq => some (.sq true x y) | _ => none)
  | some (.struct fs) => cond (P.eqGuardType P.depth t || P.stoodInHeld t) none (match kdsOf P fs.toList 0 with
    | some ks => (match op with | .eql => some (.aeq false ks x y) | .neq => some (.aeq true ks x y) | _ => none)
    | none => none)
  | _ => none

def cUn (op : UnOp) (x : X) : Option I := match op with
  | .not => some (.un .not x)
  | .neg => some (.un .neg x)
  | .xor => some (.un .xor x)
  | .plus => none

def cConv (s d : TypeId) (x : X) : Option I := match P.underlying s, P.underlying d with
  | some (.int _), some (.int k) => some (.cv k x)
  | some (.slice e), some .string => cond (isU8 P e) (some (.b2s x)) none
  | some .string, some (.slice e) => cond (isU8 P e) (some (.s2b e x)) none
  | _, _ => none

def cLoad (t : TypeId) (x : X) : Option I := match P.underlying t with
  | some d => cond (notAgg d) (some (.ld 1 false x)) (match tiE P t with | some (_, n, _) => some (.ld n true x) | none => none)
  | none => none

def cFa (s : TypeId) (i : Nat) (x : X) : Option I := match P.underlying s with
  | some (.struct fs) => (match fs[i]? with
    | some f => (match tiE P f.type with | some (_, n, _) => cond (Nat.beq n 0) none (some (.fa f.offset x)) | none => none)
    | none => none)
  | _ => none

def cFd (s : TypeId) (i : Nat) (x : X) : Option I := match P.underlying s with
  | some (.struct fs) => (match fs[i]? with
    | some f => (match P.underlying f.type with | some d => cond (notAgg d) (some (.fd f.offset 1 false x)) none | none => none)
    | none => none)
  | _ => none

def cIa (t : TypeId) (x y : X) : Option I := match P.underlying t with
  | some (.slice e) => (match tiE P e with | some (_, n, _) => some (.ia n x y) | none => none)
  | some (.array k e) => (match tiE P e with | some (_, n, _) => some (.ip n k x y) | none => none)
  | _ => none

def cIx (t : TypeId) (x y : X) : Option I := match P.underlying t with
  | some .string => some (.sx x y)
  | some (.array k e) => (match P.underlying e, tiE P e with
    | some d, some (_, 1, _) => cond (notAgg d) (some (.ix k 1 false x y)) none
    | _, _ => none)
  | _ => none

def cSl (t : TypeId) (x : X) (lo hi : Option X) (mx : Option Operand) (mx' : Option X) : Option I := match P.underlying t with
  | some .string => (match mx with | none => some (.sls x lo hi) | some _ => none)
  | some (.slice e) => (match tiE P e with | some (_, n, _) => cond (mx'.isSome && hi.isNone) none (some (.slc n x lo hi mx')) | none => none)
  | _ => none

def cMks (t : TypeId) (x y : X) : Option I := match P.underlying t with
  | some (.slice e) => (match zcE P e with | some (l, n, b) => cond (Nat.ble b 1048576 && Nat.ble n 256 && Nat.blt 0 n) (some (.mks e n l x y)) none | none => none)
  | _ => none

def placeE (t : TypeId) : Option (Nat → Option (Nat × Nat)) := match P.underlying t with
  | some (.struct fs) => (fs.toList.mapM fun (f : Field) => (P.info? f.type).map fun i => (f.offset, i.size)).map fun pl => (pl.toArray[·]?)
  | some (.array _ e) => (P.info? e).map fun ie i => some (i * ie.size, ie.size)
  | _ => none

def cBld (t : TypeId) (ps : List (Nat × Operand)) : Option I := match placeE P t, zcE P t with
  | some place, some (l, _, _) => (cPs G place ps).map (.bld l)
  | _, _ => none

def cBsl (t : TypeId) (n : Nat) (ps : List (Nat × Operand)) : Option I := match P.underlying t with
  | some (.slice e) => (match n, ps with
    | 0, [] => (match tiE P e with | some (_, _, _) => some (.bsl e 1 0 [] []) | none => none)
    | n, ps => (match zcE P e with
      | some (l, s, _) => cond (Nat.blt 0 s && Nat.blt 0 n && Nat.ble (n * s) 16777216) ((cPs G (fun i => some (i * s, s)) ps).map (.bsl e s n (repl l n))) none
      | none => none))
  | _ => none

end

section

variable {P : Program} {G : Nat} {dst : Option Nat} {ty : TypeId} {pos : String} {after : Array Edge} {guard : Option (Nat × Bool)}

theorem cBin_ok {op : BinOp} {t yt : TypeId} {x y : Operand} {x' y' : X} {i : I} (hx : XR G x x') (hy : XR G y y') (h : cBin P op t x' y' = some i) : OK P G ⟨dst, .binOp op t x y yt, ty, pos, after, guard⟩ i := by
  unfold cBin at h
  split at h
  · injection h with h; subst h; exact .ofV (V_bin hx hy) (by simp [kindI])
  · injection h with h; subst h; exact .ofV (V_bin hx hy) (by simp [kindI])
  · rename_i ht
    split at h
    · injection h with h; subst h; exact .ofV (V_bq (neg := false) ht hx hy) (by simp [kindI])
    · injection h with h; subst h; exact .ofV (V_bq (neg := true) ht hx hy) (by simp [kindI])
    · cases h
  · rename_i e ht
    have hp : P.pointee t = e := by simp [Program.pointee, ht]
    split at h
    · rename_i z n b h1
      cases hb : Nat.beq n 0 with
      | true => rw [hb] at h; cases h
      | false =>
        rw [hb] at h
        replace h : (match (generalizing := false) op with | .eql => some (I.pq false x' y') | .neq => some (.pq true x' y') | _ => none) = some i := h
        have h0 : n ≠ 0 := fun e => by subst e; cases hb
        have hti := tiE_ok h1
        subst hp
        split at h
        · injection h with h; subst h; exact .ofV (V_pq (neg := false) ht hti h0 hx hy) (by simp [kindI])
        · injection h with h; subst h; exact .ofV (V_pq (neg := true) ht hti h0 hx hy) (by simp [kindI])
        · cases h
    · cases h
  · rename_i e ht
    split at h
    · injection h with h; subst h; exact .ofV (V_sq (neg := false) ht hx hy) (by simp [kindI])
    · injection h with h; subst h; exact .ofV (V_sq (neg := true) ht hx hy) (by simp [kindI])
    · cases h
  · rename_i fs ht
    have hf : P.fieldsOf t = fs := by simp [Program.fieldsOf, ht]
    cases hb : (P.eqGuardType P.depth t || P.stoodInHeld t) with
    | true => rw [hb] at h; cases h
    | false =>
      rw [hb] at h
      simp only [Bool.or_eq_false_iff] at hb
      replace h : (match kdsOf P fs.toList 0 with
        | some ks => (match (generalizing := false) op with | .eql => some (I.aeq false ks x' y') | .neq => some (.aeq true ks x' y') | _ => none)
        | none => none) = some i := h
      split at h
      · rename_i ks hk
        subst hf
        split at h
        · injection h with h; subst h; exact .ofV (V_aeq (neg := false) hb.1 ht hb.2 hk hx hy) (by simp [kindI])
        · injection h with h; subst h; exact .ofV (V_aeq (neg := true) hb.1 ht hb.2 hk hx hy) (by simp [kindI])
        · cases h
      · cases h
  · cases h

theorem cUn_ok {op : UnOp} {t : TypeId} {x : Operand} {x' : X} {i : I} (hx : XR G x x') (h : cUn op x' = some i) : OK P G ⟨dst, .unOp op t x, ty, pos, after, guard⟩ i := by
  unfold cUn at h
  split at h
  · injection h with h; subst h; exact .ofV (V_not hx) (by simp [kindI])
  · injection h with h; subst h; exact .ofV (V_neg hx) (by simp [kindI])
  · injection h with h; subst h; exact .ofV (V_cpl hx) (by simp [kindI])
  · cases h

theorem cond_some {α : Type} {b : Bool} {x y : α} (h : cond b (some x) none = some y) : b = true ∧ x = y := by
  cases b with
  | true => injection h with h; exact ⟨rfl, h⟩
  | false => cases h

theorem cond_none {α : Type} {b : Bool} {x y : α} (h : cond b none (some x) = some y) : b = false ∧ x = y := by
  cases b with
  | false => injection h with h; exact ⟨rfl, h⟩
  | true => cases h

theorem cConv_ok {s d : TypeId} {x : Operand} {x' : X} {i : I} (hx : XR G x x') (h : cConv P s d x' = some i) : OK P G ⟨dst, .convert s d x, ty, pos, after, guard⟩ i := by
  unfold cConv at h
  split at h
  · rename_i h1 h2
    injection h with h; subst h
    exact .ofV (V_conv (by rw [h1]; rfl) h2 hx) (by simp [kindI])
  · rename_i e h1 h2
    obtain ⟨hb, rfl⟩ := cond_some h
    exact .ofV (V_b2s h1 (isU8_ok hb) h2 hx) (by simp [kindI])
  · rename_i e h1 h2
    obtain ⟨hb, rfl⟩ := cond_some h
    exact .ofA (A_s2b h1 h2 (isU8_ok hb) hx) (by simp [kindI])
  · cases h

theorem cLoad_ok {t : TypeId} {x : Operand} {x' : X} {i : I} (hx : XR G x x') (h : cLoad P t x' = some i) : OK P G ⟨dst, .load t x, ty, pos, after, guard⟩ i := by
  unfold cLoad at h
  split at h
  · rename_i d hd
    cases hb : notAgg d with
    | true => rw [hb] at h; injection h with h; subst h; exact .ofV (V_load1 hd hb hx) (by simp [kindI])
    | false =>
      rw [hb] at h
      replace h : (match tiE P t with | some (_, n, _) => some (I.ld n true x') | none => none) = some i := h
      split at h
      · rename_i h1
        injection h with h; subst h
        exact .ofV (V_loadN hd hb (tiE_ok h1) hx) (by simp [kindI])
      · cases h
  · cases h

theorem beq_ne {n m : Nat} (h : Nat.beq n m = false) : n ≠ m := fun e => by subst e; rw [Nat.beq_refl] at h; cases h

theorem cFa_ok {s : TypeId} {j : Nat} {x : Operand} {x' : X} {i : I} (hx : XR G x x') (h : cFa P s j x' = some i) : OK P G ⟨dst, .fieldAddr s x j, ty, pos, after, guard⟩ i := by
  unfold cFa at h
  split at h
  · rename_i fs hu
    split at h
    · rename_i f hf
      split at h
      · rename_i z n b h1
        obtain ⟨hb, rfl⟩ := cond_none h
        exact .ofV (V_fieldAddr hu hf (tiE_ok h1) (beq_ne hb) rfl hx) (by simp [kindI])
      · cases h
    · cases h
  · cases h

theorem cFd_ok {s : TypeId} {j : Nat} {x : Operand} {x' : X} {i : I} (hx : XR G x x') (h : cFd P s j x' = some i) : OK P G ⟨dst, .field s x j, ty, pos, after, guard⟩ i := by
  unfold cFd at h
  split at h
  · rename_i fs hu
    split at h
    · rename_i f hf
      split at h
      · rename_i d hd
        obtain ⟨hb, rfl⟩ := cond_some h
        exact .ofV (V_field hu hf hd hb rfl hx) (by simp [kindI])
      · cases h
    · cases h
  · cases h

theorem cIa_ok {t : TypeId} {x y : Operand} {x' y' : X} {i : I} (hx : XR G x x') (hy : XR G y y') (h : cIa P t x' y' = some i) : OK P G ⟨dst, .indexAddr t x y, ty, pos, after, guard⟩ i := by
  unfold cIa at h
  split at h
  · rename_i e hu
    split at h
    · rename_i h1
      injection h with h; subst h
      exact .ofV (V_indexAddr hu (tiE_ok h1) hx hy) (by simp [kindI])
    · cases h
  · rename_i k e hu
    split at h
    · rename_i h1
      injection h with h; subst h
      exact .ofV (V_indexAddrA hu (tiE_ok h1) hx hy) (by simp [kindI])
    · cases h
  · cases h

theorem cIx_ok {t : TypeId} {x y : Operand} {x' y' : X} {i : I} (hx : XR G x x') (hy : XR G y y') (h : cIx P t x' y' = some i) : OK P G ⟨dst, .index t x y, ty, pos, after, guard⟩ i := by
  unfold cIx at h
  split at h
  · rename_i hu
    injection h with h; subst h
    exact .ofV (V_sindex (es := 0) (g := false) hu hx hy) (by simp [kindI])
  · rename_i k e hu
    split at h
    · rename_i d z b h1 h2
      obtain ⟨hb, rfl⟩ := cond_some h
      exact .ofV (V_aindex hu h1 hb (tiE_ok h2) hx hy) (by simp [kindI])
    · cases h
  · cases h

theorem cSl_ok {t : TypeId} {x : Operand} {x' : X} {lo hi mx : Option Operand} {lo' hi' mx' : Option X} {i : I} (hx : XR G x x') (hl : XRo G lo lo') (hh : XRo G hi hi') (hm : XRo G mx mx') (h : cSl P t x' lo' hi' mx mx' = some i) : OK P G ⟨dst, .slice t x lo hi mx, ty, pos, after, guard⟩ i := by
  unfold cSl at h
  split at h
  · rename_i hu
    split at h
    · injection h with h; subst h
      exact .ofV (V_sls hu hx hl hh) (by simp [kindI])
    · cases h
  · rename_i e hu
    split at h
    · rename_i h1
      obtain ⟨hb, rfl⟩ := cond_none h
      refine .ofV (V_slc hu (tiE_ok h1) (fun hs => ?_) hx hl hh hm) (by simp [kindI])
      cases mx with
      | none => cases hs
      | some m =>
        cases mx' with
        | none => exact hm.elim
        | some m' =>
          cases hi with
          | some _ => rfl
          | none =>
            cases hi' with
            | none => cases hb
            | some _ => exact hh.elim
    · cases h
  · cases h

theorem cMks_ok {t : TypeId} {x y : Operand} {x' y' : X} {i : I} (hx : XR G x x') (hy : XR G y y') (h : cMks P t x' y' = some i) : OK P G ⟨dst, .makeSlice t x y, ty, pos, after, guard⟩ i := by
  unfold cMks at h
  split at h
  · rename_i e hu
    split at h
    · rename_i l n b h1
      obtain ⟨hb, rfl⟩ := cond_some h
      simp only [Bool.and_eq_true, Nat.ble_eq, Nat.blt_eq] at hb
      obtain ⟨z, z1, z2, z3, _⟩ := zcE_ok h1
      exact .ofA (A_mks hu z1 z2 z3 hb.1.1 hb.1.2 hb.2 hx hy) (by simp [kindI])
    · cases h
  · cases h

theorem cBld_ok {t : TypeId} {ps : List (Nat × Operand)} {i : I} (h : cBld P G t ps = some i) : OK P G ⟨dst, .build t ps.toArray, ty, pos, after, guard⟩ i := by
  unfold cBld at h
  split at h
  · rename_i place l n b h1 h2
    obtain ⟨qs, h3, rfl⟩ := Option.map_eq_some_iff.1 h
    obtain ⟨z, ⟨it, hi, hz0, _, _⟩, z2, z3, _⟩ := zcE_ok h2
    refine .ofV (V_bld (z := z) (fun vs => ?_) z2 (cPs_ok h3)) (by simp [kindI])
    unfold placeE at h1
    unfold Program.built
    rw [hi]
    split at h1
    · rename_i fs hu
      rw [hu]
      obtain ⟨pl, h4, rfl⟩ := Option.map_eq_some_iff.1 h1
      simp only [hz0, h4]
    · rename_i k e hu
      rw [hu]
      obtain ⟨ie, h4, rfl⟩ := Option.map_eq_some_iff.1 h1
      simp only [hz0, h4]
    · cases h1
  · cases h

theorem cBsl_ok {t : TypeId} {n : Nat} {ps : List (Nat × Operand)} {i : I} (h : cBsl P G t n ps = some i) : OK P G ⟨dst, .buildSlice t n ps.toArray, ty, pos, after, guard⟩ i := by
  unfold cBsl at h
  split at h
  · rename_i e hu
    split at h
    · split at h
      · rename_i h1
        injection h with h; subst h
        exact .ofA (A_bsl0 hu (tiE_ok h1)) (by simp [kindI])
      · cases h
    · split at h
      · rename_i l s b h1
        cases hb : (Nat.blt 0 s && Nat.blt 0 n && Nat.ble (n * s) 16777216) with
        | false => rw [hb] at h; cases h
        | true =>
          rw [hb] at h
          obtain ⟨qs, h3, rfl⟩ := Option.map_eq_some_iff.1 h
          simp only [Bool.and_eq_true, Nat.ble_eq, Nat.blt_eq] at hb
          obtain ⟨z, z1, z2, z3, _⟩ := zcE_ok h1
          exact .ofA (A_bsl hu z1 z2 z3 hb.1.1 hb.2 hb.1.2 (cPs_ok h3)) (by simp [kindI])
      · cases h
  · cases h

end

end

end Ev
end

section
namespace Ev

set_option autoImplicit false

section

variable {E : En} {H : AH} {w0 w : World}

theorem HR.setMap (h : HR E H w0 w) {b B S cl cl' : Nat} {es es' : List (List AC × AC × Nat)} {ms' : List MapEntry} (hg : H.get b = some (.map es cl)) (he : E b = some (B, S)) (hm : All2 (entR E) es' ms') :
    HR E (H.set b (.map es' cl')) w0 { w with heap := w.heap.setIfInBounds B (.map ms'.toArray cl') } := by
  obtain ⟨hB, ms, hb, _⟩ := h.mp b es cl B S hg he
  have hlt := (Array.getElem?_eq_some_iff.1 hb).1
  have hc : Chg [B] w { w with heap := w.heap.setIfInBounds B (.map ms'.toArray cl') } := ⟨rfl, rfl, rfl, by simp, fun i _ hi => by simp [Ne.symm (show i ≠ B by simpa using hi)]⟩
  have hch : Ext w0 { w with heap := w.heap.setIfInBounds B (.map ms'.toArray cl') } := Chg.fresh h.ch hc (by simpa using hB)
  have keep : ∀ {B' : Nat} {o : Obj}, B' ≠ B → w.heap[B']? = some o → (w.heap.setIfInBounds B (.map ms'.toArray cl'))[B']? = some o := fun hne hb' => by
    rw [Array.getElem?_setIfInBounds_ne (Ne.symm hne)]; exact hb'
  have hget : ∀ x, (H.set b (.map es' cl')).get x = if x = b then some (.map es' cl') else H.get x := fun x => AH.get_set _ _ _ _
  have hatx : ∀ x, x ≠ b → (H.set b (.map es' cl')).at x = H.at x := fun x hx => by unfold AH.at; rw [hget, if_neg hx]; rfl
  have hatb : (H.set b (.map es' cl')).at b = none := by unfold AH.at; rw [hget, if_pos rfl]
  have hbn : H.at b = none := by unfold AH.at; rw [hg]
  have hlv : ∀ x, live (H.set b (.map es' cl')) x → live H x := fun x hl => by
    by_cases hx : x = b
    · subst hx; exact .inr ⟨es, cl, hg⟩
    · rcases hl with hl | ⟨es2, c2, hl⟩
      · rw [hatx x hx] at hl; exact .inl hl
      · rw [hget, if_neg hx] at hl; exact .inr ⟨es2, c2, hl⟩
  have hap : ∀ {x : Nat} {p : Nat × Nat}, x ≠ b → E x = some p → live H x → p.1 ≠ B := fun {x p} hx hp hl e => by
    obtain ⟨f, e', T1, c1, T2, c2, h1, _⟩ := h.inj b x B S p.2 (Ne.symm hx) he (by rw [hp, ← e]) (.inr ⟨es, cl, hg⟩) hl
    rw [hbn] at h1; cases h1
  refine ⟨h.wp, hch, h.dom, fun x o hx => ?_, h.fkey, fun x T c f e hx => ?_, fun x T c f e hx => ?_, fun x T c l B1 S1 hx hp => ?_, fun x es1 cl1 B1 S1 hx hp => ?_, fun x y B1 S1 S2 hxy hp hq hl1 hl2 => ?_⟩
  · rw [hget] at hx
    by_cases hxb : x = b
    · subst hxb; exact h.key _ _ hg
    · rw [if_neg hxb] at hx; exact h.key _ _ hx
  · rw [hget] at hx
    by_cases hxb : x = b
    · rw [if_pos hxb] at hx; cases hx
    · rw [if_neg hxb] at hx; exact h.bf x T c f e hx
  · have hxb : x ≠ b := fun e => by subst e; rw [hatb] at hx; cases hx
    rw [hatx x hxb] at hx
    obtain ⟨q, T', c', h1, h2, h3⟩ := h.las x T c f e hx
    have hq : q ≠ b := fun e => by subst e; rw [hbn] at h2; cases h2
    exact ⟨q, T', c', h1, by rw [hatx q hq]; exact h2, h3⟩
  · have hxb : x ≠ b := fun e => by subst e; rw [hatb] at hx; cases hx
    rw [hatx x hxb] at hx
    obtain ⟨C, T', fz, h1, h2⟩ := h.cel x T c l B1 S1 hx hp
    exact ⟨C, T', fz, keep (hap hxb hp (.inl (by rw [hx]; rfl))) h1, h2⟩
  · rw [hget] at hx
    by_cases hxb : x = b
    · subst hxb
      rw [if_pos rfl] at hx; injection hx with hx; injection hx with e1 e2; subst e1; subst e2
      rw [he] at hp; injection hp with hp; injection hp with e1 e2; subst e1
      exact ⟨hB, ms', by simp [hlt], hm⟩
    · rw [if_neg hxb] at hx
      obtain ⟨h0, ms1, h1, h2⟩ := h.mp x es1 cl1 B1 S1 hx hp
      exact ⟨h0, ms1, keep (hap hxb hp (.inr ⟨es1, cl1, hx⟩)) h1, h2⟩
  · obtain ⟨f, e, T, c, T', c', h1, h2⟩ := h.inj x y B1 S1 S2 hxy hp hq (hlv x hl1) (hlv y hl2)
    have hxb : x ≠ b := fun e => by subst e; rw [hbn] at h1; cases h1
    have hyb : y ≠ b := fun e => by subst e; rw [hbn] at h2; cases h2
    exact ⟨f, e, T, c, T', c', by rw [hatx x hxb]; exact h1, by rw [hatx y hyb]; exact h2⟩

theorem map_keeps {b B S cl cl' : Nat} {es es' : List (List AC × AC × Nat)} (_ : H.get b = some (.map es cl)) (he : E b = some (B, S)) : Keeps E H (H.set b (.map es' cl')) :=
  ⟨Nat.le_refl _, fun x _ hx => (AH.get_set _ _ _ _).trans (if_neg fun e => by subst e; rw [he] at hx; cases hx)⟩

end

/-- A map's key is a struct of plain parts. -/
structure MK (P : Program) (t kt et : TypeId) (ks : List Kd) (z : AC) : Prop where
  mu : P.underlying t = some (.map kt et)
  ku : P.underlying kt = some (.struct (P.fieldsOf kt))
  ks : kdsOf P (P.fieldsOf kt).toList 0 = some ks
  hg : P.eqGuardType P.depth kt = false
  hp : P.stoodInHeld kt = false
  zero : ∃ (u : Value) (n b : Nat), TI P et u n b ∧ ∀ E, z.v E u

section

variable {P : Program} {E : En} {w : World}

theorem kdsOf_fields : ∀ {fs : List Field} {o : Nat} {ks : List Kd}, kdsOf P fs o = some ks → ks.length = fs.length ∧ ∀ f ∈ fs, f.name ≠ "_" ∧ f.offset < o + fs.length ∧ ∃ d, P.underlying f.type = some d ∧ (d = .string ∨ d = .bool ∨ ∃ k, d = .int k)
  | [], o, ks, h => by injection h with h; subst h; exact ⟨rfl, fun f hf => by cases hf⟩
  | f :: fs, o, ks, h => by
    unfold kdsOf at h
    split at h
    · rename_i k r h1 h2
      obtain ⟨hb, rfl⟩ := cond_some h
      simp only [Bool.and_eq_true, Bool.not_eq_true', beq_eq_false_iff_ne] at hb
      obtain ⟨i1, i2⟩ := kdsOf_fields h2
      refine ⟨by simp [i1], fun g hg => ?_⟩
      rcases List.mem_cons.1 hg with rfl | hg
      · refine ⟨hb.2, by have := Nat.eq_of_beq_eq_true hb.1; simp; omega, ?_⟩
        unfold kdOf at h1
        split at h1
        · rename_i hd; exact ⟨_, hd, .inl rfl⟩
        · rename_i hd; exact ⟨_, hd, .inr (.inl rfl)⟩
        · rename_i k hd; exact ⟨_, hd, .inr (.inr ⟨k, rfl⟩)⟩
        · cases h1
      · obtain ⟨j1, j2, j3⟩ := i2 g hg
        exact ⟨j1, by simp; omega, j3⟩
    · cases h

theorem key_ok {t kt et : TypeId} {ks : List Kd} {z : AC} (hm : MK P t kt et ks z) (em : Bool) {cs : List Value} (hl : cs.length = ks.length) (n : Nat) : (Instr.checkKey em ((n + 1) + 1) kt (.agg cs.toArray)).run P w = .ok () w := by
  obtain ⟨k1, k2⟩ := kdsOf_fields hm.ks
  rw [Instr.checkKey]
  simp only [Sem.run_bind, run_underlying hm.ku, Result.andThen_ok]
  rw [← Array.forIn_toList]
  have all : ∀ f ∈ (P.fieldsOf kt).toList, f.name ≠ "_" ∧ f.offset < cs.length ∧ ∃ d, P.underlying f.type = some d ∧ (d = .string ∨ d = .bool ∨ ∃ k, d = .int k) := fun f hf => by
    obtain ⟨j1, j2, j3⟩ := k2 f hf
    exact ⟨j1, by omega, j3⟩
  generalize (P.fieldsOf kt).toList = L at all
  induction L with
  | nil => simp
  | cons f L ih =>
    obtain ⟨j1, j2, d, j3, j4⟩ := all f (by simp)
    have hn : notAgg d = true := by rcases j4 with rfl | rfl | ⟨k, rfl⟩ <;> rfl
    have p1 : (part f.type cs.toArray f.offset).run P w = .ok cs[f.offset] w := run_part1 j3 hn (by simp [j2]) w
    have p2 : (Instr.checkKey em (n + 1) f.type cs[f.offset]).run P w = .ok () w := by
      rw [Instr.checkKey]
      simp only [Sem.run_bind, run_underlying j3, Result.andThen_ok]
      rcases j4 with rfl | rfl | ⟨k, rfl⟩ <;> simp
    simp only [List.forIn_cons, Sem.run_bind, j1, ne_eq, not_false_eq_true, if_true, Result.andThen_ok, p1, p2, Sem.run_pure]
    exact ih fun f hf => all f (by simp [hf])

theorem key_ask {t kt et : TypeId} {ks : List Kd} {z : AC} (hm : MK P t kt et ks z) {l : List AC} {cs : List Value} (hk : ACs E l cs) : ∀ {es : List (List AC × AC × Nat)} {ms : List MapEntry} {r : Option (AC × Nat)} (i : Nat), All2 (entR E) es ms → mfind ks es l = some r →
    ∃ q, (Instr.findAsking kt (.agg cs.toArray) ms i).run P w = .ok q w ∧ (match (generalizing := false) r with | none => q = none | some (x, _) => ∃ j u, q = some (j, u) ∧ x.v E u)
  | [], [], r, i, .nil, h => by
    injection h with h; subst h
    exact ⟨none, by simp [Instr.findAsking], rfl⟩
  | e :: es, m :: ms, r, i, .cons he ht, h => by
    replace h : (match ceqs ks l e.1 with
      | some true => some (some e.2)
      | some false => mfind ks es l
      | none => none) = some r := h
    obtain ⟨e1, e2, ys, e3, e4⟩ := he
    have eq : ∀ b, ceqs ks l e.1 = some b → (Op.equal kt (.agg cs.toArray) m.key).run P w = .ok b w := fun b hb => by
      rw [e3]
      have hfe := ceqs_fe hm.ks hb (xs := cs) (ys := ys) (by simpa using hk) (by simpa using e4)
      have := EqA.of hm.hg hm.ku hm.hp rfl hfe rfl
      exact this.2 w
    rw [Instr.findAsking]
    split at h
    · rename_i hb
      injection h with h; subst h
      refine ⟨some (i, m.val), ?_, ?_⟩
      · simp [eq _ hb, Result.andThen]
      · exact ⟨i, m.val, rfl, e2⟩
    · rename_i hb
      obtain ⟨q, q1, q2⟩ := key_ask hm hk (i + 1) ht h
      exact ⟨q, by simp [eq _ hb, q1, Result.andThen], q2⟩
    · cases h

theorem key_find {t kt et : TypeId} {ks : List Kd} {z : AC} (hm : MK P t kt et ks z) {l : List AC} {cs : List Value} (hk : ACs E l cs) {es : List (List AC × AC × Nat)} {ms : List MapEntry} {r : Option (AC × Nat)} (ha : All2 (entR E) es ms) (h : mfind ks es l = some r) :
    ∃ q, (Instr.findKey kt (.agg cs.toArray) ms).run P w = .ok q w ∧ (match (generalizing := false) r with | none => q = none | some (x, _) => ∃ j u, q = some (j, u) ∧ x.v E u) := by
  rw [Instr.findKey]
  simp only [Sem.run_bind, run_underlying hm.ku, Result.andThen_ok]
  cases ms with
  | nil =>
    cases ha
    injection h with h; subst h
    exact ⟨none, by simp [Instr.findNow], rfl⟩
  | cons m ms =>
    have hn : Instr.findNow (.struct (P.fieldsOf kt)) (.agg cs.toArray) (m :: ms) 0 = none := rfl
    rw [hn]
    exact key_ask hm hk 0 ha h

theorem mget_eq {H : AH} {ks : List Kd} {b : Nat} {l : List AC} {r : Option (AC × Nat)} (h : mget ks H b l = some r) : l.length = ks.length ∧ ∃ es c, H.get b = some (.map es c) ∧ mfind ks es l = some r := by
  unfold mget at h
  cases hb : Nat.beq l.length ks.length with
  | false => rw [hb] at h; cases h
  | true =>
    rw [hb] at h
    replace h : (match H.get b with | some (.map es _) => mfind ks es l | _ => none) = some r := h
    split at h
    · rename_i es c hg
      exact ⟨Nat.eq_of_beq_eq_true hb, es, c, hg, h⟩
    · cases h

end

section

variable {P : Program} {ρ : Operand → Value} {w w' : World} {dst : Option Nat} {ty : TypeId} {pos : String} {after : Array Edge} {guard : Option (Nat × Bool)}

theorem r_mapEntry' {t : TypeId} {m k : Operand} {v1 v2 v : Value} (hm : ρ m = v1) (hk : ρ k = v2) (hr : (Instr.mapEntry t v1 v2).run P w = .ok v w') : (execOp ρ ⟨dst, .mapEntry t m k, ty, pos, after, guard⟩).run P w = .ok (.value v) w' := by
  simp [execOp, hm, hk, hr]

theorem r_entryStore' {t : TypeId} {m k x : Operand} {v1 v2 v3 : Value} (hm : ρ m = v1) (hk : ρ k = v2) (hx : ρ x = v3) (hr : (Instr.entryStore t v1 v2 v3).run P w = .ok () w') : (execOp ρ ⟨dst, .entryStore t m k x, ty, pos, after, guard⟩).run P w = .ok .skip w' := by
  simp [execOp, hm, hk, hx, hr]

end

section

variable {P : Program} {G : Nat} {dst : Option Nat} {ty : TypeId} {pos : String} {after : Array Edge} {guard : Option (Nat × Bool)}

theorem run_lookupM {E : En} {w : World} {t kt et B : Nat} {ks : List Kd} {z : AC} (hm : MK P t kt et ks z) (ok : Bool) {l : List AC} {cs : List Value} (hk : ACs E l cs) (hl : l.length = ks.length) {es : List (List AC × AC × Nat)} {ms : List MapEntry} {c : Nat} {r : Option (AC × Nat)} (hb : w.heap[B]? = some (.map ms.toArray c)) (ha : All2 (entR E) es ms) (h : mfind ks es l = some r) :
    ∃ u, (Instr.lookup t (.map (some B)) (.agg cs.toArray) ok).run P w = .ok (if ok = true then .tuple #[u, .bool r.isSome] else u) w ∧ ((r.map (·.1)).getD z).v E u := by
  obtain ⟨q, q1, q2⟩ := key_find (w := w) hm hk ha h
  obtain ⟨zu, zn, zb, z1, z2⟩ := hm.zero
  have hck := key_ok (w := w) hm ms.toArray.isEmpty (cs := cs) (by rw [All2.length hk, hl]) 9998
  cases r with
  | none =>
    have q2 : q = none := q2
    subst q2
    refine ⟨zu, ?_, z2 E⟩
    simp only [Instr.lookup, Sem.run_bind, run_underlying hm.mu, Go.MapKept.run_getObj_map hb, Result.andThen_ok, Sem.run_pure, hck, q1, z1.zeroValue]
    rfl
  | some x =>
    obtain ⟨j, u, q3, q4⟩ : ∃ j u, q = some (j, u) ∧ x.1.v E u := q2
    subst q3
    refine ⟨u, ?_, q4⟩
    simp only [Instr.lookup, Sem.run_bind, run_underlying hm.mu, Go.MapKept.run_getObj_map hb, Result.andThen_ok, Sem.run_pure, hck, q1]
    rfl

theorem V_lkp {t kt et : TypeId} {ks : List Kd} {z : AC} {x y : Operand} {x' y' : X} (hm : MK P t kt et ks z) (hx : XR G x x') (hy : XR G y y') : OpV P G ⟨dst, .lookup t x y false, ty, pos, after, guard⟩ (.lkp ks z x' y') := by
  intro E H w0 w a L run v H' hG hH hF h
  replace h : (match evX L x', evX L y' with | some (.c (.m (some b))), some (.a l) => (match mget ks H b l with | some (some (v, _)) => some (AV.c v, H) | some none => some (.c z, H) | none => none) | _, _ => none) = some (v, H') := h
  split at h
  · rename_i b l h1 h2
    obtain ⟨B, S, e1, e2⟩ := hx hG hF h1
    obtain ⟨cs, g1, g2⟩ := hy hG hF h2
    have go : ∀ r, mget ks H b l = some r → ∃ u, (execOp a.eval ⟨dst, .lookup t x y false, ty, pos, after, guard⟩).run P w = .ok (.value u) w ∧ ((r.map (·.1)).getD z).v E u := fun r hr => by
      obtain ⟨k1, es, c, k2, k3⟩ := mget_eq hr
      obtain ⟨_, ms, m1, m2⟩ := hH.mp b es c B S k2 e1
      obtain ⟨u, u1, u2⟩ := run_lookupM (P := P) (w := w) hm false g2 k1 m1 m2 k3
      exact ⟨u, r_lookup e2 g1 (by simpa using u1), u2⟩
    split at h
    · rename_i v' n hr
      injection h with h; injection h with h3 h4; subst h3
      obtain ⟨u, u1, u2⟩ := go _ hr
      exact ⟨h4.symm, u, u1, u2⟩
    · rename_i hr
      injection h with h; injection h with h3 h4; subst h3
      obtain ⟨u, u1, u2⟩ := go _ hr
      exact ⟨h4.symm, u, u1, u2⟩
    · cases h
  · cases h

theorem S_men {t kt et : TypeId} {ks : List Kd} {z : AC} {x y : Operand} {x' y' : X} (hm : MK P t kt et ks z) (hx : XR G x x') (hy : XR G y y') : OpS P G ⟨dst, .mapEntry t x y, ty, pos, after, guard⟩ (.men ks z x' y') := by
  intro E H w0 w a L run v H' _ hG hH hF h
  replace h : (match evX L x', evX L y' with | some (.c (.m (some b))), some (.a l) => (match H.get b with | some (.map es c) => (match mget ks H b l with | some none => some (AV.t [(false, [z]), (false, [.i .i64 (.ofNat c)])], H.set b (.map (es ++ [(l, z, c)]) (Nat.succ c))) | _ => none) | _ => none) | _, _ => none) = some (v, H') := h
  split at h
  · rename_i b l h1 h2
    obtain ⟨B, S, e1, e2⟩ := hx hG hF h1
    obtain ⟨cs, g1, g2⟩ := hy hG hF h2
    split at h
    · rename_i es c hg
      split at h
      · rename_i hr
        injection h with h; injection h with h3 h4; subst h3; subst h4
        obtain ⟨k1, es', c', k2, k3⟩ := mget_eq hr
        rw [hg] at k2; injection k2 with k2; injection k2 with i1 i2; subst i1; subst i2
        obtain ⟨_, ms, m1, m2⟩ := hH.mp b es c B S hg e1
        obtain ⟨q, q1, q2⟩ := key_find (w := w) hm g2 m2 k3
        have q2 : q = none := q2
        subst q2
        obtain ⟨zu, zn, zb, z1, z2⟩ := hm.zero
        have hck := key_ok (w := w) hm false (cs := cs) (by rw [All2.length g2, k1]) 9998
        have hnew : All2 (entR E) (es ++ [(l, z, c)]) (ms ++ [⟨.agg cs.toArray, zu, c⟩]) := m2.append (All2.cons (show entR E (l, z, c) ⟨.agg cs.toArray, zu, c⟩ from ⟨rfl, z2 E, cs, rfl, g2⟩) .nil)
        refine ⟨map_keeps hg e1, .inl ⟨.tuple #[zu, .int .i64 (c : Int)], { w with heap := w.heap.setIfInBounds B (.map (ms ++ [(⟨.agg cs.toArray, zu, c⟩ : MapEntry)]).toArray (c + 1)) }, r_mapEntry' e2 g1 ?_, E, En.le_refl _, fun _ _ h => .inl h, hH.setMap hg e1 hnew, [zu, .int .i64 (c : Int)], rfl, .cons (show gV E false [z] zu from ⟨z, rfl, z2 E⟩) (.cons (show gV E false [.i .i64 (.ofNat c)] (.int .i64 (c : Int)) from ⟨_, rfl, rfl⟩) .nil)⟩⟩
        simp only [Instr.mapEntry, Sem.run_bind, run_underlying hm.mu, Go.MapKept.run_getObj_map m1, Result.andThen_ok, hck, q1, z1.zeroValue, Go.MapKept.run_setObj_map _ m1, Sem.run_pure]
        simp [goInt]
      · cases h
    · cases h
  · cases h

theorem mset_ok {E : En} {n : Nat} {x : AC} {u : Value} (hu : x.v E u) : ∀ {es es' : List (List AC × AC × Nat)} {ms : List MapEntry}, All2 (entR E) es ms → mset es n x = some es' → ∃ i, ms.findIdx? (fun e => (e.born : Int) == (n : Int)) = some i ∧ All2 (entR E) es' (ms.modify i fun e => { e with val := u })
  | [], es', _, .nil, h => by cases h
  | e :: es, es', m :: ms, .cons he ht, h => by
    replace h : (match Nat.beq e.2.2 n with | true => some ((e.1, x, n) :: es) | false => (match mset es n x with | some r' => some (e :: r') | none => none)) = some es' := h
    obtain ⟨e1, e2, e3⟩ := he
    cases hb : Nat.beq e.2.2 n with
    | true =>
      rw [hb] at h
      injection h with h; subst h
      have hn := Nat.eq_of_beq_eq_true hb
      refine ⟨0, ?_, ?_⟩
      · rw [List.findIdx?_cons]; simp [e1, hn]
      · rw [List.modify_zero_cons]
        exact .cons ⟨by show m.born = n; rw [e1, hn], hu, e3⟩ ht
    | false =>
      rw [hb] at h
      replace h : (match mset es n x with | some r' => some (e :: r') | none => none) = some es' := h
      split at h
      · rename_i r' hr
        injection h with h; subst h
        obtain ⟨i, i1, i2⟩ := mset_ok hu ht hr
        have hn := beq_ne hb
        refine ⟨i + 1, ?_, ?_⟩
        · rw [List.findIdx?_cons]
          have : ((m.born : Int) == (n : Int)) = false := by
            rw [e1]; simp only [beq_eq_false_iff_ne, ne_eq, Int.natCast_inj]; exact hn
          simp [this, i1]
        · rw [List.modify_succ_cons]
          exact .cons ⟨e1, e2, e3⟩ i2
      · cases h

theorem S_est {t : TypeId} {x y z : Operand} {x' y' z' : X} (hx : XR G x x') (hy : XR G y y') (hz : XR G z z') : OpS P G ⟨dst, .entryStore t x y z, ty, pos, after, guard⟩ (.est x' y' z') := by
  intro E H w0 w a L run v H' _ hG hH hF h
  replace h : (match evX L x', idx (evX L y'), evX L z' with | some (.c (.m (some b))), some n, some (.c v) => (match H.get b with | some (.map es c) => (match mset es n v with | some es' => some (AV.u, H.set b (.map es' c)) | none => none) | _ => none) | _, _, _ => none) = some (v, H') := h
  split at h
  · rename_i b n v' h1 h2 h3
    obtain ⟨B, S, e1, e2⟩ := hx hG hF h1
    obtain ⟨k, hk⟩ := idx_eq h2
    have g1 : a.eval y = .int k (.ofNat n) := hy hG hF hk
    have g2 : v'.v E (a.eval z) := hz hG hF h3
    split at h
    · rename_i es c hg
      split at h
      · rename_i es' hs
        injection h with h; injection h with h4 h5; subst h4; subst h5
        obtain ⟨_, ms, m1, m2⟩ := hH.mp b es c B S hg e1
        obtain ⟨i, i1, i2⟩ := mset_ok g2 m2 hs
        have hmod : (ms.toArray.modify i fun e => { e with val := a.eval z }) = (ms.modify i fun e => { e with val := a.eval z }).toArray := by
          apply Array.ext'
          rw [Array.toList_modify]
        refine ⟨map_keeps hg e1, .inr (.inl ⟨{ w with heap := w.heap.setIfInBounds B (.map (ms.modify i fun e => { e with val := a.eval z }).toArray c) }, r_entryStore' e2 g1 rfl ?_, rfl, E, En.le_refl _, fun _ _ h => .inl h, hH.setMap hg e1 i2, rfl⟩)⟩
        have hf' : ms.toArray.findIdx? (fun e => (e.born : Int) == (Int.ofNat n)) = some i := by simpa using i1
        simp only [Instr.entryStore, Sem.run_bind, Go.MapKept.run_getObj_map m1, Result.andThen_ok, asInt, asIntOf, Sem.run_pure, hf', hmod, Go.MapKept.run_setObj_map _ m1]
      · cases h
    · cases h
  · cases h

theorem V_ustr {t u : TypeId} {x y : Operand} {x' y' : X} (hx : XR G x x') (hy : XR G y y') : OpV P G ⟨dst, .call { callee := .builtin .unsafeString, args := #[x, y], argTypes := #[t, u] }, ty, pos, after, guard⟩ (.ustr x' y') := by
  intro E H w0 w a L run v H' hG hH hF h
  replace h : (match evX L x', evX L y' with | some (.c (.p _)), some (.c (.i .i64 (.ofNat 0))) => some (AV.c (.s []), H) | _, _ => none) = some (v, H') := h
  split at h
  · rename_i p h1 h2
    injection h with h; injection h with h3 h4; subst h3
    obtain ⟨o, g1, _⟩ := isN_p (hx hG hF h1)
    have g2 : a.eval y = .int .i64 0 := hy hG hF h2
    refine ⟨h4.symm, .string .empty, ?_, rfl, by simp⟩
    have := Lib.run_unsafeString_none (P := P) (w := w) t u ty o
    simp [execOp, resolve, invoke, builtin, g1, g2, this]
  · cases h

end

noncomputable section

def mkOf (P : Program) (t : TypeId) : Option (List Kd × AC) := match P.underlying t with
  | some (.map kt et) => (match P.underlying kt with
    | some (.struct fs) => cond (P.eqGuardType P.depth kt || P.stoodInHeld kt) none (match kdsOf P fs.toList 0, tiE P et with
      | some ks, some (u, _, _) => (cC u).map fun z => (ks, z)
      | _, _ => none)
    | _ => none)
  | _ => none

theorem mkOf_ok {P : Program} {t : TypeId} {ks : List Kd} {z : AC} (h : mkOf P t = some (ks, z)) : ∃ kt et, MK P t kt et ks z := by
  unfold mkOf at h
  split at h
  · rename_i kt et h1
    split at h
    · rename_i fs h2
      have hf : P.fieldsOf kt = fs := by simp [Program.fieldsOf, h2]
      subst hf
      cases hb : (P.eqGuardType P.depth kt || P.stoodInHeld kt) with
      | true => rw [hb] at h; cases h
      | false =>
        rw [hb] at h
        simp only [Bool.or_eq_false_iff] at hb
        replace h : (match kdsOf P (P.fieldsOf kt).toList 0, tiE P et with | some ks, some (u, _, _) => (cC u).map fun z => (ks, z) | _, _ => none) = some (ks, z) := h
        split at h
        · rename_i ks' u n b h3 h4
          obtain ⟨z', h5, h6⟩ := Option.map_eq_some_iff.1 h
          injection h6 with h6 h7; subst h6; subst h7
          exact ⟨kt, et, h1, h2, h3, hb.1, hb.2, u, n, b, tiE_ok h4, cC_v h5⟩
        · cases h
    · cases h
  · cases h

def cUstr (_t : TypeId) (x y : X) : Option I := some (.ustr x y)

def cLkp (P : Program) (t : TypeId) (ok : Bool) (x y : X) : Option I := match ok, mkOf P t with
  | false, some (ks, z) => some (.lkp ks z x y)
  | _, _ => none

def cMen (P : Program) (t : TypeId) (x y : X) : Option I := match mkOf P t with
  | some (ks, z) => some (.men ks z x y)
  | _ => none

def cEst (_t : TypeId) (x y z : X) : Option I := some (.est x y z)

end

section

variable {P : Program} {G : Nat} {dst : Option Nat} {ty : TypeId} {pos : String} {after : Array Edge} {guard : Option (Nat × Bool)}

theorem cUstr_ok {t u : TypeId} {x y : Operand} {x' y' : X} {i : I} (hx : XR G x x') (hy : XR G y y') (h : cUstr t x' y' = some i) : OK P G ⟨dst, .call { callee := .builtin .unsafeString, args := #[x, y], argTypes := #[t, u] }, ty, pos, after, guard⟩ i := by
  injection h with h; subst h
  exact .ofV (V_ustr hx hy) (by simp [kindI])

theorem cLkp_ok {t : TypeId} {ok : Bool} {x y : Operand} {x' y' : X} {i : I} (hx : XR G x x') (hy : XR G y y') (h : cLkp P t ok x' y' = some i) : OK P G ⟨dst, .lookup t x y ok, ty, pos, after, guard⟩ i := by
  unfold cLkp at h
  split at h
  · rename_i ks z hm
    injection h with h; subst h
    obtain ⟨kt, et, hm⟩ := mkOf_ok hm
    exact .ofV (V_lkp hm hx hy) (by simp [kindI])
  · cases h

theorem cMen_ok {t : TypeId} {x y : Operand} {x' y' : X} {i : I} (hx : XR G x x') (hy : XR G y y') (h : cMen P t x' y' = some i) : OK P G ⟨dst, .mapEntry t x y, ty, pos, after, guard⟩ i := by
  unfold cMen at h
  split at h
  · rename_i ks z hm
    injection h with h; subst h
    obtain ⟨kt, et, hm⟩ := mkOf_ok hm
    exact .ofS (S_men hm hx hy) rfl
  · cases h

theorem cEst_ok {t : TypeId} {x y z : Operand} {x' y' z' : X} {i : I} (hx : XR G x x') (hy : XR G y y') (hz : XR G z z') (h : cEst t x' y' z' = some i) : OK P G ⟨dst, .entryStore t x y z, ty, pos, after, guard⟩ i := by
  injection h with h; subst h
  exact .ofS (S_est hx hy hz) rfl

end

end Ev
end

section
namespace Ev

set_option autoImplicit false

noncomputable section

section

variable (P : Program) (G : Nat)

def cLen (t : TypeId) (x : X) : Option I := match P.underlying t with
  | some (.slice _) => some (.len true x)
  | some .string => some (.len false x)
  | _ => none

def cApp (t t' : TypeId) (x y : X) : Option I := match P.underlying t with
  | some (.slice e) => cond (Nat.beq t' t) (match zcE P e with
    | some (_, n, b) => cond (Nat.ble b 1048576 && Nat.blt 0 n) (some (.app e n false x y)) none
    | none => none) none
  | _ => none

def cCp (t t' : TypeId) (x y : X) : Option I := match P.underlying t with
  | some (.slice e) => cond (Nat.beq t' t) (match tiE P e with
    | some (_, n, _) => some (.cp n false x y)
    | none => none) none
  | _ => none

def cClr (t : TypeId) (x : X) : Option I := match P.underlying t with
  | some (.slice e) => (match zcE P e with | some (l, _, _) => some (.clr l x) | none => none)
  | _ => none

def cBi (b : Builtin) (xs : List Operand) (ts : List TypeId) : Option I := match xs with
  | [x] => (match ts with
    | [t] => (cX G x).bind fun x' => (match b with
      | .len => cLen P t x'
      | .unsafeSliceData => some (.usd x')
      | .clear => cClr P t x'
      | _ => none)
    | _ => none)
  | [x, y] => (match ts with
    | [t, u] => (cX G x).bind fun x' => (cX G y).bind fun y' => (match b with
      | .append => cApp P t u x' y'
      | .copy => cCp P t u x' y'
      | .max => some (.mx x' y')
      | .min => some (.mn x' y')
      | .unsafeString => cUstr t x' y'
      | _ => none)
    | _ => none)
  | _ => none

def cCall (c : Call) : Option I := match c.callee with
  | .value (.func f) => (cXs G c.args.toList).map (.call f)
  | .value x => (cX G x).bind fun x' => (cXs G c.args.toList).map (.callv x')
  | .builtin b => cBi P G b c.args.toList c.argTypes.toList
  | .invoke _ _ => none

end

section

variable {P : Program} {G : Nat} {dst : Option Nat} {ty : TypeId} {pos : String} {after : Array Edge} {guard : Option (Nat × Bool)}

theorem cLen_ok {t : TypeId} {x : Operand} {x' : X} {i : I} (hx : XR G x x') (h : cLen P t x' = some i) : OK P G ⟨dst, .call { callee := .builtin .len, args := #[x], argTypes := #[t] }, ty, pos, after, guard⟩ i := by
  unfold cLen at h
  split at h
  · rename_i e hu
    injection h with h; subst h
    exact .ofV (V_len (sl := true) ⟨e, hu⟩ hx) (by simp [kindI])
  · rename_i hu
    injection h with h; subst h
    exact .ofV (V_len (sl := false) hu hx) (by simp [kindI])
  · cases h

theorem cApp_ok {t t' : TypeId} {x y : Operand} {x' y' : X} {i : I} (hx : XR G x x') (hy : XR G y y') (h : cApp P t t' x' y' = some i) : OK P G ⟨dst, .call { callee := .builtin .append, args := #[x, y], argTypes := #[t, t'] }, ty, pos, after, guard⟩ i := by
  unfold cApp at h
  split at h
  · rename_i e hu
    cases hb : Nat.beq t' t with
    | false => rw [hb] at h; cases h
    | true =>
      rw [hb] at h
      have e1 : t' = t := Nat.eq_of_beq_eq_true hb
      subst e1
      replace h : (match zcE P e with | some (_, n, b) => cond (Nat.ble b 1048576 && Nat.blt 0 n) (some (I.app e n false x' y')) none | none => none) = some i := h
      split at h
      · rename_i l n b h1
        obtain ⟨hb, rfl⟩ := cond_some h
        simp only [Bool.and_eq_true, Nat.ble_eq, Nat.blt_eq] at hb
        obtain ⟨z, z1, z2, z3, z4⟩ := zcE_ok h1
        exact .ofS (S_app hu z1 hb.1 z4 hb.2 hx hy) rfl
      · cases h
  · cases h

theorem cCp_ok {t t' : TypeId} {x y : Operand} {x' y' : X} {i : I} (hx : XR G x x') (hy : XR G y y') (h : cCp P t t' x' y' = some i) : OK P G ⟨dst, .call { callee := .builtin .copy, args := #[x, y], argTypes := #[t, t'] }, ty, pos, after, guard⟩ i := by
  unfold cCp at h
  split at h
  · rename_i e hu
    cases hb : Nat.beq t' t with
    | false => rw [hb] at h; cases h
    | true =>
      rw [hb] at h
      have e1 : t' = t := Nat.eq_of_beq_eq_true hb
      subst e1
      replace h : (match tiE P e with | some (_, n, _) => some (I.cp n false x' y') | none => none) = some i := h
      split at h
      · rename_i h1
        injection h with h; subst h
        exact .ofS (S_cp hu (tiE_ok h1) hx hy) rfl
      · cases h
  · cases h

theorem cClr_ok {t : TypeId} {x : Operand} {x' : X} {i : I} (hx : XR G x x') (h : cClr P t x' = some i) : OK P G ⟨dst, .call { callee := .builtin .clear, args := #[x], argTypes := #[t] }, ty, pos, after, guard⟩ i := by
  unfold cClr at h
  split at h
  · rename_i e hu
    split at h
    · rename_i h1
      injection h with h; subst h
      obtain ⟨z, z1, z2, z3, z4⟩ := zcE_ok h1
      exact .ofS (S_clr hu z1 z2 hx rfl) rfl
    · cases h
  · cases h

theorem cBi_ok {b : Builtin} {xs : List Operand} {ts : List TypeId} {i : I} (h : cBi P G b xs ts = some i) : OK P G ⟨dst, .call { callee := .builtin b, args := xs.toArray, argTypes := ts.toArray }, ty, pos, after, guard⟩ i := by
  unfold cBi at h
  split at h
  · split at h
    · obtain ⟨x', hx, h⟩ := Option.bind_eq_some_iff.1 h
      have hx : XR G _ x' := cX_ok hx
      split at h
      · exact cLen_ok hx h
      · injection h with h; subst h; exact .ofV (V_usd hx) (by simp [kindI])
      · exact cClr_ok hx h
      · cases h
    · cases h
  · split at h
    · obtain ⟨x', hx, h⟩ := Option.bind_eq_some_iff.1 h
      obtain ⟨y', hy, h⟩ := Option.bind_eq_some_iff.1 h
      have hx : XR G _ x' := cX_ok hx
      have hy : XR G _ y' := cX_ok hy
      split at h
      · exact cApp_ok hx hy h
      · exact cCp_ok hx hy h
      · injection h with h; subst h; exact .ofV (V_max hx hy) (by simp [kindI])
      · injection h with h; subst h; exact .ofV (V_min hx hy) (by simp [kindI])
      · exact cUstr_ok hx hy h
      · cases h
    · cases h
  · cases h

theorem cCall_ok {c : Call} {i : I} (h : cCall P G c = some i) : OK P G ⟨dst, .call c, ty, pos, after, guard⟩ i := by
  obtain ⟨callee, ⟨xs⟩, ⟨ts⟩⟩ := c
  unfold cCall at h
  split at h
  · rename_i f hc
    have hc : callee = .value (.func f) := hc
    subst hc
    obtain ⟨ys, hy, rfl⟩ := Option.map_eq_some_iff.1 h
    exact .ofS (S_call (cXs_ok hy)) rfl
  · rename_i x _ hc
    have hc : callee = .value x := hc
    subst hc
    obtain ⟨x', hx, h⟩ := Option.bind_eq_some_iff.1 h
    obtain ⟨ys, hy, rfl⟩ := Option.map_eq_some_iff.1 h
    exact .ofS (S_callv (cX_ok hx) (cXs_ok hy)) rfl
  · rename_i b hc
    have hc : callee = .builtin b := hc
    subst hc
    exact cBi_ok h
  · cases h

end

def cOp (P : Program) (G : Nat) (op : Op) : Option I := match op with
  | .move x => (cX G x).map .mv
  | .assign x => (cX G x).map .mv
  | .nilCheck x => (cX G x).map .nc
  | .pick c x y => (cX G c).bind fun c' => (cX G x).bind fun x' => (cX G y).map fun y' => .pk c' x' y'
  | .binOp o t x y _ => (cX G x).bind fun x' => (cX G y).bind fun y' => cBin P o t x' y'
  | .unOp o _ x => (cX G x).bind fun x' => cUn o x'
  | .convert s d x => (cX G x).bind fun x' => cConv P s d x'
  | .alloc t => (match tiE P t with | some (z, _, _) => (cV z).map fun y => .new t (.c y) | none => none)
  | .box t x => (cX G x).map (.new t)
  | .build t ps => cBld P G t ps.toList
  | .buildSlice t n ps => cBsl P G t n ps.toList
  | .load t x => (cX G x).bind fun x' => cLoad P t x'
  | .store t x y => (cX G x).bind fun x' => (cX G y).bind fun y' => (match tiE P t with | some (_, n, _) => some (.st n x' y') | none => none)
  | .fieldAddr s x i => (cX G x).bind fun x' => cFa P s i x'
  | .field s x i => (cX G x).bind fun x' => cFd P s i x'
  | .indexAddr t x y => (cX G x).bind fun x' => (cX G y).bind fun y' => cIa P t x' y'
  | .index t x y => (cX G x).bind fun x' => (cX G y).bind fun y' => cIx P t x' y'
  | .extract x j => (cX G x).map (.ext j)
  | .slice t x lo hi mx => (cX G x).bind fun x' => (cXo G lo).bind fun lo' => (cXo G hi).bind fun hi' => (cXo G mx).bind fun mx' => cSl P t x' lo' hi' mx mx'
  | .makeSlice t x y => (cX G x).bind fun x' => (cX G y).bind fun y' => cMks P t x' y'
  | .makeFunc f xs ys => (match f, xs.toList with
    | .func f, [] => (cXs G ys.toList).map (.mkf f)
    | _, _ => none)
  | .makeMap _ none => some .mkm
  | .lookup t x y ok => (cX G x).bind fun x' => (cX G y).bind fun y' => cLkp P t ok x' y'
  | .mapEntry t x y => (cX G x).bind fun x' => (cX G y).bind fun y' => cMen P t x' y'
  | .entryStore t x y z => (cX G x).bind fun x' => (cX G y).bind fun y' => (cX G z).bind fun z' => cEst t x' y' z'
  | .call c => cCall P G c
  | _ => none

theorem cOp_ok {P : Program} {G : Nat} {op : Op} {i : I} (h : cOp P G op = some i) (dst : Option Nat) (ty : TypeId) (pos : String) (after : Array Edge) (guard : Option (Nat × Bool)) : OK P G ⟨dst, op, ty, pos, after, guard⟩ i := by
  unfold cOp at h
  split at h
  · obtain ⟨x', hx, rfl⟩ := Option.map_eq_some_iff.1 h
    exact .ofV (V_move (cX_ok hx)) (by simp [kindI])
  · obtain ⟨x', hx, rfl⟩ := Option.map_eq_some_iff.1 h
    exact .ofV (V_assign (cX_ok hx)) (by simp [kindI])
  · obtain ⟨x', hx, rfl⟩ := Option.map_eq_some_iff.1 h
    exact .ofV (V_nilCheck (cX_ok hx)) (by simp [kindI])
  · obtain ⟨c', hc, h⟩ := Option.bind_eq_some_iff.1 h
    obtain ⟨x', hx, h⟩ := Option.bind_eq_some_iff.1 h
    obtain ⟨y', hy, rfl⟩ := Option.map_eq_some_iff.1 h
    exact .ofV (V_pick (cX_ok hc) (cX_ok hx) (cX_ok hy)) (by simp [kindI])
  · obtain ⟨x', hx, h⟩ := Option.bind_eq_some_iff.1 h
    obtain ⟨y', hy, h⟩ := Option.bind_eq_some_iff.1 h
    exact cBin_ok (cX_ok hx) (cX_ok hy) h
  · obtain ⟨x', hx, h⟩ := Option.bind_eq_some_iff.1 h
    exact cUn_ok (cX_ok hx) h
  · obtain ⟨x', hx, h⟩ := Option.bind_eq_some_iff.1 h
    exact cConv_ok (cX_ok hx) h
  · split at h
    · rename_i h1
      obtain ⟨y, hy, rfl⟩ := Option.map_eq_some_iff.1 h
      exact .ofA (A_alloc (tiE_ok h1) (cV_v hy)) (by simp [kindI])
    · cases h
  · obtain ⟨x', hx, rfl⟩ := Option.map_eq_some_iff.1 h
    exact .ofA (A_box (cX_ok hx)) (by simp [kindI])
  · rename_i t ps
    obtain ⟨ps⟩ := ps
    exact cBld_ok h
  · rename_i t n ps
    obtain ⟨ps⟩ := ps
    exact cBsl_ok h
  · obtain ⟨x', hx, h⟩ := Option.bind_eq_some_iff.1 h
    exact cLoad_ok (cX_ok hx) h
  · obtain ⟨x', hx, h⟩ := Option.bind_eq_some_iff.1 h
    obtain ⟨y', hy, h⟩ := Option.bind_eq_some_iff.1 h
    split at h
    · rename_i h1
      injection h with h; subst h
      exact .ofS (S_store (tiE_ok h1) (cX_ok hx) (cX_ok hy)) rfl
    · cases h
  · obtain ⟨x', hx, h⟩ := Option.bind_eq_some_iff.1 h
    exact cFa_ok (cX_ok hx) h
  · obtain ⟨x', hx, h⟩ := Option.bind_eq_some_iff.1 h
    exact cFd_ok (cX_ok hx) h
  · obtain ⟨x', hx, h⟩ := Option.bind_eq_some_iff.1 h
    obtain ⟨y', hy, h⟩ := Option.bind_eq_some_iff.1 h
    exact cIa_ok (cX_ok hx) (cX_ok hy) h
  · obtain ⟨x', hx, h⟩ := Option.bind_eq_some_iff.1 h
    obtain ⟨y', hy, h⟩ := Option.bind_eq_some_iff.1 h
    exact cIx_ok (cX_ok hx) (cX_ok hy) h
  · obtain ⟨x', hx, rfl⟩ := Option.map_eq_some_iff.1 h
    exact .ofV (V_extract (cX_ok hx)) (by simp [kindI])
  · obtain ⟨x', hx, h⟩ := Option.bind_eq_some_iff.1 h
    obtain ⟨l', hl, h⟩ := Option.bind_eq_some_iff.1 h
    obtain ⟨h', hh, h⟩ := Option.bind_eq_some_iff.1 h
    obtain ⟨m', hm, h⟩ := Option.bind_eq_some_iff.1 h
    exact cSl_ok (cX_ok hx) (cXo_ok hl) (cXo_ok hh) (cXo_ok hm) h
  · obtain ⟨x', hx, h⟩ := Option.bind_eq_some_iff.1 h
    obtain ⟨y', hy, h⟩ := Option.bind_eq_some_iff.1 h
    exact cMks_ok (cX_ok hx) (cX_ok hy) h
  · rename_i f xs ys
    obtain ⟨xs⟩ := xs
    obtain ⟨ys⟩ := ys
    split at h
    · rename_i f he
      have he : xs = [] := he
      subst he
      obtain ⟨zs, hz, rfl⟩ := Option.map_eq_some_iff.1 h
      exact .ofV (V_mkf (cXs_ok hz)) (by simp [kindI])
    · cases h
  · injection h with h; subst h
    exact .ofS (A_mkm fun w => by simp [Instr.makeMap, Result.andThen]) rfl
  · obtain ⟨x', hx, h⟩ := Option.bind_eq_some_iff.1 h
    obtain ⟨y', hy, h⟩ := Option.bind_eq_some_iff.1 h
    exact cLkp_ok (cX_ok hx) (cX_ok hy) h
  · obtain ⟨x', hx, h⟩ := Option.bind_eq_some_iff.1 h
    obtain ⟨y', hy, h⟩ := Option.bind_eq_some_iff.1 h
    exact cMen_ok (cX_ok hx) (cX_ok hy) h
  · obtain ⟨x', hx, h⟩ := Option.bind_eq_some_iff.1 h
    obtain ⟨y', hy, h⟩ := Option.bind_eq_some_iff.1 h
    obtain ⟨z', hz, h⟩ := Option.bind_eq_some_iff.1 h
    exact cEst_ok (cX_ok hx) (cX_ok hy) (cX_ok hz) h
  · exact cCall_ok h
  · cases h

def badC : C := .reg [⟨none, none, .bad, []⟩]

def cG (ops : Array Oper) (g : Option (Nat × Bool)) : Option (Option (Nat × Bool)) := match g with
  | none => some none
  | some (j, want) => ((ops[j]?).bind (·.dst)).map fun t => some (t, want)

def dstB (n : Nat) (d : Option Nat) : Bool := match d with
  | none => true
  | some d => Nat.blt d n

def cR (P : Program) (G n : Nat) (ops : Array Oper) (o : Oper) : Option R := match cG ops o.guard with
  | some g => cond (dstB n o.dst) (some ⟨o.dst, g, (cOp P G o.op).getD .bad, []⟩) none
  | none => none

def cRs (P : Program) (G n : Nat) (ops : Array Oper) (l : List Oper) : Option (List R) := List.rec (some []) (fun o _ ih => match cR P G n ops o, ih with | some r, some rs => some (r :: rs) | _, _ => none) l

def cReg (P : Program) (G n : Nat) (ops : Array Oper) (draw : Bool) : C := match cRs P G n ops ops.toList with
  | some base => cond draw (match drawE ops base with | some rs => .dreg rs | none => badC) (.reg base)
  | none => badC

def compC (P : Program) (G n : Nat) (live : List Nat) (c : Code) : C := Code.rec .skip (fun _ ops draw => cReg P G n ops draw) (fun _ _ ia ib => .seq ia ib)
  (fun x _ _ ia ib => match cX G x with | some x' => .cond x' ia ib | none => badC) (fun id _ ic => .blk id ic) (fun _ ic => .loop live ic) (fun _ _ _ _ _ _ => badC) (fun id => .exit id) (fun _ ic => ic) (fun _ => .skip) (fun _ => badC) .ret (fun _ => badC) c

section

variable {P : Program} {G n : Nat}

theorem badC_ok (c : Code) : CR P G n c badC := .region fun _ => by
  intro E H H' w0 w a L L' ex Q hG hH hF he
  cases he

theorem cR_ok {ops : Array Oper} {o : Oper} {r : R} (h : cR P G n ops o = some r) : DR P G n ops o r := by
  unfold cR at h
  split at h
  · rename_i g hg
    obtain ⟨hb, rfl⟩ := cond_some h
    obtain ⟨dst, op, ty, pos, after, guard⟩ := o
    have hok : OK P G ⟨dst, op, ty, pos, after, guard⟩ ((cOp P G op).getD .bad) := by
      cases hc : cOp P G op with
      | none => exact OK.bad _
      | some i => exact cOp_ok hc _ _ _ _ _
    refine ⟨⟨rfl, fun d hd => ?_, ?_, hok.s⟩, hok.v, hok.a⟩
    · have hd : dst = some d := hd
      subst hd
      have hb : Nat.blt d n = true := hb
      simpa [Nat.blt_eq] using hb
    · have hg : cG ops guard = some g := hg
      cases guard with
      | none => injection hg with hg; exact .inl ⟨rfl, hg.symm⟩
      | some jw =>
        obtain ⟨j, want⟩ := jw
        obtain ⟨t, ht, rfl⟩ := Option.map_eq_some_iff.1 hg
        exact .inr ⟨j, t, want, rfl, rfl, ht⟩
  · cases h

theorem cRs_ok {ops : Array Oper} : ∀ {l : List Oper} {rs : List R}, cRs P G n ops l = some rs → All2 (DR P G n ops) l rs
  | [], rs, h => by injection h with h; subst h; exact .nil
  | o :: l, rs, h => by
    replace h : (match cR P G n ops o, cRs P G n ops l with | some r, some rs => some (r :: rs) | _, _ => none) = some rs := h
    split at h
    · rename_i r rs' h1 h2
      injection h with h; subst h
      exact .cons (cR_ok h1) (cRs_ok h2)
    · cases h

theorem cReg_ok (hm : P.follows .mixedOrders = true) {id : Nat} {ops : Array Oper} {draw : Bool} : CR P G n (.region id ops draw) (cReg P G n ops draw) := by
  obtain ⟨l⟩ := ops
  unfold cReg
  cases hc : cRs P G n ⟨l⟩ (Array.toList ⟨l⟩) with
  | none => exact badC_ok _
  | some base =>
    have hb : All2 (DR P G n l.toArray) l base := cRs_ok hc
    cases draw with
    | false => exact .region fun hrun => region_ok (hb.mono fun _ _ h => h.rr) hrun
    | true =>
      show CR P G n _ (match drawE l.toArray base with | some rs => .dreg rs | none => badC)
      cases hd : drawE l.toArray base with
      | none => exact badC_ok _
      | some rs =>
        refine .region fun hrun => draw_ok hm hrun (fun i o ho => ?_) hd
        have hlt : i < l.length := by
          have := (Array.getElem?_eq_some_iff.1 ho).1
          simpa using this
        have ho' : l[i]? = some o := by simpa using ho
        have hl := All2.length hb
        have hr : base[i]? = some (bOf base i) := by
          unfold bOf
          rw [List.getD_eq_getElem?_getD, List.getElem?_eq_getElem (by omega)]; rfl
        have key : ∀ {l : List Oper} {base : List R} {ops : Array Oper} (i : Nat) (o : Oper) (r : R), All2 (DR P G n ops) l base → l[i]? = some o → base[i]? = some r → DR P G n ops o r := fun {l base ops} i o r hb => by
          induction hb generalizing i with
          | nil => intro h; cases h
          | cons h t ih =>
            cases i with
            | zero => intro h1 h2; simp at h1 h2; subst h1; subst h2; exact h
            | succ i => intro h1 h2; exact ih i (by simpa using h1) (by simpa using h2)
        exact key i o _ hb ho' hr

theorem compC_ok (hm : P.follows .mixedOrders = true) (live : List Nat) : ∀ c : Code, CR P G n c (compC P G n live c)
  | .skip => .skip
  | .region id ops draw => cReg_ok hm
  | .seq a b => .seq (compC_ok hm live a) (compC_ok hm live b)
  | .cond x a b => by
    show CR P G n _ (match cX G x with | some x' => .cond x' (compC P G n live a) (compC P G n live b) | none => badC)
    cases hx : cX G x with
    | none => exact badC_ok _
    | some x' => exact .cond (cX_ok hx) (compC_ok hm live a) (compC_ok hm live b)
  | .block id a => .block (compC_ok hm live a)
  | .loop a => .loop (compC_ok hm live a)
  | .rangeFunc _ _ _ _ => badC_ok _
  | .exit _ => .exit
  | .scope a => .scope (compC_ok hm live a)
  | .label _ => .label
  | .goto _ => badC_ok _
  | .ret => .ret
  | .refuse _ => badC_ok _

end

def tmpsOf (l : List Operand) : List Nat := List.rec [] (fun o _ ih => match o with | .tmp t => t :: ih | _ => ih) l

/-- Slots that are read elsewhere than in the statement that fills them. -/
def liveL (l : List Oper) (done acc : List Nat) : List Nat := List.rec (fun _ acc => acc) (fun o _ ih done acc =>
  ih (match o.dst with | some d => d :: done | none => done) (((tmpsOf o.op.operands.toList).filter fun t => !(done.contains t)) ++ acc)) l done acc

def liveC (c : Code) (acc : List Nat) : List Nat := Code.rec (fun acc => acc) (fun _ ops _ acc => liveL ops.toList [] acc) (fun _ _ ia ib acc => ib (ia acc))
  (fun x _ _ ia ib acc => ib (ia (tmpsOf [x] ++ acc))) (fun _ _ ic acc => ic acc) (fun _ ic acc => ic acc) (fun _ _ _ _ _ _ acc => acc) (fun _ acc => acc) (fun _ ic acc => ic acc) (fun _ acc => acc) (fun _ acc => acc) (fun acc => acc) (fun _ acc => acc) c acc

def uniq (l : List Nat) : List Nat := List.rec [] (fun x _ ih => cond (ih.contains x) ih (x :: ih)) l

def resT : ResultVar → Nat
  | .tmp t => t
  | .cell t _ => t

def cRes (P : Program) : ResultVar → Option (Nat × Option (Nat × Bool))
  | .tmp t => some (t, none)
  | .cell t T => match P.underlying T with
    | some d => cond (notAgg d) (some (t, some (1, false))) (match tiE P T with | some (_, n, _) => some (t, some (n, true)) | none => none)
    | none => none

def cRess (P : Program) (l : List ResultVar) : Option (List (Nat × Option (Nat × Bool))) := List.rec (some []) (fun r _ ih => match cRes P r, ih with | some x, some xs => some (x :: xs) | _, _ => none) l

def compF (P : Program) (G : Nat) (fn : Func) : Option CF := match fn.body, cRess P fn.results.toList with
  | some c, some rs => some ⟨fn.ntmps, compC P G fn.ntmps (uniq (liveC c (List.range (fn.params.size + fn.nfree) ++ fn.results.toList.map resT))) c, rs⟩
  | _, _ => none

section

variable {P : Program} {G : Nat}

theorem cRes_ok {r : ResultVar} {q : Nat × Option (Nat × Bool)} (h : cRes P r = some q) : ResR P r q := by
  unfold cRes at h
  split at h
  · injection h with h; subst h; exact .tmp
  · split at h
    · rename_i d hd
      cases hb : notAgg d with
      | true => rw [hb] at h; injection h with h; subst h; exact .cell1 hd hb
      | false =>
        rw [hb] at h
        rename_i t T _
        replace h : (match tiE P T with | some (_, n, _) => some (t, some (n, true)) | none => none) = some q := h
        split at h
        · rename_i h1
          injection h with h; subst h
          exact .cellN hd hb (tiE_ok h1)
        · cases h
    · cases h

theorem cRess_ok : ∀ {l : List ResultVar} {qs : List (Nat × Option (Nat × Bool))}, cRess P l = some qs → All2 (ResR P) l qs
  | [], qs, h => by injection h with h; subst h; exact .nil
  | r :: l, qs, h => by
    replace h : (match cRes P r, cRess P l with | some x, some xs => some (x :: xs) | _, _ => none) = some qs := h
    split at h
    · rename_i x xs h1 h2
      injection h with h; subst h
      exact .cons (cRes_ok h1) (cRess_ok h2)
    · cases h

theorem compF_ok (hm : P.follows .mixedOrders = true) (hn : P.funcs.all (fun fn => !(fn.name == "runtime.NumGoroutine")) = true) {f : Nat} {fn : Func} {cf : CF} (hf : P.funcs[f]? = some fn) (h : compF P G fn = some cf) : FnR P G f cf := by
  unfold compF at h
  split at h
  · rename_i c rs hb hr
    injection h with h; subst h
    refine ⟨fn, c, fn.results.toList, hf, fun e => ?_, hb, rfl, compC_ok hm _ c, by rw [Array.toArray_toList], cRess_ok hr⟩
    rw [Array.all_eq_true_iff_forall_mem] at hn
    have := hn fn (Array.mem_of_getElem? hf)
    rw [e] at this
    simp at this
  · cases h

/-- Functions by their numbers. -/
inductive FT where
  | nil
  | node (n : Nat) (cf : CF) (l r : FT)

def FT.find (t : FT) (x : Nat) : Option CF := FT.rec none (fun n cf _ _ il ir => cond (Nat.beq x n) (some cf) (cond (Nat.blt x n) il ir)) t

inductive FT.Ok (Q : Nat → CF → Prop) : FT → Prop
  | nil : FT.Ok Q .nil
  | node {n : Nat} {cf : CF} {l r : FT} (h : Q n cf) (hl : FT.Ok Q l) (hr : FT.Ok Q r) : FT.Ok Q (.node n cf l r)

theorem FT.find_ok {Q : Nat → CF → Prop} {t : FT} (h : FT.Ok Q t) {x : Nat} {cf : CF} (hf : t.find x = some cf) : Q x cf := by
  induction h with
  | nil => cases hf
  | node h _ _ ihl ihr =>
    rename_i n cf' l r _ _
    replace hf : cond (Nat.beq x n) (some cf') (cond (Nat.blt x n) (l.find x) (r.find x)) = some cf := hf
    cases hb : Nat.beq x n with
    | true =>
      rw [hb] at hf
      injection hf with hf; subst hf
      rw [Nat.eq_of_beq_eq_true hb]; exact h
    | false =>
      rw [hb] at hf
      replace hf : cond (Nat.blt x n) (l.find x) (r.find x) = some cf := hf
      cases hc : Nat.blt x n with
      | true => rw [hc] at hf; exact ihl hf
      | false => rw [hc] at hf; exact ihr hf

end

end

end Ev
end

section
namespace Ev

set_option autoImplicit false

open Go.RowKit

noncomputable section

/-- Words one blank apart. -/
def splitW (s : List Nat) : List (List Nat) := List.rec (fun cur => match cur with | [] => [] | _ => [cur.reverse]) (fun x _ ih cur => cond (Nat.beq x 32) (match cur with | [] => ih [] | _ => cur.reverse :: ih []) (ih (x :: cur))) s []

/-- The texts whose words are asked for. -/
def asked : List (List Nat) := [[98, 97, 115, 101, 32, 108, 105, 110, 107, 32, 109, 101, 116, 97, 32, 116, 105, 116, 108, 101, 32, 115, 116, 121, 108, 101, 32, 115, 99, 114, 105, 112, 116, 32, 110, 111, 102, 114, 97, 109, 101, 115],
  [97, 100, 100, 114, 101, 115, 115, 32, 97, 114, 116, 105, 99, 108, 101, 32, 97, 115, 105, 100, 101, 32, 98, 108, 111, 99, 107, 113, 117, 111, 116, 101, 32, 99, 101, 110, 116, 101, 114, 32, 100, 101, 116, 97, 105, 108, 115, 32, 100, 105, 114, 32, 100, 105, 118, 32, 100, 108, 32, 102, 105, 101, 108, 100, 115, 101, 116, 32, 102, 105, 103, 99, 97, 112, 116, 105, 111, 110, 32, 102, 105, 103, 117, 114, 101, 32, 102, 111, 111, 116, 101, 114, 32, 102, 111, 114, 109, 32, 104, 101, 97, 100, 101, 114, 32, 104, 103, 114, 111, 117, 112, 32, 109, 97, 105, 110, 32, 109, 101, 110, 117, 32, 110, 97, 118, 32, 111, 108, 32, 112, 114, 101, 32, 115, 101, 97, 114, 99, 104, 32, 115, 101, 99, 116, 105, 111, 110, 32, 115, 117, 109, 109, 97, 114, 121, 32, 117, 108],
  [97, 112, 112, 108, 101, 116, 32, 99, 97, 112, 116, 105, 111, 110, 32, 116, 100, 32, 116, 104, 32, 109, 97, 114, 113, 117, 101, 101, 32, 111, 98, 106, 101, 99, 116], [104, 49, 32, 104, 50, 32, 104, 51, 32, 104, 52, 32, 104, 53, 32, 104, 54], [97, 32, 98, 32, 98, 105, 103, 32, 99, 111, 100, 101, 32, 101, 109, 32, 102, 111, 110, 116, 32, 105, 32, 110, 111, 98, 114, 32, 115, 32, 115, 109, 97, 108, 108, 32, 115, 116, 114, 105, 107, 101, 32, 115, 116, 114, 111, 110, 103, 32, 116, 116, 32, 117], [100, 100, 32, 100, 116, 32, 108, 105, 32, 111, 112, 116, 105, 111, 110, 32, 112, 32, 114, 112, 32, 114, 116],
  [97, 100, 100, 114, 101, 115, 115, 32, 97, 112, 112, 108, 101, 116, 32, 97, 114, 101, 97, 32, 97, 114, 116, 105, 99, 108, 101, 32, 97, 115, 105, 100, 101, 32, 98, 97, 115, 101, 32, 98, 108, 111, 99, 107, 113, 117, 111, 116, 101, 32, 98, 111, 100, 121, 32, 98, 114, 32, 98, 117, 116, 116, 111, 110, 32, 99, 97, 112, 116, 105, 111, 110, 32, 99, 101, 110, 116, 101, 114, 32, 99, 111, 108, 32, 99, 111, 108, 103, 114, 111, 117, 112, 32, 100, 100, 32, 100, 101, 116, 97, 105, 108, 115, 32, 100, 105, 114, 32, 100, 105, 118, 32, 100, 108, 32, 100, 116, 32, 101, 109, 98, 101, 100, 32, 102, 105, 101, 108, 100, 115, 101, 116, 32, 102, 105, 103, 99, 97, 112, 116, 105, 111, 110, 32, 102, 105, 103, 117, 114, 101, 32, 102, 111, 111, 116, 101, 114, 32, 102, 111, 114, 109, 32, 104, 49, 32, 104, 50, 32, 104, 51, 32, 104, 52, 32, 104, 53, 32, 104, 54, 32, 104, 101, 97, 100, 32, 104, 101, 97, 100, 101, 114, 32, 104, 103, 114, 111, 117, 112, 32, 104, 114, 32, 104, 116, 109, 108, 32, 105, 102, 114, 97, 109, 101, 32, 105, 109, 103, 32, 105, 110, 112, 117, 116, 32, 108, 105, 32, 108, 105, 110, 107, 32, 109, 97, 105, 110, 32, 109, 97, 114, 113, 117, 101, 101, 32, 109, 101, 110, 117, 32, 109, 101, 116, 97, 32, 110, 97, 118, 32, 110, 111, 101, 109, 98, 101, 100, 32, 110, 111, 102, 114, 97, 109, 101, 115, 32, 111, 98, 106, 101, 99, 116, 32, 111, 108, 32, 112, 32, 112, 97, 114, 97, 109, 32, 112, 114, 101, 32, 115, 99, 114, 105, 112, 116, 32, 115, 101, 97, 114, 99, 104, 32, 115, 101, 99, 116, 105, 111, 110, 32, 115, 101, 108, 101, 99, 116, 32, 115, 111, 117, 114, 99, 101, 32, 115, 116, 121, 108, 101, 32, 115, 117, 109, 109, 97, 114, 121, 32, 116, 97, 98, 108, 101, 32, 116, 98, 111, 100, 121, 32, 116, 100, 32, 116, 101, 120, 116, 97, 114, 101, 97, 32, 116, 102, 111, 111, 116, 32, 116, 104, 32, 116, 104, 101, 97, 100, 32, 116, 105, 116, 108, 101, 32, 116, 114, 32, 116, 114, 97, 99, 107, 32, 117, 108, 32, 119, 98, 114, 32, 120, 109, 112],
  [97, 112, 112, 108, 101, 116, 32, 109, 97, 114, 113, 117, 101, 101, 32, 111, 98, 106, 101, 99, 116]]

def inL (s : List Nat) (l : List (List Nat)) : Bool := List.rec false (fun x _ ih => cond (leqL x s) true ih) l

def spF (f : Nat) (vs : List AV) (H : AH) : Option (AV × AH) := cond (Nat.beq f 160) (match vs with
  | [.c (.s s)] => cond (inL s asked) (match splitW s with | l => some (.c (.sl (some (H.nx, 0)) l.length l.length 1), H.new 9 (l.map AC.s))) none
  | _ => none) none

theorem asked_ok : (asked.all fun s => ((s.map UInt8.ofNat).all fun b => decide (b.toNat < 128)) && decide (s.length ≤ 1000000) && decide ((Lib.fields (s.map UInt8.ofNat)).map (fun l => l.map UInt8.toNat) = splitW s)) = true := by decide +kernel

theorem inL_mem {s : List Nat} : ∀ {l : List (List Nat)}, inL s l = true → s ∈ l
  | [], h => by cases h
  | x :: l, h => by
    replace h : cond (leqL x s) true (inL s l) = true := h
    cases hb : leqL x s with
    | true =>
      rw [leqL_eq] at hb
      rw [of_decide_eq_true hb]; exact List.mem_cons_self ..
    | false => rw [hb] at h; exact List.mem_cons_of_mem _ (inL_mem h)

theorem WP.ext {w w' : World} (h : WP w) (c : Ext w w') : WP w' := by
  have hg : Tryz.prog.globalNamed "strings.asciiSpace" = some 0 := by kernel_rfl
  unfold WP Lib.TabIs World.var? at h ⊢
  rw [hg] at h ⊢
  simp only [Option.bind_some] at h ⊢
  have hlt : 0 < w.heap.size := by
    rcases Nat.lt_or_ge 0 w.heap.size with h' | h'
    · exact h'
    · rw [Array.getElem?_eq_none h'] at h; cases h
  rw [c.block _ hlt (by simp)]
  exact h

theorem spF_ok (G : Nat) : RunOk Tryz.prog G spF := by
  intro f vs H H' v h
  replace h : cond (Nat.beq f 160) (match (generalizing := false) vs with
    | [.c (.s s)] => cond (inL s asked) (match splitW s with | l => some (AV.c (.sl (some (H.nx, 0)) l.length l.length 1), H.new 9 (l.map AC.s))) none
    | _ => none) none = some (v, H') := h
  cases hb : Nat.beq f 160 with
  | false => rw [hb] at h; cases h
  | true =>
    rw [hb] at h
    have hf := Nat.eq_of_beq_eq_true hb
    subst hf
    replace h : (match (generalizing := false) vs with
      | [.c (.s s)] => cond (inL s asked) (match splitW s with | l => some (AV.c (.sl (some (H.nx, 0)) l.length l.length 1), H.new 9 (l.map AC.s))) none
      | _ => none) = some (v, H') := h
    split at h
    · rename_i s
      obtain ⟨hin, h⟩ := cond_some h
      injection h with h1 h2; subst h1; subst h2
      refine ⟨⟨_, Tryz.func160, by decide +kernel, rfl⟩, fun {E w0 w args} hG hH hA => ?_⟩
      have hall := List.all_eq_true.1 asked_ok s (inL_mem hin)
      simp only [Bool.and_eq_true, decide_eq_true_eq] at hall
      obtain ⟨⟨a1, a2⟩, a3⟩ := hall
      refine ⟨⟨Nat.le_succ _, fun b hb _ => (AH.get_push _ _ _).trans (if_neg (Nat.ne_of_lt hb))⟩, ?_⟩
      match args, hA with
      | [u], .cons hu .nil =>
        obtain ⟨rfl, hby⟩ := hu
        have hT : WP w := WP.ext hH.wp hH.ch
        have hsz : (Bs (s.map UInt8.ofNat)).size = s.length := by rw [Bs_size]; simp
        refine (Tryz.strings_Fields (Bs (s.map UInt8.ofNat)) w (by rw [hsz]; omega) (fun j b hb => ?_) hT).mono fun e w' ⟨he, hw⟩ => ?_
        · rw [Bs_data] at hb
          have := List.all_eq_true.1 a1 b (List.mem_of_getElem? hb)
          simpa using this
        · subst he hw
          rw [Bs_data]
          generalize Lib.fields (s.map UInt8.ofNat) = fl at a3 ⊢
          rw [← a3]
          have hv : ACs E ((fl.map fun l => l.map UInt8.toNat).map AC.s) (fl.map fun l => Value.string ⟨l.toArray⟩) := by
            clear a3
            induction fl with
            | nil => exact .nil
            | cons l r ih =>
              refine .cons ⟨?_, fun n hn => ?_⟩ ih
              · have e : (l.map UInt8.toNat).map UInt8.ofNat = l := by
                  rw [List.map_map]
                  conv => rhs; rw [← List.map_id l]
                  apply List.map_congr_left
                  intro b _
                  simp
                rw [e]; rfl
              · obtain ⟨b, _, rfl⟩ := List.mem_map.1 hn
                exact b.toNat_lt
          have hE := hH.free
          have hp := hH.push (o := .cells 9 ((fl.map fun l => l.map UInt8.toNat).map AC.s) .own) fun _ _ _ _ h => (by cases h)
          have key := hp.real (T' := 9) ((AH.get_push _ _ _).trans (if_pos rfl)) hE (Ext.alloc w (.cells (fl.map fun l => Value.string ⟨l.toArray⟩).toArray 9 (0, 0))) (Nat.le_refl _) (Box.alloc w 9 _) (Pre.all2 hv)
          refine ⟨E.add H.nx w.heap.size _, En.le_add hE, fun b p hb => ?_, key, w.heap.size, _, 0, fl.length, En.add_same _ _ _ _, ?_, ?_, ?_, .inr rfl, ?_⟩
          · by_cases hbn : b = H.nx
            · subst hbn; exact .inr (Nat.le_refl _)
            · rw [En.add_other _ _ _ hbn] at hb; exact .inl hb
          all_goals simp
    · cases h

end

end Ev
end

section
open Go.RowKit

/-- A block of the call's own: its number, its type, its cells. -/
abbrev BX := Nat × TypeId × List Value

/-- All that is known at a point: the frame; what was changed since the world wa was told; the call's own blocks; those that are new since. -/
structure St (n : Nat) (a : Act) (w : World) (L : List (Nat × Value)) (wa : World) (G : List Nat) (bs : List BX) (N : List Nat) : Prop where
  ag : Ag n a L
  chg : Chg G wa w
  box : ∀ b ∈ bs, Box w b.1 b.2.1 b.2.2
  nd : (bs.map (·.1)).Nodup
  new : ∀ B ∈ N, New wa B w
  nnd : N.Nodup

/-- With what is known, and what is asked for, this holds. -/
def Go (n : Nat) (L : List (Nat × Value)) (wa w : World) (G : List Nat) (bs : List BX) (N : List Nat) (V : Prop) (C : Act → World → Prop) : Prop :=
  ∀ a, St n a w L wa G bs N → V → C a w

/-- Operations one behind the other, of which the first yields: the rest is gone through with what it yields. -/
class Stp (P : outParam Program) (ops : outParam (Array Oper)) (X : List Oper → Act → World → Prop) where
  ok : List Oper → Bool
  stp : ∀ {o : Oper} {r : List Oper} {a : Act} {w : World} {v : Value}, ok r = true → (∀ w', Ext w w' → YA P ops o v a w') → X r (a.put o.dst v) w → X (o :: r) a w

/-- … of which the first does something. -/
class Eff (P : outParam Program) (ops : outParam (Array Oper)) (Q : outParam (Exit → Act → World → Prop)) (X : List Oper → Act → World → Prop) : Prop where
  eff : ∀ {o : Oper} {r : List Oper} {a : Act} {w : World}, opK P ops Q o (X r) a w → X (o :: r) a w

/-- One behind the other they are carried out. -/
def OL (P : Program) (ops : Array Oper) (Q : Exit → Act → World → Prop) (K : Act → World → Prop) : List Oper → Act → World → Prop
  | [], a, w => K a w
  | o :: r, a, w => opK P ops Q o (OL P ops Q K r) a w

instance {P : Program} {ops : Array Oper} {Q : Exit → Act → World → Prop} : Stp P ops (wpList P ops Q) := ⟨fun _ => true, fun _ h k => sq ((h _ (Chg.refl _ _)).opK k)⟩

instance {P : Program} {ops : Array Oper} {Q : Exit → Act → World → Prop} {K : Act → World → Prop} : Stp P ops (OL P ops Q K) := ⟨fun _ => true, fun _ h k => (h _ (Chg.refl _ _)).opK (Q := Q) k⟩

instance {P : Program} {ops : Array Oper} {D : List (List Nat)} {Vs : List (Nat × RS)} {e : Nat} {K : Act → World → Prop} {F : List (Nat × (World → Prop))} : Stp P ops (SeqE P ops D Vs e K F) :=
  ⟨fun r => !isR Vs (e - (r.length + 1)), fun {o r a w v} hk h k => ⟨fun _ => ⟨v, fun w' hE _ => h w' hE, k⟩, fun hR => by rw [hR] at hk; cases hk⟩⟩

instance {P : Program} {ops : Array Oper} {Q : Exit → Act → World → Prop} : Eff P ops Q (wpList P ops Q) := ⟨fun h => sq h⟩

instance {P : Program} {ops : Array Oper} {Q : Exit → Act → World → Prop} {K : Act → World → Prop} : Eff P ops Q (OL P ops Q K) := ⟨fun h => h⟩

def opv (L : List (Nat × Value)) : Operand → Option Value
  | .tmp t => lookupL t L
  | .const v => some v
  | .global g => some (.pointer (some ⟨g, 0, none⟩))
  | .func f => some (.func (.func f) #[] #[])

theorem Ag.opv {n : Nat} {a : Act} {L : List (Nat × Value)} (h : Ag n a L) {x : Operand} {v : Value} (hx : Proofs.YtmmikhhklifjhaaGreatDoor.opv L x = some v) : a.eval x = v := by
  cases x with
  | tmp t => exact h.get hx
  | const u => exact Option.some.inj hx
  | global g => exact Option.some.inj hx
  | func f => exact Option.some.inj hx

/-- One guard says another one. -/
class GI (c g : Bool) : Prop where
  h : c = true → g = true

instance {c : Bool} : GI c c := ⟨id⟩

instance {c g h : Bool} [i : GI c g] : GI (c && h) g := ⟨fun e => i.h (Bool.and_eq_true_iff.1 e).1⟩

/-- What an operand is where c holds. -/
def OG (L : List (Nat × Value)) (x : Operand) (c : Bool) (v : Value) : Prop := c = true → ∀ n a, Ag n a L → a.eval x = v

theorem OG.pl {L : List (Nat × Value)} {x : Operand} {c : Bool} {v : Value} (h : opv L x = some v) : OG L x c v := fun _ _ _ hA => hA.opv h

theorem OG.cv {L : List (Nat × Value)} {x : Operand} {c g : Bool} {v : Value} (h : opv L x = some (cV g v)) [i : GI c g] : OG L x c v := fun hc _ _ hA => (hA.opv h).trans (by rw [i.h hc, cV_true])

/-- A guard's slot. -/
def GU (L : List (Nat × Value)) (t : Nat) (g e : Bool) : Prop := lookupL t L = some (cV g (.bool e))

theorem GU.pl {L : List (Nat × Value)} {t : Nat} {e : Bool} (h : lookupL t L = some (.bool e)) : GU L t true e := h

theorem GU.cv {L : List (Nat × Value)} {t : Nat} {g e : Bool} (h : lookupL t L = some (cV g (.bool e))) : GU L t g e := h

inductive OVs (L : List (Nat × Value)) : List Operand → List Value → Prop
  | nil : OVs L [] []
  | cons {x : Operand} {v : Value} {xs : List Operand} {vs : List Value} (t : OVs L xs vs) (h : opv L x = some v := by rfl) : OVs L (x :: xs) (v :: vs)

theorem OVs.map {n : Nat} {a : Act} {L : List (Nat × Value)} {xs : List Operand} {vs : List Value} (hA : Ag n a L) (h : OVs L xs vs) : xs.toArray.map a.eval = vs.toArray := by
  refine map_arr ?_
  induction h with
  | nil => exact .nil
  | cons _ h ih => exact .cons (hA.opv h) ih

inductive OGs (L : List (Nat × Value)) (c : Bool) : List Operand → List Value → Prop
  | nil : OGs L c [] []
  | cons {x : Operand} {v : Value} {xs : List Operand} {vs : List Value} (t : OGs L c xs vs) (h : OG L x c v := by first | exact OG.cv rfl | exact OG.pl rfl) : OGs L c (x :: xs) (v :: vs)

theorem OGs.map {n : Nat} {a : Act} {L : List (Nat × Value)} {c : Bool} {xs : List Operand} {vs : List Value} (hA : Ag n a L) (hc : c = true) (h : OGs L c xs vs) : xs.toArray.map a.eval = vs.toArray := by
  refine map_arr ?_
  induction h with
  | nil => exact .nil
  | cons _ h ih => exact .cons (h hc _ _ hA) ih

inductive OPs (L : List (Nat × Value)) (c : Bool) : List (Nat × Operand) → List (Nat × Value) → Prop
  | nil : OPs L c [] []
  | cons {i : Nat} {x : Operand} {v : Value} {xs : List (Nat × Operand)} {vs : List (Nat × Value)} (t : OPs L c xs vs) (h : OG L x c v := by first | exact OG.cv rfl | exact OG.pl rfl) : OPs L c ((i, x) :: xs) ((i, v) :: vs)

theorem OPs.map {n : Nat} {a : Act} {L : List (Nat × Value)} {c : Bool} {xs : List (Nat × Operand)} {vs : List (Nat × Value)} (hA : Ag n a L) (hc : c = true) (h : OPs L c xs vs) : (xs.toArray.map fun (i, x) => (i, a.eval x)) = vs.toArray := by
  refine map_arr2 ?_
  induction h with
  | nil => exact .nil
  | cons _ h ih => exact .cons (h hc _ _ hA) ih

section

variable {P : Program} {ops : Array Oper} {Q : Exit → Act → World → Prop} {X : List Oper → Act → World → Prop} {K C : Act → World → Prop} {n : Nat} {a : Act} {w wa : World} {L : List (Nat × Value)} {G N : List Nat} {bs : List BX} {V : Prop} {r : List Oper}

theorem St.bx (h : St n a w L wa G bs N) (i : Nat) {B : Nat} {T : TypeId} {cs : List Value} (hb : bs[i]? = some (B, T, cs)) : Box w B T cs := h.box _ (List.mem_of_getElem? hb)

theorem St.put {d : Nat} {v : Value} (h : St n a w L wa G bs N) (hd : Nat.blt d n = true) : St n (a.put (some d) v) w ((d, v) :: L) wa G bs N := ⟨h.ag.put hd v, h.chg, h.box, h.nd, h.new, h.nnd⟩

theorem St.act {a' : Act} {L' : List (Nat × Value)} (h : St n a w L wa G bs N) (hA : Ag n a' L') : St n a' w L' wa G bs N := ⟨hA, h.chg, h.box, h.nd, h.new, h.nnd⟩

theorem St.ext {w' : World} (h : St n a w L wa G bs N) (hE : Ext w w') : St n a w' L wa G bs N :=
  ⟨h.ag, h.chg.more hE, fun b hb => (h.box b hb).ext hE, h.nd, fun B hB => (h.new B hB).up hE.size, h.nnd⟩

theorem St.cons {w' : World} {B : Nat} {T : TypeId} {cs : List Value} (h : St n a w L wa G bs N) (hE : Ext w w') (hN : New w B w') (hB : Box w' B T cs) : St n a w' L wa G ((B, T, cs) :: bs) (B :: N) := by
  have h2 := h.ext hE
  refine ⟨h2.ag, h2.chg, fun b hb => ?_, ?_, fun b hb => ?_, ?_⟩
  · rcases List.mem_cons.1 hb with rfl | hb
    · exact hB
    · exact h2.box b hb
  · rw [List.map_cons, List.nodup_cons]
    refine ⟨fun hm => ?_, h.nd⟩
    obtain ⟨b, hb, e⟩ := List.mem_map.1 hm
    have := (h.box b hb).lt
    have := hN.ge
    simp only at e; omega
  · rcases List.mem_cons.1 hb with rfl | hb
    · exact New.of h.chg hN
    · exact h2.new b hb
  · rw [List.nodup_cons]
    refine ⟨fun hm => ?_, h.nnd⟩
    have := (h.new B hm).lt
    have := hN.ge
    omega

/-- Something is known beside. -/
theorem gA {A : Prop} (k : A → Go n L wa w G bs N V C) : Go n L wa w G bs N (A ∧ V) C := fun a s ⟨h, hv⟩ => k h a s hv

/-- Some of the blocks are no longer looked at. -/
def pickB (is : List Nat) (bs : List BX) : List BX := is.filterMap (bs[·]?)

theorem pickB_mem {is : List Nat} {bs : List BX} {b : BX} (h : b ∈ pickB is bs) : b ∈ bs := by
  obtain ⟨i, _, hi⟩ := List.mem_filterMap.1 h
  exact List.mem_of_getElem? hi

theorem pickB_nd {bs : List BX} (hb : (bs.map (·.1)).Nodup) : ∀ {is : List Nat}, is.Nodup → ((pickB is bs).map (·.1)).Nodup
  | [], _ => by simp [pickB]
  | i :: is, h => by
    rw [List.nodup_cons] at h
    have ih := pickB_nd hb h.2
    unfold pickB at ih ⊢
    cases hi : bs[i]? with
    | none => rw [List.filterMap_cons_none hi]; exact ih
    | some b =>
      rw [List.filterMap_cons_some hi, List.map_cons, List.nodup_cons]
      refine ⟨fun hm => ?_, ih⟩
      obtain ⟨c, hc, e⟩ := List.mem_map.1 hm
      obtain ⟨j, hj, hcj⟩ := List.mem_filterMap.1 hc
      have h1 : (bs.map (·.1))[i]? = some b.1 := by rw [List.getElem?_map, hi]; rfl
      have h2 : (bs.map (·.1))[j]? = some b.1 := by rw [List.getElem?_map, hcj, ← e]; rfl
      obtain ⟨hil, h1⟩ := List.getElem?_eq_some_iff.1 h1
      obtain ⟨hjl, h2⟩ := List.getElem?_eq_some_iff.1 h2
      have : i = j := (List.getElem_inj hb).1 (h1.trans h2.symm)
      subst this
      exact h.1 hj

def distinct : List Nat → Bool
  | [] => true
  | i :: r => !(r.contains i) && distinct r

theorem distinct_nd : ∀ {is : List Nat}, distinct is = true → is.Nodup
  | [], _ => by simp
  | i :: r, h => by
    simp only [distinct, Bool.and_eq_true, Bool.not_eq_true', ← Bool.not_eq_true, List.contains_iff_mem] at h
    exact List.nodup_cons.2 ⟨h.1, distinct_nd h.2⟩

theorem gS {c d : Code} (k : Go n L wa w G bs N V (c.wp P (Exit.then (d.wp P Q) Q))) : Go n L wa w G bs N V ((Code.seq c d).wp P Q) := fun a s hv => wp_seq (k a s hv)

theorem gR {id : Nat} {l : List Oper} (k : Go n L wa w G bs N V (wpList P l.toArray Q l)) : Go n L wa w G bs N V ((Code.region id l.toArray false).wp P Q) := fun a s hv => wp_region_lit (k a s hv)

theorem ge (k : Go n L wa w G bs N V (Q .normal)) : Go n L wa w G bs N V (wpList P ops Q []) := k

theorem tn (k : Go n L wa w G bs N V K) : Go n L wa w G bs N V (Exit.then K Q .normal) := k

theorem tr (k : Go n L wa w G bs N V (Q .ret)) : Go n L wa w G bs N V (Exit.then K Q .ret) := k

theorem gk (k : Go n L wa w G bs N V (Q .normal)) : Go n L wa w G bs N V (Code.skip.wp P Q) := fun a s hv => wp_skip (k a s hv)

theorem gx {i : Nat} (k : Go n L wa w G bs N V (Q (.exit i))) : Go n L wa w G bs N V ((Code.exit i).wp P Q) := fun a s hv => wp_exit (k a s hv)

theorem gr (k : Go n L wa w G bs N V (Q .ret)) : Go n L wa w G bs N V (Code.ret.wp P Q) := fun a s hv => wp_ret (k a s hv)

theorem gb {i : Nat} {c : Code} (k : Go n L wa w G bs N V (c.wp P (Exit.inBlock i Q))) : Go n L wa w G bs N V ((Code.block i c).wp P Q) := fun a s hv => wp_block (k a s hv)

theorem gs {c : Code} (k : Go n L wa w G bs N V (c.wp P (Exit.noGoto Q))) : Go n L wa w G bs N V ((Code.scope c).wp P Q) := fun a s hv => wp_scope_straight (k a s hv)

section vals

variable {d : Nat} {op : Op} {ty : TypeId} {pos : String} {after : Array Edge} {v : Value}

theorem gv [i : Stp P ops X] (hr : ∀ a w', St n a w' L wa G bs N → Ext w w' → (execOp a.eval ⟨some d, op, ty, pos, after, none⟩).run P w' = .ok (.value v) w') (k : Go n ((d, v) :: L) wa w G bs N V (X r)) (hd : (i.ok r && Nat.blt d n) = true := by rfl) :
    Go n L wa w G bs N V (X (⟨some d, op, ty, pos, after, none⟩ :: r)) := fun a s hv => by
  rw [Bool.and_eq_true] at hd
  exact Stp.stp hd.1 (fun w' hE => .inl ⟨by simp [Region.wanted], hr a w' (s.ext hE) hE⟩) (k _ (s.put hd.2) hv)

/-- By operands: one, two, three; with something beside. -/
theorem g1 [i : Stp P ops X] {x : Operand} {u : Value} (R : ∀ {ρ : Operand → Value} {w' : World}, ρ x = u → (execOp ρ ⟨some d, op, ty, pos, after, none⟩).run P w' = .ok (.value v) w') (k : Go n ((d, v) :: L) wa w G bs N V (X r)) (hx : opv L x = some u := by rfl) (hd : (i.ok r && Nat.blt d n) = true := by rfl) :
    Go n L wa w G bs N V (X (⟨some d, op, ty, pos, after, none⟩ :: r)) := gv (fun _ _ s _ => R (s.ag.opv hx)) k hd

theorem g2 [i : Stp P ops X] {x y : Operand} {u z : Value} (R : ∀ {ρ : Operand → Value} {w' : World}, ρ x = u → ρ y = z → (execOp ρ ⟨some d, op, ty, pos, after, none⟩).run P w' = .ok (.value v) w') (k : Go n ((d, v) :: L) wa w G bs N V (X r)) (hx : opv L x = some u := by rfl) (hy : opv L y = some z := by rfl) (hd : (i.ok r && Nat.blt d n) = true := by rfl) :
    Go n L wa w G bs N V (X (⟨some d, op, ty, pos, after, none⟩ :: r)) := gv (fun _ _ s _ => R (s.ag.opv hx) (s.ag.opv hy)) k hd

theorem g3 [i : Stp P ops X] {x y q : Operand} {u z t : Value} (R : ∀ {ρ : Operand → Value} {w' : World}, ρ x = u → ρ y = z → ρ q = t → (execOp ρ ⟨some d, op, ty, pos, after, none⟩).run P w' = .ok (.value v) w') (k : Go n ((d, v) :: L) wa w G bs N V (X r)) (hx : opv L x = some u := by rfl) (hy : opv L y = some z := by rfl) (hq : opv L q = some t := by rfl) (hd : (i.ok r && Nat.blt d n) = true := by rfl) :
    Go n L wa w G bs N V (X (⟨some d, op, ty, pos, after, none⟩ :: r)) := gv (fun _ _ s _ => R (s.ag.opv hx) (s.ag.opv hy) (s.ag.opv hq)) k hd

theorem g2s [i : Stp P ops X] {x y : Operand} {u z : Value} {A : Prop} (R : ∀ {ρ : Operand → Value} {w' : World}, ρ x = u → ρ y = z → A → (execOp ρ ⟨some d, op, ty, pos, after, none⟩).run P w' = .ok (.value v) w') (k : Go n ((d, v) :: L) wa w G bs N V (X r)) (hx : opv L x = some u := by rfl) (hy : opv L y = some z := by rfl) (hd : (i.ok r && Nat.blt d n) = true := by rfl) :
    Go n L wa w G bs N (A ∧ V) (X (⟨some d, op, ty, pos, after, none⟩ :: r)) := gA fun h => gv (fun _ _ s _ => R (s.ag.opv hx) (s.ag.opv hy) h) k hd

theorem gM [i : Stp P ops X] {x : Operand} (k : Go n ((d, v) :: L) wa w G bs N V (X r)) (hx : opv L x = some v := by rfl) (hd : (i.ok r && Nat.blt d n) = true := by rfl) : Go n L wa w G bs N V (X (⟨some d, .move x, ty, pos, after, none⟩ :: r)) := gv (fun _ _ s _ => r_move (s.ag.opv hx)) k hd

theorem gN [i : Stp P ops X] {x : Operand} (k : Go n ((d, v) :: L) wa w G bs N V (X r)) (hx : opv L x = some v := by rfl) (hd : (i.ok r && Nat.blt d n) = true := by rfl) : Go n L wa w G bs N V (X (⟨some d, .assign x, ty, pos, after, none⟩ :: r)) := gv (fun _ _ s _ => r_assign (s.ag.opv hx)) k hd

variable {j tj : Nat} {want g e : Bool}

end vals

end
end


end Go.Proofs.YtmmikhhklifjhaaGreatDoor
