/-
  PRINTED BY PROGRAM: for each function its condition (vc), and that this suffices (ok).
-/
import Derived.Test.YtcploacnonngaaaDoorQFormatPutsGT
namespace Go.Proofs.YtcploacnonngaaaDoor
open Go.RowKit
set_option linter.unusedVariables false

/-- The condition of topiary/format.New. -/
def format_New.vc  (R : Value → World → Prop) (w : World) : Prop :=
∀ (w3 : World) (B_2 : Nat), New w B_2 w3 → Chg [] w w3 →
∀ (_ : Box w3 B_2 47 [Sl.v Sl.nil]),
R (.pointer (some (⟨B_2, 0, none⟩ : Addr))) w3
set_option maxHeartbeats 1000000 in
set_option maxRecDepth 10000 in
theorem format_New.ok  {R : Value → World → Prop} {w : World} (ht0 : format_New.vc  R w) : Calls Tryd.prog 6 #[] w (Ret R) := by
  refine go _ Tryd.func6 Tryd.ntmps6 ht0 ?_
  refine gS <| gR <| gN <| ge <| tn <| gS <| gR ?_
  refine gbu ti_47 Tryd.underlying47 pl_47 (OPs.of rfl) ?_
  refine nb fun w3 B_2 => ?_
  refine gN <| ge <| tn <| gr <| gT1 ?_
  refine gX 0 ?_
  exact gz1

/-- The condition of (*topiary/format.List).Push. -/
def format_List_Push.vc (l_1 : Addr) (e_2_ID : Int) (e_2_Name : Str) (e_2_Attrs : Sl) (R : Value → World → Prop) (w : World) : Prop :=
∀ (w4 : World) (B_3 : Nat), New w B_3 w4 → Chg [] w w4 →
CallK Tryd.prog 21 #[.agg #[.int .i64 e_2_ID, .string (Bs e_2_Name), Sl.v e_2_Attrs]] w4 [B_3] (fun v w7 => ∃ (r_6_name : Str) (r_6_attrs : Str), v = .agg #[.string (Bs r_6_name), .string (Bs r_6_attrs)] ∧
∀ (w10 : World) (B_8 : Nat), New w7 B_8 w10 → Chg [] w7 w10 →
RunK Tryd.prog (Instr.makeMap 53 none) w10 [B_3, B_8] (fun v w12 => ∃ (r_13 : Option Nat), v = .map r_13 ∧
CallK Tryd.prog 22 #[.pointer (some l_1)] w12 [B_3, B_8] (fun v w17 => ∃ (r_16 : Int), v = .int .i64 r_16 ∧
∃ (J_22 : Int → Int → World → Prop) (mu_23 : Int → Int → World → Nat),
J_22 (-1) r_16 w17 ∧
(∀ (first_19 : Int) (i_20 : Int) (w21 : World), J_22 first_19 i_20 w21 →
∃ (x_131 : Sl), (w21.cell? (l_1.add 0) = some (Sl.v x_131)) ∧
((i_20 < (x_131.n : Int)) →
∃ (x_133 : Sl), (w21.cell? (l_1.add 0) = some (Sl.v x_133)) ∧
((0 : Int) ≤ i_20 ∧ i_20 < (x_133.n : Int)) ∧ ∃ p_134 : Addr, x_133.a = some p_134 ∧
∃ (x_135_ID : Int) (x_135_Name : Str) (x_135_Attrs : Sl), (Cells w21 ((p_134.add (i_20.toNat * 4)).add 0) [.int .i64 x_135_ID, .string (Bs x_135_Name), Sl.v x_135_Attrs]) ∧
CallK Tryd.prog 21 #[.agg #[.int .i64 x_135_ID, .string (Bs x_135_Name), Sl.v x_135_Attrs]] w21 [B_3, B_8] (fun v w137 => ∃ (r_136_name : Str) (r_136_attrs : Str), v = .agg #[.string (Bs r_136_name), .string (Bs r_136_attrs)] ∧
∀ (w156 : World) (B_138 : Nat), New w137 B_138 w156 → Chg [] w137 w156 →
∃ (r_164 : Int), (∀ w' : World, Ext w156 w' → (Instr.lookup 53 (.map r_13) (.agg #[.string (Bs r_136_name), .string (Bs r_136_attrs)]) false).run Tryd.prog w' = .ok (.int .i64 r_164) w') ∧
(I64 (r_164 + 1)) ∧
RunK Tryd.prog (Instr.mapEntry 53 (.map r_13) (.agg #[.string (Bs r_136_name), .string (Bs r_136_attrs)])) w156 [B_3, B_8, B_138] (fun v w178 => ∃ (r_184 : Int) (s_185 : Int), v = .tuple #[.int .i64 r_184, .int .i64 s_185] ∧
(∀ w' : World, Ext w178 w' → (Instr.lookup 53 (.map r_13) (.agg #[.string (Bs r_136_name), .string (Bs r_136_attrs)]) false).run Tryd.prog w' = .ok (.int .i64 r_164) w') ∧
∀ (w214 : World), Chg [] w178 w214 →
RunU Tryd.prog (Instr.entryStore 53 (.map r_13) (.int .i64 s_185) (.int .i64 (r_164 + 1))) w214 [B_3, B_8, B_138] (fun w227 =>
(I64 (i_20 + 1)) ∧
J_22 (bif ((decide (r_136_name = r_6_name ∧ r_136_attrs = r_6_attrs)) && (decide (first_19 < 0))) then i_20 else first_19) (i_20 + 1) w227 ∧ mu_23 (bif ((decide (r_136_name = r_6_name ∧ r_136_attrs = r_6_attrs)) && (decide (first_19 < 0))) then i_20 else first_19) (i_20 + 1) w227 < mu_23 first_19 i_20 w21)))) ∧
((¬ (i_20 < (x_131.n : Int))) →
∃ (r_239 : Int), ((Instr.lookup 53 (.map r_13) (.agg #[.string (Bs r_6_name), .string (Bs r_6_attrs)]) false).run Tryd.prog w21 = .ok (.int .i64 r_239) w21) ∧
∃ J_251 : World → Prop,
(((3 ≤ r_239) →
∃ (x_252 : Sl), (w21.cell? (l_1.add 0) = some (Sl.v x_252)) ∧
(I64 (first_19 + 1)) ∧
CallK Tryd.prog 23 #[Sl.v x_252, .int .i64 first_19, .int .i64 (first_19 + 1)] w21 [B_3] (fun v w254 => ∃ (r_253 : Sl), v = Sl.v r_253 ∧
∃ (B_255 o_256 : Nat) (T_257 : TypeId) (cs_258 : List Value), (l_1.add 0) = ⟨B_255, o_256, none⟩ ∧ Box w254 B_255 T_257 cs_258 ∧ o_256 + 1 ≤ cs_258.length ∧ (∀ b ∈ [B_3], b ≠ B_255) ∧
(∀ w259 : World, Chg [B_255] w254 w259 → Box w259 B_255 T_257 (putAt cs_258 o_256 [Sl.v r_253]) →
J_251 w259))) ∧
((¬ (3 ≤ r_239)) →
J_251 w21)) ∧
(∀ (w250 : World), J_251 w250 →
∀ (w265 : World), Chg [] w250 w265 →
∃ (x_273 : Sl), (w265.cell? (l_1.add 0) = some (Sl.v x_273)) ∧
∃ V_278 : Int → Str → Sl → World → Prop, (∀ r_277_ID : Int, ∀ r_277_Name : Str, ∀ r_277_Attrs : Sl, ∀ w' w'' : World, Ext w' w'' → V_278 r_277_ID r_277_Name r_277_Attrs w' → V_278 r_277_ID r_277_Name r_277_Attrs w'') ∧
(∀ w' : World, Ext w265 w' → Calls Tryd.prog 24 #[.agg #[.int .i64 e_2_ID, .string (Bs e_2_Name), Sl.v e_2_Attrs]] w' (Ret fun v w'' => Ext w' w'' ∧ ∃ r_277_ID : Int, ∃ r_277_Name : Str, ∃ r_277_Attrs : Sl, v = .agg #[.int .i64 r_277_ID, .string (Bs r_277_Name), Sl.v r_277_Attrs] ∧ V_278 r_277_ID r_277_Name r_277_Attrs w'')) ∧
∀ (w292 : World) (r_277_ID : Int) (r_277_Name : Str) (r_277_Attrs : Sl) (B_286 : Nat), Ext w265 w292 → V_278 r_277_ID r_277_Name r_277_Attrs w292 → w265.heap.size ≤ B_286 → Box w292 B_286 49 [.int .i64 r_277_ID, .string (Bs r_277_Name), Sl.v r_277_Attrs, .bool false] → 
∀ (_ : Box w292 B_286 49 [.int .i64 r_277_ID, .string (Bs r_277_Name), Sl.v r_277_Attrs, .bool false]),
RunK Tryd.prog (Builtin.append_ #[45, 45] 45 #[Sl.v x_273, Sl.v (Sl.mk (some ⟨B_286, 0, none⟩) 1 1)]) w292 [B_3] (fun v w314 => ∃ (r_320 : Sl), v = Sl.v r_320 ∧
∀ (w323 : World), Chg [] w314 w323 →
∀ (w334 : World), Chg [] w323 w334 →
∃ (B_348 o_349 : Nat) (T_350 : TypeId) (cs_351 : List Value), (l_1.add 0) = ⟨B_348, o_349, none⟩ ∧ Box w334 B_348 T_350 cs_351 ∧ o_349 + 1 ≤ cs_351.length ∧ (∀ b ∈ [B_3], b ≠ B_348) ∧
(∀ w343 : World, Chg [B_348] w334 w343 → Box w343 B_348 T_350 (putAt cs_351 o_349 [Sl.v r_320]) →
R (.tuple #[]) w343))))))))
set_option maxHeartbeats 1000000 in
set_option maxRecDepth 10000 in
theorem format_List_Push.ok (l_1 : Addr) (e_2_ID : Int) (e_2_Name : Str) (e_2_Attrs : Sl) {R : Value → World → Prop} {w : World} (ht0 : format_List_Push.vc l_1 e_2_ID e_2_Name e_2_Attrs R w) : Calls Tryd.prog 9 #[.pointer (some l_1), .agg #[.int .i64 e_2_ID, .string (Bs e_2_Name), Sl.v e_2_Attrs]] w (Ret R) := by
  refine go _ Tryd.func9 Tryd.ntmps9 ht0 ?_
  refine gS <| gR <| nb fun w4 B_3 => ge <| tn <| gS <| gR ?_
  refine gBN 0 3 Tryd.underlying31 ti_31 <| gT1 ?_
  refine gC [0] Tryd.func21 fun _ w7 => gE fun r_6_name => gE fun r_6_attrs => gQ ?_
  refine na ti_51 fun w9 B_8 => ?_
  refine wn 0 0 ti_51 fun w10 => ge <| tn <| gS <| gR <| gT1 ?_
  refine gR0 [1, 0] r_makeMap fun _ w12 => gE fun r_13 => gQ ?_
  refine gN <| ge <| tn <| gS <| gR ?_
  refine gN <| ge <| tn <| gS <| gS <| gR ?_
  refine gM ?_
  refine gC [1, 0] Tryd.func22 fun _ w17 => gE fun r_16 => gQ ?_
  refine gN <| ge <| tn <| gb <| gE fun _ => gE fun mu => ?_
  refine l2 mu (fun first_19 i_20 => [(6, .int .i64 first_19), (7, .int .i64 i_20)]) [(0, _), (3, _), (4, _), (5, _)] (fun _ _ => []) [(B_3, _, _), (B_8, _, _)] [1, 0] fun first_19 i_20 w21 _ => gS <| gS <| gR ?_
  refine gM ?_
  refine gM ?_
  refine g1 r_nilCheck ?_
  refine gF 0 Tryd.underlying47 ti_45 ?_
  refine gE fun x_131 => gL Tryd.underlying45 ?_
  refine g1 (fun hx0 => r_len hx0 Tryd.underlying45) ?_
  refine g2 r_lss <| ge <| tn ?_
  refine gi dT dF ?_ ?_
  · refine gk <| tn <| gS <| gb <| gS <| gR <| gM ?_
    refine g1 r_nilCheck ?_
    refine gF 0 Tryd.underlying47 ti_45 ?_
    refine gE fun x_133 => gL Tryd.underlying45 ?_
    refine gM ?_
    refine gI1 Tryd.underlying45 ti_49 fun p_134 => ?_
    refine gF 0 Tryd.underlying49 ti_31 ?_
    refine gE fun x_135_ID => gE fun x_135_Name => gE fun x_135_Attrs => gLN Tryd.underlying31 ti_31 ?_
    refine gC [0, 1] Tryd.func21 fun _ w137 => gE fun r_136_name => gE fun r_136_attrs => gQ ?_
    refine na ti_51 fun w139 B_138 => ?_
    refine wn 0 0 ti_51 fun w140 => ge <| tn <| gS <| gS <| gR ?_
    refine gBN 0 2 Tryd.underlying51 ti_51 ?_
    refine gBN 2 2 Tryd.underlying51 ti_51 ?_
    refine g2 (fun hx0 hx1 => r_aeql hx0 hx1 (eq_51 _ _ _ _)) ?_
    refine gM ?_
    refine G1 r_move ?_
    refine G2 r_lss ?_
    refine gpa <| ge <| tn ?_
    refine gp [(6, .int .i64 (bif ((decide (r_136_name = r_6_name ∧ r_136_attrs = r_6_attrs)) && (decide (first_19 < 0))) then i_20 else first_19))] [(0, _), (3, _), (4, _), (5, _), (7, _), (8, _)] (fun hc => ?_) (fun hc => ?_) ?_
    · refine gR <| gM ?_
      refine gN <| ge ?_
      exact gp' ⟨by rw [hc]; rfl, trivial⟩
    · exact gk <| gp' ⟨by rw [hc]; rfl, trivial⟩
    · refine tn ?_
      intro a146 s145 ht147
      have hA146 := s145.ag
      have hB148 := s145.bx 1 rfl
      have hB149 := s145.bx 2 rfl
      have hB150 := s145.bx 0 rfl
      have hC151 := s145.chg
      have hN152 := s145.new B_138 (by simp)
      have hne153 : B_3 ≠ B_8 := s145.ne 1 2
      have hne154 : B_3 ≠ B_138 := s145.ne 1 0
      have hne155 : B_8 ≠ B_138 := s145.ne 2 0
      let D237 : List (List Nat) := [[], [], [0, 1], [0, 1, 2], [0, 1], [0, 1, 4], [0, 1, 2, 3, 4, 5]]
      refine draw' (by kernel_rfl) fun w156 hE157 => ?_
      have hB158 := hB148.ext hE157
      have hB159 := hB149.ext hE157
      have hB160 := hB150.ext hE157
      have hC161 := hC151.more hE157
      have hN162 := hN152.up hE157.size
      have ht163 := ht147 w156 B_138 hN162  hC161
      obtain ⟨r_164, hx165, ht166⟩ := ht163
      obtain ⟨hS167, ht168⟩ := ht166
      refine startF (D := D237) (Fs := [0, 1, 2, 3]) (Ef := [(0, fun v _ => v = .map r_13), (1, fun v _ => v = .agg #[.string (Bs r_136_name), .string (Bs r_136_attrs)]), (2, fun v _ => v = .int .i64 r_164), (3, fun v _ => v = .int .i64 (r_164 + 1))]) (by kernel_rfl) ?_
      refine oneF (c := 4) hA146 rfl (by kernel_rfl) (constF ⟨fun _ _ _ h => by first | exact h | (change _ = _ at h; change _ = _; exact h), fun _ _ _ h => by first | exact h | (change _ = _ at h; change _ = _; exact h), fun _ _ _ h => by first | exact h | (change _ = _ at h; change _ = _; exact h), fun _ _ _ h => by first | exact h | (change _ = _ at h; change _ = _; exact h), trivial⟩) ⟨?_, ?_, ?_, ?_, trivial⟩ ?_
      · intro a hT
        have hAp := hT.ag hA146 [(5, .map r_13)] ⟨rfl, trivial⟩ (by kernel_rfl)
        exact opk_val hAp rfl (r_move (hAp.get rfl)) fun _ _ e => ⟨_, e, rfl, fun _ => Eq.refl _⟩
      · intro a hT
        have hAp := hT.ag hA146 [(8, .pointer (some (⟨B_138, 0, none⟩ : Addr)))] ⟨rfl, trivial⟩ (by kernel_rfl)
        exact opk_val hAp rfl (r_loadN (cs := [.string (Bs r_136_name), .string (Bs r_136_attrs)]) Tryd.underlying51 rfl ti_51 (hAp.get rfl) ((hB160.ext hT.chg).part 0 _ rfl)) fun _ _ e => ⟨_, e, rfl, fun _ => Eq.refl _⟩
      · intro a hT
        have hAp := hT.ag hA146 [] trivial (by kernel_rfl)
        have e169 : a.tmps.getD 40 undef = .map r_13 := hT.vals 0 rfl 40 rfl
        have hAp := hAp.add e169
        have e170 : a.tmps.getD 41 undef = .agg #[.string (Bs r_136_name), .string (Bs r_136_attrs)] := hT.vals 1 rfl 41 rfl
        have hAp := hAp.add e170
        exact opk_val hAp rfl (r_lookup (hAp.get rfl) (hAp.get rfl) (hx165 _ hT.chg)) fun _ _ e => ⟨_, e, rfl, fun _ => Eq.refl _⟩
      · intro a hT
        have hAp := hT.ag hA146 [] trivial (by kernel_rfl)
        have e171 : a.tmps.getD 42 undef = .int .i64 r_164 := hT.vals 2 rfl 42 rfl
        have hAp := hAp.add e171
        exact opk_val hAp rfl (r_addI (hAp.get rfl) rfl hS167) fun _ _ e => ⟨_, e, rfl, fun _ => Eq.refl _⟩
      · intro a172 hT
        have hA172 := hT.ag hA146 [(0, .pointer (some l_1)), (3, .pointer (some (⟨B_3, 0, none⟩ : Addr))), (4, .pointer (some (⟨B_8, 0, none⟩ : Addr))), (5, .map r_13), (6, .int .i64 (bif ((decide (r_136_name = r_6_name ∧ r_136_attrs = r_6_attrs)) && (decide (first_19 < 0))) then i_20 else first_19)), (7, .int .i64 i_20), (8, .pointer (some (⟨B_138, 0, none⟩ : Addr)))] ⟨rfl, rfl, rfl, rfl, rfl, rfl, rfl, trivial⟩ (by kernel_rfl)
        have e173 : a172.tmps.getD 40 undef = .map r_13 := hT.vals 0 rfl 40 rfl
        have hA174 := hA172.add e173
        have e175 : a172.tmps.getD 41 undef = .agg #[.string (Bs r_136_name), .string (Bs r_136_attrs)] := hT.vals 1 rfl 41 rfl
        have hA176 := hA174.add e175
        refine (opk_run hA176 rfl (fun _ _ hr => r_mapEntry (hA176.get rfl) (hA176.get rfl) hr) ht168 fun a177 v183 w178 hA177 heq236 hn180 hz181 hK182 => ?_)
        refine ⟨_, heq236, ?_⟩
        obtain ⟨r_184, s_185, rfl, ht179⟩ := hK182
        have hB186 := hB158.kept hn180 (.head _)
        have hB187 := hB159.kept hn180 (.tail _ (.head _))
        have hB188 := hB160.kept hn180 (.tail _ (.tail _ (.head _)))
        obtain ⟨hf189, ht190⟩ := ht179
        refine PRF_drop (X := [0, 1]) (Fs' := [2, 3]) hA177 (by kernel_rfl) fun a191 hag192 hv193 => ?_
        have hA191 := hag192 [(0, .pointer (some l_1)), (3, .pointer (some (⟨B_3, 0, none⟩ : Addr))), (4, .pointer (some (⟨B_8, 0, none⟩ : Addr))), (5, .map r_13), (6, .int .i64 (bif ((decide (r_136_name = r_6_name ∧ r_136_attrs = r_6_attrs)) && (decide (first_19 < 0))) then i_20 else first_19)), (7, .int .i64 i_20), (44, .tuple #[.int .i64 r_184, .int .i64 s_185])] ⟨rfl, rfl, rfl, rfl, rfl, rfl, rfl, trivial⟩ (by kernel_rfl)
        have e194 : a191.tmps.getD 40 undef = .map r_13 := hv193 0 rfl 40 rfl
        have hA195 := hA191.add e194
        have e196 : a191.tmps.getD 41 undef = .agg #[.string (Bs r_136_name), .string (Bs r_136_attrs)] := hv193 1 rfl 41 rfl
        have hA197 := hA195.add e196
        refine parF (D := D237) (S := [5]) (F := []) (KE := [5]) (E := [(5, fun v _ => v = .int .i64 s_185)]) hA197 rfl (by kernel_rfl) ⟨fun _ _ _ _ h => by first | exact h | (change _ = _ at h; change _ = _; exact h), fun _ _ _ _ h => by first | exact h | (change _ = _ at h; change _ = _; exact h), fun _ _ _ _ h => by first | exact h | (change _ = _ at h; change _ = _; exact h), trivial⟩ ⟨?_, ?_, ?_, trivial⟩ ?_
        · intro a w hT
          have hAp := hT.ag hA197 [(44, .tuple #[.int .i64 r_184, .int .i64 s_185])] ⟨rfl, trivial⟩ (by kernel_rfl)
          exact opk_val hAp rfl (r_extract (hAp.get rfl) rfl) fun _ _ e => ⟨_, e, Chg.refl _ _, fun _ => Eq.refl _⟩
        · intro a w hT
          have hAp := hT.ag hA197 [(40, .map r_13), (41, .agg #[.string (Bs r_136_name), .string (Bs r_136_attrs)])] ⟨rfl, rfl, trivial⟩ (by kernel_rfl)
          exact opk_val hAp rfl (r_lookup (hAp.get rfl) (hAp.get rfl) (hf189 _ hT.chg)) fun _ _ e => ⟨_, e, Chg.refl _ _, fun _ => Eq.refl _⟩
        · intro a w hT
          have hAp := hT.ag hA197 [] trivial (by kernel_rfl)
          have e198 : a.tmps.getD 42 undef = .int .i64 r_164 := hT.vals 2 rfl 42 rfl
          have hAp := hAp.add e198
          exact opk_val hAp rfl (r_addI (hAp.get rfl) rfl hS167) fun _ _ e => ⟨_, e, Chg.refl _ _, fun _ => Eq.refl _⟩
        · intro a199 w200 hE201 hag202 hv203
          have hA199 := hag202 [(0, .pointer (some l_1)), (3, .pointer (some (⟨B_3, 0, none⟩ : Addr))), (4, .pointer (some (⟨B_8, 0, none⟩ : Addr))), (5, .map r_13), (6, .int .i64 (bif ((decide (r_136_name = r_6_name ∧ r_136_attrs = r_6_attrs)) && (decide (first_19 < 0))) then i_20 else first_19)), (7, .int .i64 i_20), (40, .map r_13), (41, .agg #[.string (Bs r_136_name), .string (Bs r_136_attrs)])] ⟨rfl, rfl, rfl, rfl, rfl, rfl, rfl, rfl, trivial⟩ (by kernel_rfl)
          have e205 : a199.tmps.getD 45 undef = .int .i64 s_185 := hv203 5 rfl 45 rfl
          have hA206 := hA199.add e205
          have hB207 := hB186.ext hE201
          have hB208 := hB187.ext hE201
          have hB209 := hB188.ext hE201
          have hC210 : Chg [] w178 w200 := hE201
          have hf211 := fun w' h => hf189 w' (Chg.trans hE201 h)
          refine joinF hA206 (by kernel_rfl) ⟨fun _ _ _ _ h => by first | exact h | (change _ = _ at h; change _ = _; exact h), fun _ _ _ _ h => by first | exact h | (change _ = _ at h; change _ = _; exact h), trivial⟩ ⟨?_, ?_, trivial⟩ ?_
          · intro a w hT
            have hAp := hT.ag hA206 [(40, .map r_13), (41, .agg #[.string (Bs r_136_name), .string (Bs r_136_attrs)])] ⟨rfl, rfl, trivial⟩ (by kernel_rfl)
            exact opk_val hAp rfl (r_lookup (hAp.get rfl) (hAp.get rfl) (hf211 _ hT.chg)) fun _ _ e => ⟨_, e, Chg.refl _ _, fun _ => Eq.refl _⟩
          · intro a w hT
            have hAp := hT.ag hA206 [] trivial (by kernel_rfl)
            have e212 : a.tmps.getD 42 undef = .int .i64 r_164 := hT.vals 2 rfl 42 rfl
            have hAp := hAp.add e212
            exact opk_val hAp rfl (r_addI (hAp.get rfl) rfl hS167) fun _ _ e => ⟨_, e, Chg.refl _ _, fun _ => Eq.refl _⟩
          · intro a213 w214 hE215 hag216 hv217
            have hA213 := hag216 [(0, .pointer (some l_1)), (3, .pointer (some (⟨B_3, 0, none⟩ : Addr))), (4, .pointer (some (⟨B_8, 0, none⟩ : Addr))), (5, .map r_13), (6, .int .i64 (bif ((decide (r_136_name = r_6_name ∧ r_136_attrs = r_6_attrs)) && (decide (first_19 < 0))) then i_20 else first_19)), (7, .int .i64 i_20), (40, .map r_13), (45, .int .i64 s_185)] ⟨rfl, rfl, rfl, rfl, rfl, rfl, rfl, rfl, trivial⟩ (by kernel_rfl)
            have e218 : a213.tmps.getD 43 undef = .int .i64 (r_164 + 1) := hv217 3 rfl 43 rfl
            have hA219 := hA213.add e218
            have hB220 := hB207.ext hE215
            have hB221 := hB208.ext hE215
            have hB222 := hB209.ext hE215
            have hC223 := hC210.more hE215
            have hf224 := fun w' h => hf211 w' (Chg.trans hE215 h)
            have ht225 := ht190 w214    hC223
            refine one (D := D237) (i := 6) rfl (by kernel_rfl) (opk_runU hA219 (fun _ hr => r_entryStore (hA219.get rfl) (hA219.get rfl) (hA219.get rfl) hr) ht225 fun a226 w227 hA226 hn229 hz230 ht228 => ?_)
            have hB231 := hB220.kept hn229 (.head _)
            have hB232 := hB221.kept hn229 (.tail _ (.head _))
            have hB233 := hB222.kept hn229 (.tail _ (.tail _ (.head _)))
            refine PR_end (by kernel_rfl) ?_
            have hA234 := hA226.keep [(0, .pointer (some l_1)), (3, .pointer (some (⟨B_3, 0, none⟩ : Addr))), (4, .pointer (some (⟨B_8, 0, none⟩ : Addr))), (5, .map r_13), (6, .int .i64 (bif ((decide (r_136_name = r_6_name ∧ r_136_attrs = r_6_attrs)) && (decide (first_19 < 0))) then i_20 else first_19)), (7, .int .i64 i_20)] ⟨rfl, rfl, rfl, rfl, rfl, rfl, trivial⟩
            refine gK (bs := [(B_8, 51, [.string (Bs r_6_name), .string (Bs r_6_attrs)]), (B_3, 31, [.int .i64 e_2_ID, .string (Bs e_2_Name), Sl.v e_2_Attrs])]) (N := []) hA234 (Chg.refl [] _) ⟨hB232, hB231, trivial⟩ (by simp [(Ne.symm hne153)]) trivial (by simp) ht228 ?_
            refine bn <| tn <| gR <| gM ?_
            refine g2s r_addI ?_
            refine gN <| ge ?_
            exact k2 [1, 0]
  · refine gx <| te <| te <| bh <| tn <| gS <| gS <| gR <| gM ?_
    refine gBN 1 2 Tryd.underlying51 ti_51 ?_
    refine gE fun r_239 => gA fun hx => ev (fun _ s => r_lookup (s.ag.opv rfl) (s.ag.opv rfl) hx) ?_
    refine g2 r_geq <| ge <| tn <| gE fun J => ?_
    refine m0 [] [(0, _), (3, _)] [] [(B_3, _, _)] [0] ?_ fun  w250 _ => ?_
    · refine gi dT dF ?_ ?_
      · refine gR <| gM ?_
        refine gM ?_
        refine g1 r_nilCheck ?_
        refine gF 0 Tryd.underlying47 ti_45 ?_
        refine gE fun x_252 => gL Tryd.underlying45 ?_
        refine gM ?_
        refine gM ?_
        refine g2s r_addI ?_
        refine gC [0] Tryd.func23 fun _ w254 => gE fun r_253 => gQ ?_
        refine g1 r_nilCheck ?_
        refine gF 0 Tryd.underlying47 ti_45 ?_
        refine wx [0] ti_45 fun B_255 o_256 T_257 cs_258 w259 => ge ?_
        exact j0 [0]
      · exact gk <| j0 [0]
    · refine tn ?_
      intro a262 s261 ht263
      have hA262 := s261.ag
      have hB264 := s261.bx 0 rfl
      let D361 : List (List Nat) := [[], [], [1], [1, 2], [1, 2, 3], [], [5], [5, 6], [5, 6, 7], [1, 2, 3, 4, 5, 6, 7, 8], [0, 1, 2, 3, 4, 5, 6, 7, 8, 9], [0, 1, 2, 3, 4, 5, 6, 7, 8, 9, 10], [0, 1, 2, 3, 4, 5, 6, 7, 8, 9, 10, 11]]
      refine draw' (by kernel_rfl) fun w265 hE266 => ?_
      have hB267 := hB264.ext hE266
      have hC268 : Chg [] w250 w265 := hE266
      have ht269 := ht263 w265    hC268
      refine startF (D := D361) (Fs := [0, 1, 5]) (Ef := [(0, fun v _ => v = .pointer (some l_1)), (1, fun v _ => v = .pointer (some l_1)), (5, fun v _ => v = .agg #[.int .i64 e_2_ID, .string (Bs e_2_Name), Sl.v e_2_Attrs])]) (by kernel_rfl) ?_
      obtain ⟨x_273, hx274, ht275⟩ := ht269
      obtain ⟨V_278, hst279, hc280, ht281⟩ := ht275
      refine parF (D := D361) (S := [2, 3, 4, 6, 7, 8]) (F := []) (KE := [2, 3, 4, 6, 7, 8]) (E := [(2, fun v _ => v = .pointer (some l_1)), (3, fun v _ => v = .pointer (some (l_1.add 0))), (4, fun v _ => v = Sl.v x_273), (6, fun v w' => ∃ r_277_ID : Int, ∃ r_277_Name : Str, ∃ r_277_Attrs : Sl, V_278 r_277_ID r_277_Name r_277_Attrs w' ∧ v = .agg #[.int .i64 r_277_ID, .string (Bs r_277_Name), Sl.v r_277_Attrs]), (7, fun v w' => ∃ r_277_ID : Int, ∃ r_277_Name : Str, ∃ r_277_Attrs : Sl, V_278 r_277_ID r_277_Name r_277_Attrs w' ∧ v = .agg #[.int .i64 r_277_ID, .string (Bs r_277_Name), Sl.v r_277_Attrs, .bool false]), (8, fun v w' => ∃ r_277_ID : Int, ∃ r_277_Name : Str, ∃ r_277_Attrs : Sl, ∃ B_286 : Nat, V_278 r_277_ID r_277_Name r_277_Attrs w' ∧ w265.heap.size ≤ B_286 ∧ Box w' B_286 49 [.int .i64 r_277_ID, .string (Bs r_277_Name), Sl.v r_277_Attrs, .bool false] ∧ v = Sl.v (Sl.mk (some ⟨B_286, 0, none⟩) 1 1))]) hA262 rfl (by kernel_rfl) ⟨fun _ _ _ _ h => by first | exact h | (change _ = _ at h; change _ = _; exact h), fun _ _ _ _ h => by first | exact h | (change _ = _ at h; change _ = _; exact h), fun _ _ _ _ h => by first | exact h | (change _ = _ at h; change _ = _; exact h), fun _ _ _ hE ⟨r_277_ID, r_277_Name, r_277_Attrs, h0_, e⟩ => ⟨r_277_ID, r_277_Name, r_277_Attrs, (hst279 r_277_ID r_277_Name r_277_Attrs _ _ hE h0_), e⟩, fun _ _ _ hE ⟨r_277_ID, r_277_Name, r_277_Attrs, h0_, e⟩ => ⟨r_277_ID, r_277_Name, r_277_Attrs, (hst279 r_277_ID r_277_Name r_277_Attrs _ _ hE h0_), e⟩, fun _ _ _ hE ⟨r_277_ID, r_277_Name, r_277_Attrs, B_286, h0_, h1_, h2_, e⟩ => ⟨r_277_ID, r_277_Name, r_277_Attrs, B_286, (hst279 r_277_ID r_277_Name r_277_Attrs _ _ hE h0_), h1_, (h2_.ext hE), e⟩, fun _ _ _ _ h => by first | exact h | (change _ = _ at h; change _ = _; exact h), fun _ _ _ _ h => by first | exact h | (change _ = _ at h; change _ = _; exact h), fun _ _ _ _ h => by first | exact h | (change _ = _ at h; change _ = _; exact h), trivial⟩ ⟨?_, ?_, ?_, ?_, ?_, ?_, ?_, ?_, ?_, trivial⟩ ?_
      · intro a w hT
        have hAp := hT.ag hA262 [] trivial (by kernel_rfl)
        have e270 : a.tmps.getD 62 undef = .pointer (some l_1) := hT.vals 1 rfl 62 rfl
        have hAp := hAp.add e270
        exact opk_val hAp rfl (r_nilCheck (hAp.get rfl)) fun _ _ e => ⟨_, e, Chg.refl _ _, fun _ => Eq.refl _⟩
      · intro a w hT
        have hAp := hT.ag hA262 [] trivial (by kernel_rfl)
        have e271 : a.tmps.getD 63 undef = .pointer (some l_1) := hT.vals 2 rfl 63 rfl
        have hAp := hAp.add e271
        exact opk_val hAp rfl (r_fieldAddr (hAp.get rfl) Tryd.underlying47 rfl ti_45 (by decide)) fun _ _ e => ⟨_, e, Chg.refl _ _, fun _ => Eq.refl _⟩
      · intro a w hT
        have hAp := hT.ag hA262 [] trivial (by kernel_rfl)
        have e272 : a.tmps.getD 64 undef = .pointer (some (l_1.add 0)) := hT.vals 3 rfl 64 rfl
        have hAp := hAp.add e272
        exact opk_val hAp rfl (r_load1 Tryd.underlying45 rfl (hAp.get rfl) (Ext.cell hT.chg hx274)) fun _ _ e => ⟨_, e, Chg.refl _ _, fun _ => Eq.refl _⟩
      · intro a w hT
        have hAp := hT.ag hA262 [] trivial (by kernel_rfl)
        have e276 : a.tmps.getD 66 undef = .agg #[.int .i64 e_2_ID, .string (Bs e_2_Name), Sl.v e_2_Attrs] := hT.vals 5 rfl 66 rfl
        have hAp := hAp.add e276
        exact opk_callX hAp rfl (r_call (args := #[.agg #[.int .i64 e_2_ID, .string (Bs e_2_Name), Sl.v e_2_Attrs]]) Tryd.func24 (by decide) rfl (map_arr (ml_cons (hAp.get rfl) ml_nil)) rfl) (hc280 w hT.chg) fun _ _ _ _ e ⟨hE, r_277_ID, r_277_Name, r_277_Attrs, he, hV⟩ => ⟨_, e, hE, fun _ => ⟨r_277_ID, r_277_Name, r_277_Attrs, hV, he⟩⟩
      · intro a w hT
        have hAp := hT.ag hA262 [] trivial (by kernel_rfl)
        obtain ⟨r_277_ID, r_277_Name, r_277_Attrs, hf283, e282⟩ := hT.vals 6 rfl 67 rfl
        have hAp := hAp.add e282
        exact opk_val hAp rfl (r_build (vs := #[(0, .agg #[.int .i64 r_277_ID, .string (Bs r_277_Name), Sl.v r_277_Attrs])]) (cells := #[.int .i64 r_277_ID, .string (Bs r_277_Name), Sl.v r_277_Attrs, .bool false]) (map_arr2 (ml2_cons (hAp.get rfl) (ml2_nil))) ti_49 Tryd.underlying49 pl_49 (by kernel_rfl)) fun _ _ e => ⟨_, e, Chg.refl _ _, fun _ => ⟨r_277_ID, r_277_Name, r_277_Attrs, hf283, rfl⟩⟩
      · intro a w hT
        have hAp := hT.ag hA262 [] trivial (by kernel_rfl)
        obtain ⟨r_277_ID, r_277_Name, r_277_Attrs, hf285, e284⟩ := hT.vals 7 rfl 68 rfl
        have hAp := hAp.add e284
        exact opk_new (fun B => .slice (some ⟨B, 0, none⟩) 1 1) hAp rfl (r_buildSlice (vs := #[(0, .agg #[.int .i64 r_277_ID, .string (Bs r_277_Name), Sl.v r_277_Attrs, .bool false])]) (cs := [.int .i64 r_277_ID, .string (Bs r_277_Name), Sl.v r_277_Attrs, .bool false]) (map_arr2 (ml2_cons (hAp.get rfl) (ml2_nil))) Tryd.underlying45 ti_49 rfl rfl (by kernel_rfl)) fun _ w287 B_286 hE288 hN289 hB290 _ e => ⟨_, e, hE288, fun _ => ⟨r_277_ID, r_277_Name, r_277_Attrs, B_286, (hst279 r_277_ID r_277_Name r_277_Attrs _ _ hE288 hf285), Nat.le_trans hT.chg.size hN289.ge, hB290, rfl⟩⟩
      · intro a w hT
        have hAp := hT.ag hA262 [(0, .pointer (some l_1))] ⟨rfl, trivial⟩ (by kernel_rfl)
        exact opk_val hAp rfl (r_move (hAp.get rfl)) fun _ _ e => ⟨_, e, Chg.refl _ _, fun _ => Eq.refl _⟩
      · intro a w hT
        have hAp := hT.ag hA262 [(0, .pointer (some l_1))] ⟨rfl, trivial⟩ (by kernel_rfl)
        exact opk_val hAp rfl (r_move (hAp.get rfl)) fun _ _ e => ⟨_, e, Chg.refl _ _, fun _ => Eq.refl _⟩
      · intro a w hT
        have hAp := hT.ag hA262 [(3, .pointer (some (⟨B_3, 0, none⟩ : Addr)))] ⟨rfl, trivial⟩ (by kernel_rfl)
        exact opk_val hAp rfl (r_loadN (cs := [.int .i64 e_2_ID, .string (Bs e_2_Name), Sl.v e_2_Attrs]) Tryd.underlying31 rfl ti_31 (hAp.get rfl) ((hB267.ext hT.chg).part 0 _ rfl)) fun _ _ e => ⟨_, e, Chg.refl _ _, fun _ => Eq.refl _⟩
      · intro a291 w292 hE293 hag294 hv295
        have hA291 := hag294 [(0, .pointer (some l_1)), (3, .pointer (some (⟨B_3, 0, none⟩ : Addr)))] ⟨rfl, rfl, trivial⟩ (by kernel_rfl)
        have e297 : a291.tmps.getD 65 undef = Sl.v x_273 := hv295 4 rfl 65 rfl
        have hA298 := hA291.add e297
        obtain ⟨r_277_ID, r_277_Name, r_277_Attrs, B_286, hf301, hf302, hf303, e299⟩ := hv295 8 rfl 69 rfl
        have hA300 := hA298.add e299
        have hB304 := hB267.ext hE293
        have hC305 : Chg [] w265 w292 := hE293
        have ht306 := ht281 w292 r_277_ID r_277_Name r_277_Attrs B_286 hE293 hf301 hf302 hf303
        have hne307 : B_3 ≠ B_286 := Nat.ne_of_lt (Nat.lt_of_lt_of_le hB267.lt hf302)
        refine PRF_drop (X := [1, 5]) (Fs' := [0]) hA300 (by kernel_rfl) fun a308 hag309 hv310 => ?_
        have hA308 := hag309 [(0, .pointer (some l_1)), (65, Sl.v x_273), (69, Sl.v (Sl.mk (some ⟨B_286, 0, none⟩) 1 1))] ⟨rfl, rfl, rfl, trivial⟩ (by kernel_rfl)
        refine oneF (c := 9) hA308 rfl (by kernel_rfl) (constF ⟨fun _ _ _ h => by first | exact h | (change _ = _ at h; change _ = _; exact h), trivial⟩) ⟨?_, trivial⟩ ?_
        · intro a hT
          have hAp := hT.ag hA308 [(0, .pointer (some l_1))] ⟨rfl, trivial⟩ (by kernel_rfl)
          exact opk_val hAp rfl (r_move (hAp.get rfl)) fun _ _ e => ⟨_, e, rfl, fun _ => Eq.refl _⟩
        · intro a311 hT
          have hA311 := hT.ag hA308 [(0, .pointer (some l_1)), (65, Sl.v x_273), (69, Sl.v (Sl.mk (some ⟨B_286, 0, none⟩) 1 1))] ⟨rfl, rfl, rfl, trivial⟩ (by kernel_rfl)
          have ht312 := ht306 hf303
          refine (opk_run hA311 rfl (fun _ _ hr => r_append (hA311.get rfl) (hA311.get rfl) hr) ht312 fun a313 v319 w314 hA313 heq360 hn316 hz317 hK318 => ?_)
          refine ⟨_, heq360, ?_⟩
          obtain ⟨r_320, rfl, ht315⟩ := hK318
          have hB321 := hB304.kept hn316 (.head _)
          refine joinF hA313 (by kernel_rfl) ⟨fun _ _ _ _ h => by first | exact h | (change _ = _ at h; change _ = _; exact h), trivial⟩ ⟨?_, trivial⟩ ?_
          · intro a w hT
            have hAp := hT.ag hA313 [(0, .pointer (some l_1))] ⟨rfl, trivial⟩ (by kernel_rfl)
            exact opk_val hAp rfl (r_move (hAp.get rfl)) fun _ _ e => ⟨_, e, Chg.refl _ _, fun _ => Eq.refl _⟩
          · intro a322 w323 hE324 hag325 hv326
            have hA322 := hag325 [(70, Sl.v r_320)] ⟨rfl, trivial⟩ (by kernel_rfl)
            have e327 : a322.tmps.getD 61 undef = .pointer (some l_1) := hv326 0 rfl 61 rfl
            have hA328 := hA322.add e327
            have hB329 := hB321.ext hE324
            have hC330 : Chg [] w314 w323 := hE324
            have ht331 := ht315 w323    hC330
            refine par (D := D361) (S := [10, 11]) (F := []) (V := VL [(10, fun v _ => v = .pointer (some l_1)), (11, fun v _ => v = .pointer (some (l_1.add 0)))]) hA328 (by kernel_rfl) ⟨fun _ _ _ _ h => by first | exact h | (change _ = _ at h; change _ = _; exact h), fun _ _ _ _ h => by first | exact h | (change _ = _ at h; change _ = _; exact h), trivial⟩ ⟨?_, ?_, trivial⟩ ?_
            · intro a w hT
              have hAp := hT.ag hA328 [(61, .pointer (some l_1))] ⟨rfl, trivial⟩ (by kernel_rfl)
              exact opk_val hAp rfl (r_nilCheck (hAp.get rfl)) fun _ _ e => ⟨_, e, Chg.refl _ _, fun _ => Eq.refl _⟩
            · intro a w hT
              have hAp := hT.ag hA328 [] trivial (by kernel_rfl)
              have e332 : a.tmps.getD 71 undef = .pointer (some l_1) := hT.vals 10 rfl 71 rfl
              have hAp := hAp.add e332
              exact opk_val hAp rfl (r_fieldAddr (hAp.get rfl) Tryd.underlying47 rfl ti_45 (by decide)) fun _ _ e => ⟨_, e, Chg.refl _ _, fun _ => Eq.refl _⟩
            · intro a333 w334 hE335 hag336 hv337
              have hA333 := hag336 [(70, Sl.v r_320)] ⟨rfl, trivial⟩ (by kernel_rfl)
              have e339 : a333.tmps.getD 72 undef = .pointer (some (l_1.add 0)) := hv337 11 rfl 72 rfl
              have hA340 := hA333.add e339
              have hB341 := hB329.ext hE335
              have hC342 : Chg [] w323 w334 := hE335
              have ht347 := ht331 w334    hC342
              obtain ⟨B_348, o_349, T_350, cs_351, he352, hb353, hl354, hx355, ht356⟩ := ht347
              refine one (D := D361) (i := 12) rfl (by kernel_rfl) (opk_store hA340 hb353 (r_store (vs := [Sl.v r_320]) (((hA340.get rfl)).trans (congrArg (fun a => Value.pointer (some a)) he352)) (hA340.get rfl) rfl ti_45 hb353 (Nat.ble_eq_true_of_le hl354) (ones_all [Sl.v r_320] rfl)) fun a344 w343 hS345 hB346 hA344 => ?_)
              have hB357 := hB341.keep hS345 (by have := hx355 B_3 (by simp); simpa using this)
              have ht358 := ht356 w343 hS345 hB346
              refine PR_end (by kernel_rfl) ?_
              have hA359 := hA344.keep [] trivial
              refine gK (bs := []) (N := []) hA359 (Chg.refl [] _) trivial (by simp) trivial (by simp) ht358 ?_
              exact gze <| gz0

/-- The condition of (*topiary/format.List).Place. -/
def format_List_Place.vc (l_1 : Addr) (id_2 : Int) (R : Value → World → Prop) (w : World) : Prop :=
∀ (w4 : World) (B_3 : Nat), New w B_3 w4 → Chg [] w w4 →
∃ (x_6 : Sl), (w4.cell? (l_1.add 0) = some (Sl.v x_6)) ∧
∀ (_ : Box w4 B_3 3 [.int .i64 id_2]),
CallK Tryd.prog 25 #[Sl.v x_6, .func (.func 26) #[] #[.pointer (some (⟨B_3, 0, none⟩ : Addr))]] w4 [] (fun v w9 => ∃ (r_8 : Int), v = .int .i64 r_8 ∧
R (.int .i64 r_8) w9)
set_option maxHeartbeats 1000000 in
set_option maxRecDepth 10000 in
theorem format_List_Place.ok (l_1 : Addr) (id_2 : Int) {R : Value → World → Prop} {w : World} (ht0 : format_List_Place.vc l_1 id_2 R w) : Calls Tryd.prog 10 #[.pointer (some l_1), .int .i64 id_2] w (Ret R) := by
  refine go _ Tryd.func10 Tryd.ntmps10 ht0 ?_
  refine gS <| gR <| nb fun w4 B_3 => ?_
  refine gN <| ge <| tn <| gS <| gR ?_
  refine gM ?_
  refine g1 r_nilCheck ?_
  refine gF 0 Tryd.underlying47 ti_45 <| gT1 ?_
  refine gE fun x_6 => gL Tryd.underlying45 ?_
  refine g1 (fun hx0 => r_makeFunc (f := #[]) (c := #[.pointer (some (⟨B_3, 0, none⟩ : Addr))]) (map_arr ml_nil) (map_arr (ml_cons hx0 ml_nil))) ?_
  refine gX 0 ?_
  refine gC [] Tryd.func25 fun _ w9 => gE fun r_8 => gQ ?_
  refine gN <| ge <| tn <| gr ?_
  exact gz1

/-- The condition of (*topiary/format.List).Len. -/
def format_List_Len.vc (l_1 : Addr) (R : Value → World → Prop) (w : World) : Prop :=
∃ (x_3 : Sl), (w.cell? (l_1.add 0) = some (Sl.v x_3)) ∧
R (.int .i64 (x_3.n : Int)) w
set_option maxHeartbeats 1000000 in
set_option maxRecDepth 10000 in
theorem format_List_Len.ok (l_1 : Addr) {R : Value → World → Prop} {w : World} (ht0 : format_List_Len.vc l_1 R w) : Calls Tryd.prog 13 #[.pointer (some l_1)] w (Ret R) := by
  refine go _ Tryd.func13 Tryd.ntmps13 ht0 ?_
  refine gS <| gR <| gN <| ge <| tn <| gS <| gR ?_
  refine gM ?_
  refine g1 r_nilCheck ?_
  refine gF 0 Tryd.underlying47 ti_45 ?_
  refine gE fun x_3 => gL Tryd.underlying45 ?_
  refine g1 (fun hx0 => r_len hx0 Tryd.underlying45) ?_
  refine gN <| ge <| tn <| gr ?_
  exact gz1

/-- The condition of (*topiary/format.List).Last. -/
def format_List_Last.vc (l_1 : Addr) (name_2 : Str) (R : Value → World → Prop) (w : World) : Prop :=
∀ (w4 : World) (B_3 : Nat), New w B_3 w4 → Chg [] w w4 →
∃ (x_6 : Sl), (w4.cell? (l_1.add 0) = some (Sl.v x_6)) ∧
(I64 ((x_6.n : Int) - 1)) ∧
∃ (J_10 : Int → World → Prop) (mu_11 : Int → World → Nat),
J_10 ((x_6.n : Int) - 1) w4 ∧
(∀ (i_8 : Int) (w9 : World), J_10 i_8 w9 →
CallK Tryd.prog 22 #[.pointer (some l_1)] w9 [B_3] (fun v w28 => ∃ (r_27 : Int), v = .int .i64 r_27 ∧
((r_27 ≤ i_8) →
∃ (x_30 : Sl), (w28.cell? (l_1.add 0) = some (Sl.v x_30)) ∧
((0 : Int) ≤ i_8 ∧ i_8 < (x_30.n : Int)) ∧ ∃ p_31 : Addr, x_30.a = some p_31 ∧
∃ (x_32 : Str), (w28.cell? (((p_31.add (i_8.toNat * 4)).add 0).add 1) = some (.string (Bs x_32))) ∧
((x_32 = name_2) →
∃ (x_34 : Sl), (w28.cell? (l_1.add 0) = some (Sl.v x_34)) ∧
((0 : Int) ≤ i_8 ∧ i_8 < (x_34.n : Int)) ∧ ∃ p_35 : Addr, x_34.a = some p_35 ∧
∃ (x_36_ID : Int) (x_36_Name : Str) (x_36_Attrs : Sl), (Cells w28 ((p_35.add (i_8.toNat * 4)).add 0) [.int .i64 x_36_ID, .string (Bs x_36_Name), Sl.v x_36_Attrs]) ∧
CallK Tryd.prog 24 #[.agg #[.int .i64 x_36_ID, .string (Bs x_36_Name), Sl.v x_36_Attrs]] w28 [B_3] (fun v w38 => ∃ (r_37_ID : Int) (r_37_Name : Str) (r_37_Attrs : Sl), v = .agg #[.int .i64 r_37_ID, .string (Bs r_37_Name), Sl.v r_37_Attrs] ∧
∀ (w39 : World), Chg [B_3] w38 w39 →
R (.tuple #[.agg #[.int .i64 r_37_ID, .string (Bs r_37_Name), Sl.v r_37_Attrs], .bool true]) w39)) ∧
((¬ (x_32 = name_2)) →
(I64 (i_8 - 1)) ∧
J_10 (i_8 - 1) w28 ∧ mu_11 (i_8 - 1) w28 < mu_11 i_8 w9)) ∧
((¬ (r_27 ≤ i_8)) →
∀ (w43 : World), Chg [B_3] w28 w43 →
R (.tuple #[.agg #[.int .i64 0, .string (Bs ([] : Str)), Sl.v Sl.nil], .bool false]) w43)))
set_option maxHeartbeats 1000000 in
set_option maxRecDepth 10000 in
theorem format_List_Last.ok (l_1 : Addr) (name_2 : Str) {R : Value → World → Prop} {w : World} (ht0 : format_List_Last.vc l_1 name_2 R w) : Calls Tryd.prog 14 #[.pointer (some l_1), .string (Bs name_2)] w (Ret R) := by
  refine go _ Tryd.func14 Tryd.ntmps14 ht0 ?_
  refine gS <| gR <| na ti_31 fun w4 B_3 => ?_
  refine gN <| ge <| tn <| gS <| gS <| gR ?_
  refine gM ?_
  refine g1 r_nilCheck ?_
  refine gF 0 Tryd.underlying47 ti_45 <| gT1 ?_
  refine gE fun x_6 => gL Tryd.underlying45 ?_
  refine g1 (fun hx0 => r_len hx0 Tryd.underlying45) ?_
  refine g2s r_subI ?_
  refine gN <| ge <| tn <| gb <| gE fun _ => gE fun mu => ?_
  refine l1 mu (fun i_8 => [(6, .int .i64 i_8)]) [(0, _), (1, _), (4, _)] (fun _ => []) [(B_3, _, _)] [0] fun i_8 w9 _ => gS <| gS <| gR ?_
  refine gM ?_
  refine gM ?_
  refine gC [0] Tryd.func22 fun _ w28 => gE fun r_27 => gQ ?_
  refine g2 r_geq <| ge <| tn ?_
  refine gi dT dF ?_ ?_
  · refine gk <| tn <| gS <| gb <| gS <| gR <| gM ?_
    refine g1 r_nilCheck ?_
    refine gF 0 Tryd.underlying47 ti_45 ?_
    refine gE fun x_30 => gL Tryd.underlying45 ?_
    refine gM ?_
    refine gI1 Tryd.underlying45 ti_49 fun p_31 => ?_
    refine gF 0 Tryd.underlying49 ti_31 ?_
    refine gF 1 Tryd.underlying31 ti_9 ?_
    refine gE fun x_32 => gL Tryd.underlying9 ?_
    refine gM ?_
    refine g2 r_seql <| ge <| tn ?_
    refine gi dT dF ?_ ?_
    · refine gS <| gR <| gM ?_
      refine g1 r_nilCheck ?_
      refine gF 0 Tryd.underlying47 ti_45 ?_
      refine gE fun x_34 => gL Tryd.underlying45 ?_
      refine gM ?_
      refine gI1 Tryd.underlying45 ti_49 fun p_35 => ?_
      refine gF 0 Tryd.underlying49 ti_31 ?_
      refine gE fun x_36_ID => gE fun x_36_Name => gE fun x_36_Attrs => gLN Tryd.underlying31 ti_31 ?_
      refine gC [0] Tryd.func24 fun _ w38 => gE fun r_37_ID => gE fun r_37_Name => gE fun r_37_Attrs => gQ ?_
      refine wo 0 ti_31 fun w39 => ?_
      refine gN <| ge <| tn <| gr <| br <| tr <| tr <| br <| tr <| gT0 ?_
      exact gz [.agg #[.int .i64 r_37_ID, .string (Bs r_37_Name), Sl.v r_37_Attrs], .bool true] rfl (fun _ s => ⟨res_of_cell s.ag rfl (s.bx 0 rfl) Tryd.underlying31 rfl ti_31, res_of_tmp s.ag rfl, trivial⟩)
    · refine gk <| bn <| tn <| gR <| gM ?_
      refine g2s r_subI ?_
      refine gN <| ge ?_
      exact k1 [0]
  · refine gx <| te <| te <| bh <| tn <| gS <| gR <| gbu ti_31 Tryd.underlying31 pl_31 (OPs.of rfl) ?_
    refine wo 0 ti_31 fun w43 => ?_
    refine gN <| ge <| tn <| gr <| gT0 ?_
    exact gz [.agg #[.int .i64 0, .string (Bs ([] : Str)), Sl.v Sl.nil], .bool false] rfl (fun _ s => ⟨res_of_cell s.ag rfl (s.bx 0 rfl) Tryd.underlying31 rfl ti_31, res_of_tmp s.ag rfl, trivial⟩)

/-- The condition of (*topiary/format.List).Clear. -/
def format_List_Clear.vc (l_1 : Addr) (R : Value → World → Prop) (w : World) : Prop :=
∀ (w2 : World), Chg [] w w2 →
∃ (x_3 : Sl), (w2.cell? (l_1.add 0) = some (Sl.v x_3)) ∧
∃ (r_5 : Int), (∀ w' : World, Ext w2 w' → Calls Tryd.prog 22 #[.pointer (some l_1)] w' (Ret fun v w'' => Ext w' w'' ∧ v = .int .i64 r_5)) ∧
(I64 (r_5 - 1)) ∧
((0 : Int) ≤ max 0 (r_5 - 1) ∧ max 0 (r_5 - 1) ≤ (x_3.c : Int)) ∧
∀ (w9 : World), Chg [] w2 w9 →
∃ (B_10 o_11 : Nat) (T_12 : TypeId) (cs_13 : List Value), (l_1.add 0) = ⟨B_10, o_11, none⟩ ∧ Box w9 B_10 T_12 cs_13 ∧ o_11 + 1 ≤ cs_13.length ∧ (∀ b ∈ [], b ≠ B_10) ∧
(∀ w14 : World, Chg [B_10] w9 w14 → Box w14 B_10 T_12 (putAt cs_13 o_11 [Sl.v (Sl.cut x_3 4 0 (max 0 (r_5 - 1)).toNat x_3.c)]) →
R (.tuple #[]) w14)
set_option maxHeartbeats 1000000 in
set_option maxRecDepth 10000 in
theorem format_List_Clear.ok (l_1 : Addr) {R : Value → World → Prop} {w : World} (ht0 : format_List_Clear.vc l_1 R w) : Calls Tryd.prog 16 #[.pointer (some l_1)] w (Ret R) := by
  refine go _ Tryd.func16 Tryd.ntmps16 ht0 ?_
  refine gD fun w2 => gT0 <| gE fun x_3 => gA fun hx4 => gE fun r_5 => gA fun hc6 => gA fun hS7 => gA fun hS8 => ?_
  refine gW 0 12 [(6, rsU (.int .i64 r_5))] ?_
  refine gM ?_
  refine gM ?_
  refine g1 r_nilCheck ?_
  refine gF 0 Tryd.underlying47 ti_45 ?_
  refine gP hx4 <| gL Tryd.underlying45 ?_
  refine gM ?_
  refine yc rfl Tryd.func22 (fun w' hE _ => hc6 w' hE) (fun _ _ h => ⟨(), h, trivial⟩) fun _ => ?_
  refine gP hS7 <| g2s r_subI ?_
  refine g2 r_max ?_
  refine gP hS8 <| g2s (fun hx0 hx1 h => r_sliceH hx0 hx1 Tryd.underlying45 ti_49 h) ?_
  refine g1 r_nilCheck ?_
  refine gF 0 Tryd.underlying47 ti_45 ?_
  refine eT fun w9 => ?_
  refine gO 12 <| gT0 ?_
  refine wx [] ti_45 fun B_10 o_11 T_12 cs_13 w14 => geO ?_
  refine gZ <| gze ?_
  exact gz0

/-- The condition of (*topiary/format.List).Put. -/
def format_List_Put.vc (l_1 : Addr) (i_2 : Int) (e_3_ID : Int) (e_3_Name : Str) (e_3_Attrs : Sl) (R : Value → World → Prop) (w : World) : Prop :=
∀ (w5 : World) (B_4 : Nat), New w B_4 w5 → Chg [] w w5 →
∃ (x_7 : Sl), (((¬ (i_2 < 0))) → w5.cell? (l_1.add 0) = some (Sl.v x_7)) ∧
(((i_2 < 0) ∨ ((x_7.n : Int) < i_2)) →
R (.bool false) w5) ∧
(((¬ (i_2 < 0)) ∧ (¬ ((x_7.n : Int) < i_2))) →
∀ (w14 : World), Chg [] w5 w14 →
∃ (x_22 : Sl), (w14.cell? (l_1.add 0) = some (Sl.v x_22)) ∧
∃ V_27 : Int → Str → Sl → World → Prop, (∀ r_26_ID : Int, ∀ r_26_Name : Str, ∀ r_26_Attrs : Sl, ∀ w' w'' : World, Ext w' w'' → V_27 r_26_ID r_26_Name r_26_Attrs w' → V_27 r_26_ID r_26_Name r_26_Attrs w'') ∧
(∀ w' : World, Ext w14 w' → Calls Tryd.prog 24 #[.agg #[.int .i64 e_3_ID, .string (Bs e_3_Name), Sl.v e_3_Attrs]] w' (Ret fun v w'' => Ext w' w'' ∧ ∃ r_26_ID : Int, ∃ r_26_Name : Str, ∃ r_26_Attrs : Sl, v = .agg #[.int .i64 r_26_ID, .string (Bs r_26_Name), Sl.v r_26_Attrs] ∧ V_27 r_26_ID r_26_Name r_26_Attrs w'')) ∧
∀ (w41 : World) (r_26_ID : Int) (r_26_Name : Str) (r_26_Attrs : Sl) (B_35 : Nat), Ext w14 w41 → V_27 r_26_ID r_26_Name r_26_Attrs w41 → w14.heap.size ≤ B_35 → Box w41 B_35 49 [.int .i64 r_26_ID, .string (Bs r_26_Name), Sl.v r_26_Attrs, .bool false] → 
∀ (_ : Box w41 B_35 49 [.int .i64 r_26_ID, .string (Bs r_26_Name), Sl.v r_26_Attrs, .bool false]),
CallK Tryd.prog 27 #[Sl.v x_22, .int .i64 i_2, Sl.v (Sl.mk (some ⟨B_35, 0, none⟩) 1 1)] w41 [B_4] (fun v w66 => ∃ (r_64 : Sl), v = Sl.v r_64 ∧
∀ (w74 : World), Chg [] w66 w74 →
∀ (w85 : World), Chg [] w74 w85 →
∃ (B_99 o_100 : Nat) (T_101 : TypeId) (cs_102 : List Value), (l_1.add 0) = ⟨B_99, o_100, none⟩ ∧ Box w85 B_99 T_101 cs_102 ∧ o_100 + 1 ≤ cs_102.length ∧ (∀ b ∈ [B_4], b ≠ B_99) ∧
(∀ w94 : World, Chg [B_99] w85 w94 → Box w94 B_99 T_101 (putAt cs_102 o_100 [Sl.v r_64]) →
R (.bool true) w94)))
set_option maxHeartbeats 1000000 in
set_option maxRecDepth 10000 in
theorem format_List_Put.ok (l_1 : Addr) (i_2 : Int) (e_3_ID : Int) (e_3_Name : Str) (e_3_Attrs : Sl) {R : Value → World → Prop} {w : World} (ht0 : format_List_Put.vc l_1 i_2 e_3_ID e_3_Name e_3_Attrs R w) : Calls Tryd.prog 17 #[.pointer (some l_1), .int .i64 i_2, .agg #[.int .i64 e_3_ID, .string (Bs e_3_Name), Sl.v e_3_Attrs]] w (Ret R) := by
  refine go _ Tryd.func17 Tryd.ntmps17 ht0 ?_
  refine gS <| gR <| nb fun w5 B_4 => ?_
  refine gN <| ge <| tn <| gS <| gS <| gR ?_
  refine gM ?_
  refine g2 r_lss ?_
  refine gM ?_
  refine G1 r_move ?_
  refine G1 r_move ?_
  refine G1 r_nilCheck ?_
  refine GF 0 Tryd.underlying47 ti_45 <| gT1 ?_
  refine gE fun x_7 => GLd Tryd.underlying45 (fun hg => (dF (g_f hg))) ?_
  refine G1 (fun hx0 => r_len hx0 Tryd.underlying45) ?_
  refine G2 r_gtr ?_
  refine gpo <| ge <| tn ?_
  refine gi (fun h => ((oT h).imp (fun h => (dT h)) (fun h => (dT h)))) (fun h => ⟨(dF (oF h).1), (dF (oF h).2)⟩) ?_ ?_
  · refine gS <| gR <| gN <| ge <| tn <| gr <| tr ?_
    exact gz1
  · refine gk <| tn <| gS ?_
    intro a11 s10 ht12
    have hA11 := s10.ag
    have hB13 := s10.bx 0 rfl
    let D113 : List (List Nat) := [[], [], [1], [1, 2], [1, 2, 3], [], [], [6], [6, 7], [6, 7, 8], [1, 2, 3, 4, 5, 6, 7, 8, 9], [0, 1, 2, 3, 4, 5, 6, 7, 8, 9, 10], [0, 1, 2, 3, 4, 5, 6, 7, 8, 9, 10, 11], [0, 1, 2, 3, 4, 5, 6, 7, 8, 9, 10, 11, 12]]
    refine draw' (by kernel_rfl) fun w14 hE15 => ?_
    have hB16 := hB13.ext hE15
    have hC17 : Chg [] w5 w14 := hE15
    have ht18 := ht12 w14    hC17
    refine startF (D := D113) (Fs := [0, 1, 5, 6]) (Ef := [(0, fun v _ => v = .pointer (some l_1)), (1, fun v _ => v = .pointer (some l_1)), (5, fun v _ => v = .int .i64 i_2), (6, fun v _ => v = .agg #[.int .i64 e_3_ID, .string (Bs e_3_Name), Sl.v e_3_Attrs])]) (by kernel_rfl) ?_
    obtain ⟨x_22, hx23, ht24⟩ := ht18
    obtain ⟨V_27, hst28, hc29, ht30⟩ := ht24
    refine parF (D := D113) (S := [2, 3, 4, 7, 8, 9]) (F := []) (KE := [2, 3, 4, 7, 8, 9]) (E := [(2, fun v _ => v = .pointer (some l_1)), (3, fun v _ => v = .pointer (some (l_1.add 0))), (4, fun v _ => v = Sl.v x_22), (7, fun v w' => ∃ r_26_ID : Int, ∃ r_26_Name : Str, ∃ r_26_Attrs : Sl, V_27 r_26_ID r_26_Name r_26_Attrs w' ∧ v = .agg #[.int .i64 r_26_ID, .string (Bs r_26_Name), Sl.v r_26_Attrs]), (8, fun v w' => ∃ r_26_ID : Int, ∃ r_26_Name : Str, ∃ r_26_Attrs : Sl, V_27 r_26_ID r_26_Name r_26_Attrs w' ∧ v = .agg #[.int .i64 r_26_ID, .string (Bs r_26_Name), Sl.v r_26_Attrs, .bool false]), (9, fun v w' => ∃ r_26_ID : Int, ∃ r_26_Name : Str, ∃ r_26_Attrs : Sl, ∃ B_35 : Nat, V_27 r_26_ID r_26_Name r_26_Attrs w' ∧ w14.heap.size ≤ B_35 ∧ Box w' B_35 49 [.int .i64 r_26_ID, .string (Bs r_26_Name), Sl.v r_26_Attrs, .bool false] ∧ v = Sl.v (Sl.mk (some ⟨B_35, 0, none⟩) 1 1))]) hA11 rfl (by kernel_rfl) ⟨fun _ _ _ _ h => by first | exact h | (change _ = _ at h; change _ = _; exact h), fun _ _ _ _ h => by first | exact h | (change _ = _ at h; change _ = _; exact h), fun _ _ _ _ h => by first | exact h | (change _ = _ at h; change _ = _; exact h), fun _ _ _ hE ⟨r_26_ID, r_26_Name, r_26_Attrs, h0_, e⟩ => ⟨r_26_ID, r_26_Name, r_26_Attrs, (hst28 r_26_ID r_26_Name r_26_Attrs _ _ hE h0_), e⟩, fun _ _ _ hE ⟨r_26_ID, r_26_Name, r_26_Attrs, h0_, e⟩ => ⟨r_26_ID, r_26_Name, r_26_Attrs, (hst28 r_26_ID r_26_Name r_26_Attrs _ _ hE h0_), e⟩, fun _ _ _ hE ⟨r_26_ID, r_26_Name, r_26_Attrs, B_35, h0_, h1_, h2_, e⟩ => ⟨r_26_ID, r_26_Name, r_26_Attrs, B_35, (hst28 r_26_ID r_26_Name r_26_Attrs _ _ hE h0_), h1_, (h2_.ext hE), e⟩, fun _ _ _ _ h => by first | exact h | (change _ = _ at h; change _ = _; exact h), fun _ _ _ _ h => by first | exact h | (change _ = _ at h; change _ = _; exact h), fun _ _ _ _ h => by first | exact h | (change _ = _ at h; change _ = _; exact h), fun _ _ _ _ h => by first | exact h | (change _ = _ at h; change _ = _; exact h), trivial⟩ ⟨?_, ?_, ?_, ?_, ?_, ?_, ?_, ?_, ?_, ?_, trivial⟩ ?_
    · intro a w hT
      have hAp := hT.ag hA11 [] trivial (by kernel_rfl)
      have e19 : a.tmps.getD 19 undef = .pointer (some l_1) := hT.vals 1 rfl 19 rfl
      have hAp := hAp.add e19
      exact opk_val hAp rfl (r_nilCheck (hAp.get rfl)) fun _ _ e => ⟨_, e, Chg.refl _ _, fun _ => Eq.refl _⟩
    · intro a w hT
      have hAp := hT.ag hA11 [] trivial (by kernel_rfl)
      have e20 : a.tmps.getD 20 undef = .pointer (some l_1) := hT.vals 2 rfl 20 rfl
      have hAp := hAp.add e20
      exact opk_val hAp rfl (r_fieldAddr (hAp.get rfl) Tryd.underlying47 rfl ti_45 (by decide)) fun _ _ e => ⟨_, e, Chg.refl _ _, fun _ => Eq.refl _⟩
    · intro a w hT
      have hAp := hT.ag hA11 [] trivial (by kernel_rfl)
      have e21 : a.tmps.getD 21 undef = .pointer (some (l_1.add 0)) := hT.vals 3 rfl 21 rfl
      have hAp := hAp.add e21
      exact opk_val hAp rfl (r_load1 Tryd.underlying45 rfl (hAp.get rfl) (Ext.cell hT.chg hx23)) fun _ _ e => ⟨_, e, Chg.refl _ _, fun _ => Eq.refl _⟩
    · intro a w hT
      have hAp := hT.ag hA11 [] trivial (by kernel_rfl)
      have e25 : a.tmps.getD 24 undef = .agg #[.int .i64 e_3_ID, .string (Bs e_3_Name), Sl.v e_3_Attrs] := hT.vals 6 rfl 24 rfl
      have hAp := hAp.add e25
      exact opk_callX hAp rfl (r_call (args := #[.agg #[.int .i64 e_3_ID, .string (Bs e_3_Name), Sl.v e_3_Attrs]]) Tryd.func24 (by decide) rfl (map_arr (ml_cons (hAp.get rfl) ml_nil)) rfl) (hc29 w hT.chg) fun _ _ _ _ e ⟨hE, r_26_ID, r_26_Name, r_26_Attrs, he, hV⟩ => ⟨_, e, hE, fun _ => ⟨r_26_ID, r_26_Name, r_26_Attrs, hV, he⟩⟩
    · intro a w hT
      have hAp := hT.ag hA11 [] trivial (by kernel_rfl)
      obtain ⟨r_26_ID, r_26_Name, r_26_Attrs, hf32, e31⟩ := hT.vals 7 rfl 25 rfl
      have hAp := hAp.add e31
      exact opk_val hAp rfl (r_build (vs := #[(0, .agg #[.int .i64 r_26_ID, .string (Bs r_26_Name), Sl.v r_26_Attrs])]) (cells := #[.int .i64 r_26_ID, .string (Bs r_26_Name), Sl.v r_26_Attrs, .bool false]) (map_arr2 (ml2_cons (hAp.get rfl) (ml2_nil))) ti_49 Tryd.underlying49 pl_49 (by kernel_rfl)) fun _ _ e => ⟨_, e, Chg.refl _ _, fun _ => ⟨r_26_ID, r_26_Name, r_26_Attrs, hf32, rfl⟩⟩
    · intro a w hT
      have hAp := hT.ag hA11 [] trivial (by kernel_rfl)
      obtain ⟨r_26_ID, r_26_Name, r_26_Attrs, hf34, e33⟩ := hT.vals 8 rfl 26 rfl
      have hAp := hAp.add e33
      exact opk_new (fun B => .slice (some ⟨B, 0, none⟩) 1 1) hAp rfl (r_buildSlice (vs := #[(0, .agg #[.int .i64 r_26_ID, .string (Bs r_26_Name), Sl.v r_26_Attrs, .bool false])]) (cs := [.int .i64 r_26_ID, .string (Bs r_26_Name), Sl.v r_26_Attrs, .bool false]) (map_arr2 (ml2_cons (hAp.get rfl) (ml2_nil))) Tryd.underlying45 ti_49 rfl rfl (by kernel_rfl)) fun _ w36 B_35 hE37 hN38 hB39 _ e => ⟨_, e, hE37, fun _ => ⟨r_26_ID, r_26_Name, r_26_Attrs, B_35, (hst28 r_26_ID r_26_Name r_26_Attrs _ _ hE37 hf34), Nat.le_trans hT.chg.size hN38.ge, hB39, rfl⟩⟩
    · intro a w hT
      have hAp := hT.ag hA11 [(0, .pointer (some l_1))] ⟨rfl, trivial⟩ (by kernel_rfl)
      exact opk_val hAp rfl (r_move (hAp.get rfl)) fun _ _ e => ⟨_, e, Chg.refl _ _, fun _ => Eq.refl _⟩
    · intro a w hT
      have hAp := hT.ag hA11 [(0, .pointer (some l_1))] ⟨rfl, trivial⟩ (by kernel_rfl)
      exact opk_val hAp rfl (r_move (hAp.get rfl)) fun _ _ e => ⟨_, e, Chg.refl _ _, fun _ => Eq.refl _⟩
    · intro a w hT
      have hAp := hT.ag hA11 [(1, .int .i64 i_2)] ⟨rfl, trivial⟩ (by kernel_rfl)
      exact opk_val hAp rfl (r_move (hAp.get rfl)) fun _ _ e => ⟨_, e, Chg.refl _ _, fun _ => Eq.refl _⟩
    · intro a w hT
      have hAp := hT.ag hA11 [(5, .pointer (some (⟨B_4, 0, none⟩ : Addr)))] ⟨rfl, trivial⟩ (by kernel_rfl)
      exact opk_val hAp rfl (r_loadN (cs := [.int .i64 e_3_ID, .string (Bs e_3_Name), Sl.v e_3_Attrs]) Tryd.underlying31 rfl ti_31 (hAp.get rfl) ((hB16.ext hT.chg).part 0 _ rfl)) fun _ _ e => ⟨_, e, Chg.refl _ _, fun _ => Eq.refl _⟩
    · intro a40 w41 hE42 hag43 hv44
      have hA40 := hag43 [(0, .pointer (some l_1)), (1, .int .i64 i_2), (5, .pointer (some (⟨B_4, 0, none⟩ : Addr)))] ⟨rfl, rfl, rfl, trivial⟩ (by kernel_rfl)
      have e46 : a40.tmps.getD 22 undef = Sl.v x_22 := hv44 4 rfl 22 rfl
      have hA47 := hA40.add e46
      obtain ⟨r_26_ID, r_26_Name, r_26_Attrs, B_35, hf50, hf51, hf52, e48⟩ := hv44 9 rfl 27 rfl
      have hA49 := hA47.add e48
      have hB53 := hB16.ext hE42
      have hC54 : Chg [] w14 w41 := hE42
      have ht55 := ht30 w41 r_26_ID r_26_Name r_26_Attrs B_35 hE42 hf50 hf51 hf52
      have hne56 : B_4 ≠ B_35 := Nat.ne_of_lt (Nat.lt_of_lt_of_le hB16.lt hf51)
      refine PRF_drop (X := [1, 6]) (Fs' := [0, 5]) hA49 (by kernel_rfl) fun a57 hag58 hv59 => ?_
      have hA57 := hag58 [(0, .pointer (some l_1)), (1, .int .i64 i_2), (22, Sl.v x_22), (27, Sl.v (Sl.mk (some ⟨B_35, 0, none⟩) 1 1))] ⟨rfl, rfl, rfl, rfl, trivial⟩ (by kernel_rfl)
      refine oneF (c := 10) hA57 rfl (by kernel_rfl) (constF ⟨fun _ _ _ h => by first | exact h | (change _ = _ at h; change _ = _; exact h), fun _ _ _ h => by first | exact h | (change _ = _ at h; change _ = _; exact h), trivial⟩) ⟨?_, ?_, trivial⟩ ?_
      · intro a hT
        have hAp := hT.ag hA57 [(0, .pointer (some l_1))] ⟨rfl, trivial⟩ (by kernel_rfl)
        exact opk_val hAp rfl (r_move (hAp.get rfl)) fun _ _ e => ⟨_, e, rfl, fun _ => Eq.refl _⟩
      · intro a hT
        have hAp := hT.ag hA57 [(1, .int .i64 i_2)] ⟨rfl, trivial⟩ (by kernel_rfl)
        exact opk_val hAp rfl (r_move (hAp.get rfl)) fun _ _ e => ⟨_, e, rfl, fun _ => Eq.refl _⟩
      · intro a60 hT
        have hA60 := hT.ag hA57 [(0, .pointer (some l_1)), (1, .int .i64 i_2), (22, Sl.v x_22), (27, Sl.v (Sl.mk (some ⟨B_35, 0, none⟩) 1 1))] ⟨rfl, rfl, rfl, rfl, trivial⟩ (by kernel_rfl)
        have e61 : a60.tmps.getD 23 undef = .int .i64 i_2 := hT.vals 5 rfl 23 rfl
        have hA62 := hA60.add e61
        have ht63 := ht55 hf52
        refine (opk_call hA62 rfl (r_call (args := #[Sl.v x_22, .int .i64 i_2, Sl.v (Sl.mk (some ⟨B_35, 0, none⟩) 1 1)]) Tryd.func27 (by decide) rfl (map_arr (ml_cons (hA62.get rfl) (ml_cons (hA62.get rfl) (ml_cons (hA62.get rfl) ml_nil)))) rfl) ht63 fun a65 v71 w66 hA65 heq112 hn68 hz69 hK70 => ?_)
        refine ⟨_, heq112, ?_⟩
        obtain ⟨r_64, rfl, ht67⟩ := hK70
        have hB72 := hB53.kept hn68 (.head _)
        refine joinF hA65 (by kernel_rfl) ⟨fun _ _ _ _ h => by first | exact h | (change _ = _ at h; change _ = _; exact h), fun _ _ _ _ h => by first | exact h | (change _ = _ at h; change _ = _; exact h), trivial⟩ ⟨?_, ?_, trivial⟩ ?_
        · intro a w hT
          have hAp := hT.ag hA65 [(0, .pointer (some l_1))] ⟨rfl, trivial⟩ (by kernel_rfl)
          exact opk_val hAp rfl (r_move (hAp.get rfl)) fun _ _ e => ⟨_, e, Chg.refl _ _, fun _ => Eq.refl _⟩
        · intro a w hT
          have hAp := hT.ag hA65 [(1, .int .i64 i_2)] ⟨rfl, trivial⟩ (by kernel_rfl)
          exact opk_val hAp rfl (r_move (hAp.get rfl)) fun _ _ e => ⟨_, e, Chg.refl _ _, fun _ => Eq.refl _⟩
        · intro a73 w74 hE75 hag76 hv77
          have hA73 := hag76 [(28, Sl.v r_64)] ⟨rfl, trivial⟩ (by kernel_rfl)
          have e78 : a73.tmps.getD 18 undef = .pointer (some l_1) := hv77 0 rfl 18 rfl
          have hA79 := hA73.add e78
          have hB80 := hB72.ext hE75
          have hC81 : Chg [] w66 w74 := hE75
          have ht82 := ht67 w74    hC81
          refine par (D := D113) (S := [11, 12]) (F := []) (V := VL [(11, fun v _ => v = .pointer (some l_1)), (12, fun v _ => v = .pointer (some (l_1.add 0)))]) hA79 (by kernel_rfl) ⟨fun _ _ _ _ h => by first | exact h | (change _ = _ at h; change _ = _; exact h), fun _ _ _ _ h => by first | exact h | (change _ = _ at h; change _ = _; exact h), trivial⟩ ⟨?_, ?_, trivial⟩ ?_
          · intro a w hT
            have hAp := hT.ag hA79 [(18, .pointer (some l_1))] ⟨rfl, trivial⟩ (by kernel_rfl)
            exact opk_val hAp rfl (r_nilCheck (hAp.get rfl)) fun _ _ e => ⟨_, e, Chg.refl _ _, fun _ => Eq.refl _⟩
          · intro a w hT
            have hAp := hT.ag hA79 [] trivial (by kernel_rfl)
            have e83 : a.tmps.getD 29 undef = .pointer (some l_1) := hT.vals 11 rfl 29 rfl
            have hAp := hAp.add e83
            exact opk_val hAp rfl (r_fieldAddr (hAp.get rfl) Tryd.underlying47 rfl ti_45 (by decide)) fun _ _ e => ⟨_, e, Chg.refl _ _, fun _ => Eq.refl _⟩
          · intro a84 w85 hE86 hag87 hv88
            have hA84 := hag87 [(28, Sl.v r_64)] ⟨rfl, trivial⟩ (by kernel_rfl)
            have e90 : a84.tmps.getD 30 undef = .pointer (some (l_1.add 0)) := hv88 12 rfl 30 rfl
            have hA91 := hA84.add e90
            have hB92 := hB80.ext hE86
            have hC93 : Chg [] w74 w85 := hE86
            have ht98 := ht82 w85    hC93
            obtain ⟨B_99, o_100, T_101, cs_102, he103, hb104, hl105, hx106, ht107⟩ := ht98
            refine one (D := D113) (i := 13) rfl (by kernel_rfl) (opk_store hA91 hb104 (r_store (vs := [Sl.v r_64]) (((hA91.get rfl)).trans (congrArg (fun a => Value.pointer (some a)) he103)) (hA91.get rfl) rfl ti_45 hb104 (Nat.ble_eq_true_of_le hl105) (ones_all [Sl.v r_64] rfl)) fun a95 w94 hS96 hB97 hA95 => ?_)
            have hB108 := hB92.keep hS96 (by have := hx106 B_4 (by simp); simpa using this)
            have ht109 := ht107 w94 hS96 hB97
            refine PR_end (by kernel_rfl) ?_
            have hA110 := hA95.keep [] trivial
            refine gK (bs := []) (N := []) hA110 (Chg.refl [] _) trivial (by simp) trivial (by simp) ht109 ?_
            refine tn <| gS <| gR <| gN <| ge <| tn <| gr ?_
            exact gz1

/-- The condition of (*topiary/format.List).At. -/
def format_List_At.vc (l_1 : Addr) (i_2 : Int) (R : Value → World → Prop) (w : World) : Prop :=
∀ (w4 : World) (B_3 : Nat), New w B_3 w4 → Chg [] w w4 →
∃ (x_6 : Sl), (((¬ (i_2 < 0))) → w4.cell? (l_1.add 0) = some (Sl.v x_6)) ∧
(((i_2 < 0) ∨ ((x_6.n : Int) ≤ i_2)) →
∀ (w8 : World), Chg [B_3] w4 w8 →
R (.tuple #[.agg #[.int .i64 0, .string (Bs ([] : Str)), Sl.v Sl.nil], .bool false]) w8) ∧
(((¬ (i_2 < 0)) ∧ (¬ ((x_6.n : Int) ≤ i_2))) →
∃ (x_10 : Sl), (w4.cell? (l_1.add 0) = some (Sl.v x_10)) ∧
((0 : Int) ≤ i_2 ∧ i_2 < (x_10.n : Int)) ∧ ∃ p_11 : Addr, x_10.a = some p_11 ∧
∃ (x_12_ID : Int) (x_12_Name : Str) (x_12_Attrs : Sl), (Cells w4 ((p_11.add (i_2.toNat * 4)).add 0) [.int .i64 x_12_ID, .string (Bs x_12_Name), Sl.v x_12_Attrs]) ∧
CallK Tryd.prog 24 #[.agg #[.int .i64 x_12_ID, .string (Bs x_12_Name), Sl.v x_12_Attrs]] w4 [B_3] (fun v w14 => ∃ (r_13_ID : Int) (r_13_Name : Str) (r_13_Attrs : Sl), v = .agg #[.int .i64 r_13_ID, .string (Bs r_13_Name), Sl.v r_13_Attrs] ∧
∀ (w15 : World), Chg [B_3] w14 w15 →
R (.tuple #[.agg #[.int .i64 r_13_ID, .string (Bs r_13_Name), Sl.v r_13_Attrs], .bool true]) w15))
set_option maxHeartbeats 1000000 in
set_option maxRecDepth 10000 in
theorem format_List_At.ok (l_1 : Addr) (i_2 : Int) {R : Value → World → Prop} {w : World} (ht0 : format_List_At.vc l_1 i_2 R w) : Calls Tryd.prog 18 #[.pointer (some l_1), .int .i64 i_2] w (Ret R) := by
  refine go _ Tryd.func18 Tryd.ntmps18 ht0 ?_
  refine gS <| gR <| na ti_31 fun w4 B_3 => ?_
  refine gN <| ge <| tn <| gS <| gS <| gR ?_
  refine gM ?_
  refine g2 r_lss ?_
  refine gM ?_
  refine G1 r_move ?_
  refine G1 r_move ?_
  refine G1 r_nilCheck ?_
  refine GF 0 Tryd.underlying47 ti_45 <| gT1 ?_
  refine gE fun x_6 => GLd Tryd.underlying45 (fun hg => (dF (g_f hg))) ?_
  refine G1 (fun hx0 => r_len hx0 Tryd.underlying45) ?_
  refine G2 r_geq ?_
  refine gpo <| ge <| tn ?_
  refine gi (fun h => ((oT h).imp (fun h => (dT h)) (fun h => (dT h)))) (fun h => ⟨(dF (oF h).1), (dF (oF h).2)⟩) ?_ ?_
  · refine gS <| gR <| gbu ti_31 Tryd.underlying31 pl_31 (OPs.of rfl) ?_
    refine wo 0 ti_31 fun w8 => ?_
    refine gN <| ge <| tn <| gr <| tr <| gT0 ?_
    exact gz [.agg #[.int .i64 0, .string (Bs ([] : Str)), Sl.v Sl.nil], .bool false] rfl (fun _ s => ⟨res_of_cell s.ag rfl (s.bx 0 rfl) Tryd.underlying31 rfl ti_31, res_of_tmp s.ag rfl, trivial⟩)
  · refine gk <| tn <| gS <| gR <| gM ?_
    refine g1 r_nilCheck ?_
    refine gF 0 Tryd.underlying47 ti_45 ?_
    refine gE fun x_10 => gL Tryd.underlying45 ?_
    refine gM ?_
    refine gI1 Tryd.underlying45 ti_49 fun p_11 => ?_
    refine gF 0 Tryd.underlying49 ti_31 ?_
    refine gE fun x_12_ID => gE fun x_12_Name => gE fun x_12_Attrs => gLN Tryd.underlying31 ti_31 ?_
    refine gC [0] Tryd.func24 fun _ w14 => gE fun r_13_ID => gE fun r_13_Name => gE fun r_13_Attrs => gQ ?_
    refine wo 0 ti_31 fun w15 => ?_
    refine gN <| ge <| tn <| gr <| gT0 ?_
    exact gz [.agg #[.int .i64 r_13_ID, .string (Bs r_13_Name), Sl.v r_13_Attrs], .bool true] rfl (fun _ s => ⟨res_of_cell s.ag rfl (s.bx 0 rfl) Tryd.underlying31 rfl ti_31, res_of_tmp s.ag rfl, trivial⟩)

/-- The condition of (*topiary/format.List).Swap. -/
def format_List_Swap.vc (l_1 : Addr) (id_2 : Int) (e_3_ID : Int) (e_3_Name : Str) (e_3_Attrs : Sl) (R : Value → World → Prop) (w : World) : Prop :=
∀ (w5 : World) (B_4 : Nat), New w B_4 w5 → Chg [] w w5 →
CallK Tryd.prog 10 #[.pointer (some l_1), .int .i64 id_2] w5 [B_4] (fun v w8 => ∃ (r_7 : Int), v = .int .i64 r_7 ∧
((0 ≤ r_7) →
∀ (w11 : World), Chg [] w8 w11 →
∃ (x_12 : Sl), (w11.cell? (l_1.add 0) = some (Sl.v x_12)) ∧
∃ V_15 : Int → Str → Sl → World → Prop, (∀ r_14_ID : Int, ∀ r_14_Name : Str, ∀ r_14_Attrs : Sl, ∀ w' w'' : World, Ext w' w'' → V_15 r_14_ID r_14_Name r_14_Attrs w' → V_15 r_14_ID r_14_Name r_14_Attrs w'') ∧
(∀ w' : World, Ext w11 w' → Calls Tryd.prog 24 #[.agg #[.int .i64 e_3_ID, .string (Bs e_3_Name), Sl.v e_3_Attrs]] w' (Ret fun v w'' => Ext w' w'' ∧ ∃ r_14_ID : Int, ∃ r_14_Name : Str, ∃ r_14_Attrs : Sl, v = .agg #[.int .i64 r_14_ID, .string (Bs r_14_Name), Sl.v r_14_Attrs] ∧ V_15 r_14_ID r_14_Name r_14_Attrs w'')) ∧
∃ p_18 : Addr, (((0 : Int) ≤ r_7 ∧ r_7 < (x_12.n : Int)) ∧ x_12.a = some p_18) ∧
∀ (w20 : World) (r_14_ID : Int) (r_14_Name : Str) (r_14_Attrs : Sl), Ext w11 w20 → V_15 r_14_ID r_14_Name r_14_Attrs w20 → 
∃ (B_21 o_22 : Nat) (T_23 : TypeId) (cs_24 : List Value), ((p_18.add (r_7.toNat * 4)).add 0) = ⟨B_21, o_22, none⟩ ∧ Box w20 B_21 T_23 cs_24 ∧ o_22 + 3 ≤ cs_24.length ∧ (∀ b ∈ [B_4], b ≠ B_21) ∧
(∀ w25 : World, Chg [B_21] w20 w25 → Box w25 B_21 T_23 (putAt cs_24 o_22 [.int .i64 r_14_ID, .string (Bs r_14_Name), Sl.v r_14_Attrs]) →
R (.bool (decide (0 ≤ r_7))) w25)) ∧
((¬ (0 ≤ r_7)) →
R (.bool (decide (0 ≤ r_7))) w8))
set_option maxHeartbeats 1000000 in
set_option maxRecDepth 10000 in
theorem format_List_Swap.ok (l_1 : Addr) (id_2 : Int) (e_3_ID : Int) (e_3_Name : Str) (e_3_Attrs : Sl) {R : Value → World → Prop} {w : World} (ht0 : format_List_Swap.vc l_1 id_2 e_3_ID e_3_Name e_3_Attrs R w) : Calls Tryd.prog 19 #[.pointer (some l_1), .int .i64 id_2, .agg #[.int .i64 e_3_ID, .string (Bs e_3_Name), Sl.v e_3_Attrs]] w (Ret R) := by
  refine go _ Tryd.func19 Tryd.ntmps19 ht0 ?_
  refine gS <| gR <| nb fun w5 B_4 => ?_
  refine gN <| ge <| tn <| gS <| gR ?_
  refine gM ?_
  refine gM <| gT1 ?_
  refine gC [0] Tryd.func10 fun _ w8 => gE fun r_7 => gQ ?_
  refine gN <| ge <| tn <| gS <| gS <| gR ?_
  refine gM ?_
  refine g2 r_geq <| ge <| tn ?_
  refine gi dT dF ?_ ?_
  · refine gD fun w11 => gT0 <| gE fun x_12 => gA fun hx13 => gE fun V_15 => gA fun hst16 => gA fun hc17 => gE fun p_18 => gA fun hp19 => ?_
    refine gW 0 9 [(6, ⟨Int × Str × Sl, default, fun s => .agg #[.int .i64 s.1, .string (Bs s.2.1), Sl.v s.2.2], fun s w => V_15 s.1 s.2.1 s.2.2 w, fun s => hst16 s.1 s.2.1 s.2.2⟩)] ?_
    refine gM ?_
    refine g1 r_nilCheck ?_
    refine gF 0 Tryd.underlying47 ti_45 ?_
    refine gP hx13 <| gL Tryd.underlying45 ?_
    refine gM ?_
    refine gBN 0 3 Tryd.underlying31 ti_31 ?_
    refine yc rfl Tryd.func24 (fun w' hE _ => hc17 w' hE) (fun _ _ ⟨r_14_ID, r_14_Name, r_14_Attrs, h1, h2⟩ => ⟨(r_14_ID, r_14_Name, r_14_Attrs), h1, h2⟩) fun ⟨r_14_ID, r_14_Name, r_14_Attrs⟩ => ?_
    refine gIx Tryd.underlying45 ti_49 hp19 ?_
    refine gF 0 Tryd.underlying49 ti_31 ?_
    refine eF (fun v w' hE hF => v w' r_14_ID r_14_Name r_14_Attrs hE hF.1) fun w20 => ?_
    refine gO 9 ?_
    refine wx [0] ti_31 fun B_21 o_22 T_23 cs_24 w25 => geO ?_
    refine gZ <| tn <| gS <| gR ?_
    refine gM ?_
    refine g2 r_geq ?_
    refine gN <| ge <| tn <| gr ?_
    exact gz1
  · refine gk <| tn <| gS <| gR <| gM ?_
    refine g2 r_geq ?_
    refine gN <| ge <| tn <| gr ?_
    exact gz1

/-- The condition of (*topiary/format.List).Remove. -/
def format_List_Remove.vc (l_1 : Addr) (id_2 : Int) (R : Value → World → Prop) (w : World) : Prop :=
CallK Tryd.prog 10 #[.pointer (some l_1), .int .i64 id_2] w [] (fun v w5 => ∃ (r_4 : Int), v = .int .i64 r_4 ∧
((0 ≤ r_4) →
∃ (x_8 : Sl), (w5.cell? (l_1.add 0) = some (Sl.v x_8)) ∧
(I64 (r_4 + 1)) ∧
CallK Tryd.prog 23 #[Sl.v x_8, .int .i64 r_4, .int .i64 (r_4 + 1)] w5 [] (fun v w10 => ∃ (r_9 : Sl), v = Sl.v r_9 ∧
∃ (B_11 o_12 : Nat) (T_13 : TypeId) (cs_14 : List Value), (l_1.add 0) = ⟨B_11, o_12, none⟩ ∧ Box w10 B_11 T_13 cs_14 ∧ o_12 + 1 ≤ cs_14.length ∧ (∀ b ∈ [], b ≠ B_11) ∧
(∀ w15 : World, Chg [B_11] w10 w15 → Box w15 B_11 T_13 (putAt cs_14 o_12 [Sl.v r_9]) →
R (.bool (decide (0 ≤ r_4))) w15))) ∧
((¬ (0 ≤ r_4)) →
R (.bool (decide (0 ≤ r_4))) w5))
set_option maxHeartbeats 1000000 in
set_option maxRecDepth 10000 in
theorem format_List_Remove.ok (l_1 : Addr) (id_2 : Int) {R : Value → World → Prop} {w : World} (ht0 : format_List_Remove.vc l_1 id_2 R w) : Calls Tryd.prog 20 #[.pointer (some l_1), .int .i64 id_2] w (Ret R) := by
  refine go _ Tryd.func20 Tryd.ntmps20 ht0 ?_
  refine gS <| gR <| gN <| ge <| tn <| gS <| gR ?_
  refine gM ?_
  refine gM ?_
  refine gC [] Tryd.func10 fun _ w5 => gE fun r_4 => gQ ?_
  refine gN <| ge <| tn <| gS <| gS <| gR ?_
  refine gM ?_
  refine g2 r_geq <| ge <| tn ?_
  refine gi dT dF ?_ ?_
  · refine gR <| gM ?_
    refine gM ?_
    refine g1 r_nilCheck ?_
    refine gF 0 Tryd.underlying47 ti_45 ?_
    refine gE fun x_8 => gL Tryd.underlying45 ?_
    refine gM ?_
    refine gM ?_
    refine g2s r_addI ?_
    refine gC [] Tryd.func23 fun _ w10 => gE fun r_9 => gQ ?_
    refine g1 r_nilCheck ?_
    refine gF 0 Tryd.underlying47 ti_45 ?_
    refine wx [] ti_45 fun B_11 o_12 T_13 cs_14 w15 => ge <| tn <| gS <| gR ?_
    refine gM ?_
    refine g2 r_geq ?_
    refine gN <| ge <| tn <| gr ?_
    exact gz1
  · refine gk <| tn <| gS <| gR <| gM ?_
    refine g2 r_geq ?_
    refine gN <| ge <| tn <| gr ?_
    exact gz1

/-- The condition of (topiary/format.Entry).key. -/
def format_Entry_key.vc (e_1_ID : Int) (e_1_Name : Str) (e_1_Attrs : Sl) (R : Value → World → Prop) (w : World) : Prop :=
∀ (w8 : World) (B_2 : Nat) (B_4 : Nat) (B_7 : Nat), New w B_2 w8 → New w B_4 w8 → New w B_7 w8 → B_2 ≠ B_4 → B_2 ≠ B_7 → B_4 ≠ B_7 → Chg [] w w8 →
∀ (_ : Box w8 B_7 62 [.pointer none, Sl.v Sl.nil]),
∃ (J_86 : Int → World → Prop) (mu_87 : Int → World → Nat),
J_86 0 w8 ∧
(∀ (x_84 : Int) (w85 : World), J_86 x_84 w85 →
((x_84 < (e_1_Attrs.n : Int)) →
((0 : Int) ≤ x_84 ∧ x_84 < (e_1_Attrs.n : Int)) ∧ ∃ p_135 : Addr, e_1_Attrs.a = some p_135 ∧
∃ (x_136_Name : Str) (x_136_Value : Str), (Cells w85 (p_135.add (x_84.toNat * 2)) [.string (Bs x_136_Name), .string (Bs x_136_Value)]) ∧
∀ (w139 : World) (B_137 : Nat), New w85 B_137 w139 → Chg [] w85 w139 →
∃ (J_144 : Int → World → Prop) (mu_145 : Int → World → Nat),
J_144 0 w139 ∧
(∀ (x_142 : Int) (w143 : World), J_144 x_142 w143 →
((x_142 < 2) →
((0 : Int) ≤ x_142 ∧ x_142 < 2) ∧
CallK Tryd.prog 29 #[.int .i64 ((([x_136_Name, x_136_Value] : List Str).getD x_142.toNat []).length : Int)] w143 [B_2, B_4] (fun v w165 => ∃ (r_164 : Str), v = .string (Bs r_164) ∧
CallK Tryd.prog 28 #[.pointer (some (⟨B_7, 0, none⟩ : Addr)), .string (Bs r_164)] w165 [B_2, B_4] (fun v w168 => ∃ (r_0_166 : Int) (r_1_167 : Value), v = .tuple #[.int .i64 r_0_166, r_1_167] ∧
CallK Tryd.prog 30 #[.pointer (some (⟨B_7, 0, none⟩ : Addr)), .int .u8 58] w168 [B_2, B_4] (fun v w171 => ∃ (r_170 : Value), v = r_170 ∧
CallK Tryd.prog 28 #[.pointer (some (⟨B_7, 0, none⟩ : Addr)), .string (Bs (([x_136_Name, x_136_Value] : List Str).getD x_142.toNat []))] w171 [B_2, B_4] (fun v w175 => ∃ (r_0_173 : Int) (r_1_174 : Value), v = .tuple #[.int .i64 r_0_173, r_1_174] ∧
(I64 (x_142 + 1)) ∧
J_144 (x_142 + 1) w175 ∧ mu_145 (x_142 + 1) w175 < mu_145 x_142 w143))))) ∧
((¬ (x_142 < 2)) →
(I64 (x_84 + 1)) ∧
J_86 (x_84 + 1) w143 ∧ mu_87 (x_84 + 1) w143 < mu_87 x_84 w85))) ∧
((¬ (x_84 < (e_1_Attrs.n : Int))) →
∀ (w187 : World), Chg [] w85 w187 →
CallK Tryd.prog 31 #[.pointer (some (⟨B_7, 0, none⟩ : Addr))] w187 [B_2, B_4] (fun v w197 => ∃ (r_195 : Str), v = .string (Bs r_195) ∧
∀ (w207 : World), Chg [] w197 w207 →
∀ (w228 : World), Chg [B_4] w207 w228 →
R (.agg #[.string (Bs e_1_Name), .string (Bs r_195)]) w228)))
set_option maxHeartbeats 1000000 in
set_option maxRecDepth 10000 in
theorem format_Entry_key.ok (e_1_ID : Int) (e_1_Name : Str) (e_1_Attrs : Sl) {R : Value → World → Prop} {w : World} (ht0 : format_Entry_key.vc e_1_ID e_1_Name e_1_Attrs R w) : Calls Tryd.prog 21 #[.agg #[.int .i64 e_1_ID, .string (Bs e_1_Name), Sl.v e_1_Attrs]] w (Ret R) := by
  refine go _ Tryd.func21 Tryd.ntmps21 ht0 ?_
  refine gS <| gR <| nb fun w3 B_2 => ?_
  refine na ti_51 fun w5 B_4 => ge <| tn <| gS <| gR ?_
  refine na ti_62 fun w8 B_7 => ge <| tn <| gS <| gS <| gR ?_
  refine gF 2 Tryd.underlying31 ti_29 ?_
  refine gB 2 Tryd.underlying29 ?_
  refine g1 (fun hx0 => r_len hx0 Tryd.underlying29) ?_
  refine gM <| ge <| tn <| gb <| gT3 ?_
  refine gX 0 <| gE fun _ => gE fun mu => ?_
  refine l1 mu (fun x_84 => [(11, .int .i64 x_84)]) [(1, _), (2, _), (3, _), (9, _), (10, _)] (fun _ => []) [(B_2, _, _), (B_4, _, _)] [2, 1] fun x_84 w85 _ => gS <| gR ?_
  refine g2 r_lss <| ge <| tn <| gS ?_
  refine gi dT dF ?_ ?_
  · refine gk <| tn <| gS <| gb <| gS <| gR <| gI1 Tryd.underlying29 ti_28 fun p_135 => ?_
    refine gE fun x_136_Name => gE fun x_136_Value => gLN Tryd.underlying28 ti_28 ?_
    refine na ti_28 fun w138 B_137 => ?_
    refine wn 0 0 ti_28 fun w139 => ge <| tn <| gS <| gR ?_
    refine gF 0 Tryd.underlying28 ti_9 ?_
    refine gB 0 Tryd.underlying9 ?_
    refine gF 1 Tryd.underlying28 ti_9 ?_
    refine gB 0 Tryd.underlying9 ?_
    refine gv (fun _ _ s _ => r_buildA (cells := #[.string (Bs x_136_Name), .string (Bs x_136_Value)]) (map_arr2 (ml2_cons (s.ag.opv rfl) (ml2_cons (s.ag.opv rfl) (ml2_nil)))) ti_63 Tryd.underlying63 ti_9 (by kernel_rfl)) ?_
    refine gM <| ge <| tn <| gb <| gT1 <| gE fun _ => gE fun mu => ?_
    refine l1 mu (fun x_142 => [(20, .int .i64 x_142)]) [(1, _), (2, _), (3, _), (9, _), (10, _), (11, _), (19, _)] (fun _ => []) [(B_2, _, _), (B_4, _, _)] [1, 2] fun x_142 w143 _ => gS <| gR ?_
    refine g2 r_lss <| ge <| tn <| gS ?_
    refine gi dT dF ?_ ?_
    · refine gk <| tn <| gS <| gb <| gS <| gR <| g2s (fun hx0 hx1 h => r_aindexS (l := ([x_136_Name, x_136_Value] : List Str)) hx0 rfl hx1 Tryd.underlying63 Tryd.underlying9 ti_9 rfl h) ?_
      refine gN <| ge <| tn <| gS <| gR ?_
      refine gM ?_
      refine g1 (fun hx0 => r_slen hx0 Tryd.underlying9) ?_
      refine gC [0, 1] Tryd.func29 fun _ w165 => gE fun r_164 => gQ ?_
      refine gC [0, 1] Tryd.func28 fun _ w168 => gE fun r_0_166 => gE fun r_1_167 => gQ <| ge <| tn <| gS <| gR ?_
      refine gC [0, 1] Tryd.func30 fun _ w171 => gE fun r_170 => gQ <| ge <| tn <| gR ?_
      refine gM ?_
      refine gC [0, 1] Tryd.func28 fun _ w175 => gE fun r_0_173 => gE fun r_1_174 => gQ <| ge <| bn <| tn <| gR ?_
      refine g2s r_addI ?_
      refine gM <| ge ?_
      exact k1 [0, 1]
    · refine gx <| te <| te <| bh <| bn <| tn <| gR <| g2s r_addI ?_
      refine gM <| ge ?_
      exact k1 [0, 1]
  · refine gx <| te <| te <| bh <| tn <| gS ?_
    intro a182 s181 ht183
    have hA182 := s181.ag
    have hB184 := s181.bx 0 rfl
    have hB185 := s181.bx 1 rfl
    have hne186 : B_2 ≠ B_4 := s181.ne 0 1
    let D237 : List (List Nat) := [[], [0], [], [0, 1, 2], [0, 1, 2, 3]]
    refine draw' (by kernel_rfl) fun w187 hE188 => ?_
    have hB189 := hB184.ext hE188
    have hB190 := hB185.ext hE188
    have hC191 : Chg [] w85 w187 := hE188
    have ht192 := ht183 w187    hC191
    refine startF (D := D237) (Fs := [0, 1]) (Ef := [(0, fun v _ => v = .pointer (some (⟨B_2, 1, none⟩ : Addr))), (1, fun v _ => v = .string (Bs e_1_Name))]) (by kernel_rfl) ?_
    refine oneF (c := 2) hA182 rfl (by kernel_rfl) (constF ⟨fun _ _ _ h => by first | exact h | (change _ = _ at h; change _ = _; exact h), fun _ _ _ h => by first | exact h | (change _ = _ at h; change _ = _; exact h), trivial⟩) ⟨?_, ?_, trivial⟩ ?_
    · intro a hT
      have hAp := hT.ag hA182 [(1, .pointer (some (⟨B_2, 0, none⟩ : Addr)))] ⟨rfl, trivial⟩ (by kernel_rfl)
      exact opk_val hAp rfl (r_fieldAddr (hAp.get rfl) Tryd.underlying31 rfl ti_9 (by decide)) fun _ _ e => ⟨_, e, rfl, fun _ => Eq.refl _⟩
    · intro a hT
      have hAp := hT.ag hA182 [] trivial (by kernel_rfl)
      have e193 : a.tmps.getD 32 undef = .pointer (some (⟨B_2, 1, none⟩ : Addr)) := hT.vals 0 rfl 32 rfl
      have hAp := hAp.add e193
      exact opk_val hAp rfl (r_load1 Tryd.underlying9 rfl (hAp.get rfl) ((hB189.ext hT.chg).cell 1 _ rfl)) fun _ _ e => ⟨_, e, rfl, fun _ => Eq.refl _⟩
    · intro a194 hT
      have hA194 := hT.ag hA182 [(1, .pointer (some (⟨B_2, 0, none⟩ : Addr))), (2, .pointer (some (⟨B_4, 0, none⟩ : Addr))), (3, .pointer (some (⟨B_7, 0, none⟩ : Addr)))] ⟨rfl, rfl, rfl, trivial⟩ (by kernel_rfl)
      refine (opk_call hA194 rfl (r_call (args := #[.pointer (some (⟨B_7, 0, none⟩ : Addr))]) Tryd.func31 (by decide) rfl (map_arr (ml_cons (hA194.get rfl) ml_nil)) rfl) ht192 fun a196 v202 w197 hA196 heq236 hn199 hz200 hK201 => ?_)
      refine ⟨_, heq236, ?_⟩
      obtain ⟨r_195, rfl, ht198⟩ := hK201
      have hB203 := hB189.kept hn199 (.head _)
      have hB204 := hB190.kept hn199 (.tail _ (.head _))
      refine joinF hA196 (by kernel_rfl) ⟨fun _ _ _ _ h => by first | exact h | (change _ = _ at h; change _ = _; exact h), fun _ _ _ _ h => by first | exact h | (change _ = _ at h; change _ = _; exact h), trivial⟩ ⟨?_, ?_, trivial⟩ ?_
      · intro a w hT
        have hAp := hT.ag hA196 [(1, .pointer (some (⟨B_2, 0, none⟩ : Addr)))] ⟨rfl, trivial⟩ (by kernel_rfl)
        exact opk_val hAp rfl (r_fieldAddr (hAp.get rfl) Tryd.underlying31 rfl ti_9 (by decide)) fun _ _ e => ⟨_, e, Chg.refl _ _, fun _ => Eq.refl _⟩
      · intro a w hT
        have hAp := hT.ag hA196 [] trivial (by kernel_rfl)
        have e205 : a.tmps.getD 32 undef = .pointer (some (⟨B_2, 1, none⟩ : Addr)) := hT.vals 0 rfl 32 rfl
        have hAp := hAp.add e205
        exact opk_val hAp rfl (r_load1 Tryd.underlying9 rfl (hAp.get rfl) ((hB203.ext hT.chg).cell 1 _ rfl)) fun _ _ e => ⟨_, e, Chg.refl _ _, fun _ => Eq.refl _⟩
      · intro a206 w207 hE208 hag209 hv210
        have hA206 := hag209 [(2, .pointer (some (⟨B_4, 0, none⟩ : Addr))), (34, .string (Bs r_195))] ⟨rfl, rfl, trivial⟩ (by kernel_rfl)
        have e211 : a206.tmps.getD 33 undef = .string (Bs e_1_Name) := hv210 1 rfl 33 rfl
        have hA212 := hA206.add e211
        have hB213 := hB203.ext hE208
        have hB214 := hB204.ext hE208
        have hC215 : Chg [] w197 w207 := hE208
        have ht216 := ht198 w207    hC215
        refine par (D := D237) (S := [3]) (F := []) (V := VL [(3, fun v _ => v = .agg #[.string (Bs e_1_Name), .string (Bs r_195)])]) hA212 (by kernel_rfl) ⟨fun _ _ _ _ h => by first | exact h | (change _ = _ at h; change _ = _; exact h), trivial⟩ ⟨?_, trivial⟩ ?_
        · intro a w hT
          have hAp := hT.ag hA212 [(33, .string (Bs e_1_Name)), (34, .string (Bs r_195))] ⟨rfl, rfl, trivial⟩ (by kernel_rfl)
          exact opk_val hAp rfl (r_build (vs := #[(0, .string (Bs e_1_Name)), (1, .string (Bs r_195))]) (cells := #[.string (Bs e_1_Name), .string (Bs r_195)]) (map_arr2 (ml2_cons (hAp.get rfl) (ml2_cons (hAp.get rfl) (ml2_nil)))) ti_51 Tryd.underlying51 pl_51 (by kernel_rfl)) fun _ _ e => ⟨_, e, Chg.refl _ _, fun _ => Eq.refl _⟩
        · intro a217 w218 hE219 hag220 hv221
          have hA217 := hag220 [(2, .pointer (some (⟨B_4, 0, none⟩ : Addr)))] ⟨rfl, trivial⟩ (by kernel_rfl)
          have e223 : a217.tmps.getD 35 undef = .agg #[.string (Bs e_1_Name), .string (Bs r_195)] := hv221 3 rfl 35 rfl
          have hA224 := hA217.add e223
          have hB225 := hB213.ext hE219
          have hB226 := hB214.ext hE219
          have hC227 : Chg [] w207 w218 := hE219
          refine one (D := D237) (i := 4) rfl (by kernel_rfl) (opk_store hA224 hB226 (r_store (vs := [.string (Bs e_1_Name), .string (Bs r_195)]) (hA224.get rfl) (hA224.get rfl) rfl ti_51 hB226 rfl (ones_all [.string (Bs e_1_Name), .string (Bs r_195)] rfl)) fun a229 w228 hS230 hB231 hA229 => ?_)
          have hB232 : Box w228 B_4 51 [.string (Bs e_1_Name), .string (Bs r_195)] := hB231
          have hB233 := hB225.keep hS230 (by simpa using hne186)
          have hC234 := hC227.storeOld hS230
          refine PR_end (by kernel_rfl) ?_
          have hA235 := hA229.keep [(2, .pointer (some (⟨B_4, 0, none⟩ : Addr)))] ⟨rfl, trivial⟩
          refine gK (bs := [(B_4, 51, [.string (Bs e_1_Name), .string (Bs r_195)])]) (N := []) hA235 hC234 ⟨hB232, trivial⟩ (by simp) trivial (by simp) ht216 ?_
          exact tn <| gr <| gT0 <| gzB 0 Tryd.underlying51 ti_51

/-- The condition of (*topiary/format.List).from. -/
def format_List_from.vc (l_1 : Addr) (R : Value → World → Prop) (w : World) : Prop :=
∃ (x_3 : Sl), (w.cell? (l_1.add 0) = some (Sl.v x_3)) ∧
∃ (J_7 : Int → World → Prop) (mu_8 : Int → World → Nat),
J_7 (x_3.n : Int) w ∧
(∀ (n_5 : Int) (w6 : World), J_7 n_5 w6 →
∃ (x_14 : Sl), (((0 < n_5)) → w6.cell? (l_1.add 0) = some (Sl.v x_14)) ∧
(((0 < n_5)) → I64 (n_5 - 1)) ∧
∃ p_15 : Addr, (((0 < n_5)) → ((0 : Int) ≤ n_5 - 1 ∧ n_5 - 1 < (x_14.n : Int)) ∧  x_14.a = some p_15) ∧
∃ (x_16 : Bool), (((0 < n_5)) → w6.cell? ((p_15.add ((n_5 - 1).toNat * 4)).add 3) = some (.bool x_16)) ∧
(((0 < n_5) ∧ (x_16 = false)) →
(I64 (n_5 - 1)) ∧
J_7 (n_5 - 1) w6 ∧ mu_8 (n_5 - 1) w6 < mu_8 n_5 w6) ∧
(((¬ (0 < n_5)) ∨ (x_16 = true)) →
R (.int .i64 n_5) w6))
set_option maxHeartbeats 1000000 in
set_option maxRecDepth 10000 in
theorem format_List_from.ok (l_1 : Addr) {R : Value → World → Prop} {w : World} (ht0 : format_List_from.vc l_1 R w) : Calls Tryd.prog 22 #[.pointer (some l_1)] w (Ret R) := by
  refine go _ Tryd.func22 Tryd.ntmps22 ht0 ?_
  refine gS <| gR <| gN <| ge <| tn <| gS <| gR ?_
  refine gM ?_
  refine g1 r_nilCheck ?_
  refine gF 0 Tryd.underlying47 ti_45 ?_
  refine gE fun x_3 => gL Tryd.underlying45 ?_
  refine g1 (fun hx0 => r_len hx0 Tryd.underlying45) ?_
  refine gN <| ge <| tn <| gS <| gb <| gE fun _ => gE fun mu => ?_
  refine l1 mu (fun n_5 => [(3, .int .i64 n_5)]) [(0, _)] (fun _ => []) [] [] fun n_5 w6 _ => gS <| gS <| gR ?_
  refine gM ?_
  refine g2 r_gtr ?_
  refine gM ?_
  refine G1 r_move ?_
  refine G1 r_nilCheck ?_
  refine GF 0 Tryd.underlying47 ti_45 ?_
  refine gE fun x_14 => GLd Tryd.underlying45 (fun hg => (dT (g_t hg))) ?_
  refine G1 r_move ?_
  refine G2s r_subI (fun hg => (dT (g_t hg))) ?_
  refine GI2 Tryd.underlying45 ti_49 (fun hg => (dT (g_t hg))) fun p_15 => ?_
  refine GF 3 Tryd.underlying49 ti_4 ?_
  refine gE fun x_16 => GLd Tryd.underlying4 (fun hg => (dT (g_t hg))) ?_
  refine G1 r_not ?_
  refine gpa <| ge <| tn ?_
  refine gi (fun h => ⟨(dT (aT h).1), (nT (aT h).2)⟩) (fun h => ((aF h).imp (fun h => (dF h)) (fun h => (nF h)))) ?_ ?_
  · refine gk <| tn <| gb <| gR <| gM ?_
    refine g2s r_subI ?_
    refine gN <| ge <| bn ?_
    exact k1 []
  · refine gx <| te <| te <| bh <| tn <| gS <| gR <| gM ?_
    refine gN <| ge <| tn <| gr ?_
    exact gz1

/-- The condition of (topiary/format.Entry).clone. -/
def format_Entry_clone.vc (e_1_ID : Int) (e_1_Name : Str) (e_1_Attrs : Sl) (R : Value → World → Prop) (w : World) : Prop :=
∀ (w5 : World) (B_2 : Nat) (B_4 : Nat), New w B_2 w5 → New w B_4 w5 → B_2 ≠ B_4 → Chg [] w w5 →
CallK Tryd.prog 32 #[Sl.v e_1_Attrs] w5 [B_2, B_4] (fun v w8 => ∃ (r_7 : Sl), v = Sl.v r_7 ∧
∀ (w11 : World), Chg [B_4, B_2] w8 w11 →
R (.agg #[.int .i64 e_1_ID, .string (Bs e_1_Name), Sl.v r_7]) w11)
set_option maxHeartbeats 1000000 in
set_option maxRecDepth 10000 in
theorem format_Entry_clone.ok (e_1_ID : Int) (e_1_Name : Str) (e_1_Attrs : Sl) {R : Value → World → Prop} {w : World} (ht0 : format_Entry_clone.vc e_1_ID e_1_Name e_1_Attrs R w) : Calls Tryd.prog 24 #[.agg #[.int .i64 e_1_ID, .string (Bs e_1_Name), Sl.v e_1_Attrs]] w (Ret R) := by
  refine go _ Tryd.func24 Tryd.ntmps24 ht0 ?_
  refine gS <| gR <| nb fun w3 B_2 => ?_
  refine na ti_31 fun w5 B_4 => ge <| tn <| gS <| gR ?_
  refine gF 2 Tryd.underlying31 ti_29 ?_
  refine gB 1 Tryd.underlying29 <| gT2 ?_
  refine gC [1, 0] Tryd.func32 fun _ w8 => gE fun r_7 => gQ ?_
  refine gF 2 Tryd.underlying31 ti_29 ?_
  refine wo 1 ti_29 fun w9 => ge <| tn <| gS <| gR ?_
  refine gBN 1 3 Tryd.underlying31 ti_31 ?_
  refine wo 0 ti_31 fun w11 => ge <| tn <| gr <| gT0 ?_
  exact gzB 0 Tryd.underlying31 ti_31

/-- The condition of (*topiary/format.List).Place.1. -/
def format_List_Place_1.vc (s_1_e_ID : Int) (s_1_e_Name : Str) (s_1_e_Attrs : Sl) (s_1_marker : Bool) (x_2 : Addr) (R : Value → World → Prop) (w : World) : Prop :=
∀ (w4 : World) (B_3 : Nat), New w B_3 w4 → Chg [] w w4 →
∃ (x_6 : Int), (((s_1_marker = false)) → w4.cell? x_2 = some (.int .i64 x_6)) ∧
R (.bool ((!s_1_marker) && (decide (s_1_e_ID = x_6)))) w4
set_option maxHeartbeats 1000000 in
set_option maxRecDepth 10000 in
theorem format_List_Place_1.ok (s_1_e_ID : Int) (s_1_e_Name : Str) (s_1_e_Attrs : Sl) (s_1_marker : Bool) (x_2 : Addr) {R : Value → World → Prop} {w : World} (ht0 : format_List_Place_1.vc s_1_e_ID s_1_e_Name s_1_e_Attrs s_1_marker x_2 R w) : Calls Tryd.prog 26 #[.agg #[.int .i64 s_1_e_ID, .string (Bs s_1_e_Name), Sl.v s_1_e_Attrs, .bool s_1_marker], .pointer (some x_2)] w (Ret R) := by
  refine go _ Tryd.func26 Tryd.ntmps26 ht0 ?_
  refine gS <| gR <| nb fun w4 B_3 => ?_
  refine gN <| ge <| tn <| gS <| gR ?_
  refine gF 3 Tryd.underlying49 ti_4 ?_
  refine gB 0 Tryd.underlying4 ?_
  refine g1 r_not ?_
  refine gM ?_
  refine GF 0 Tryd.underlying49 ti_31 ?_
  refine GF 0 Tryd.underlying31 ti_3 ?_
  refine GB 0 Tryd.underlying3 <| gT1 ?_
  refine gE fun x_6 => GLd Tryd.underlying3 (fun hg => (nT (g_t hg))) ?_
  refine G2 r_eql ?_
  refine gpa ?_
  refine gN <| ge <| tn <| gr ?_
  exact gz1

end Go.Proofs.YtcploacnonngaaaDoor
