/-
  Texts of the walk, joined: what each one proves stands at its theorems.
-/
import Derived.Test.YtkmpmjficoohkaaGreatS40DEEPp1
set_option linter.unusedSimpArgs false
set_option linter.unusedVariables false
set_option linter.unnecessarySimpa false
namespace Go.Proofs.YtkmpmjficoohkaaGreat
open Go Go.RowKit
attribute [local irreducible] JL JC JQ JO LO PO JA JX Ct
theorem C_toTxS (a : Option Addr) (c : Nat) (s : List TX) (hn : s.length ≤ 1048576) (hl : ∀ q ∈ s, q.t.lim 1048576) :
    Ct Tryz.prog 34 [.slice a s.length c] [] (fun w => SeesAE w (rdsXS a c s)) (fun r A' => ∃ a' c' y, y.map TX.t = s.map TX.t ∧ r = .slice a' y.length c' ∧ A' = [.rows (rdsXS a' c' y)]) := by
  refine Ct.intro Tryz.func34 rfl Tryz.ntmps34 (lb rfl) fun w0 hpre => ?_
  have hs_1 : SeesE w0 (.slice a s.length c) 10 s.length (s.flatMap encX) := (hpre).head
  have hi_2 : SeesAE w0 (s.flatMap rdsX) := (hpre).tail
  refine jC <| jE <| jA (jG (v := .slice none 0 0) rfl) <| jD <| jB <| jC <| jE <| jA (jF (v := .slice a s.length c) rfl) <| jA (jf Tryz.underlying23 rfl) ?_
  refine jH rfl (JO.makeSlice (z := .agg #[iv 0, iv 0, iv 0, iv 0, .slice none 0 0, .slice none 0 0, .slice none 0 0, .slice none 0 0, .slice none 0 0, iv 0]) (zc := [iv 0, iv 0, iv 0, iv 0, .slice none 0 0, .slice none 0 0, .slice none 0 0, .slice none 0 0, .slice none 0 0, iv 0]) (m := s.length) kU Tryz.typeInfo61 rfl rfl rfl rfl rfl (by unfold maxLen; omega) (by show 160 * _ ≤ _; omega)) ?_
  rintro _ _ ⟨a_3, rfl, rfl⟩
  refine jA (jG (v := .slice a_3 s.length s.length) rfl) <| jD <| jB <| jC <| jC <| jE <| jA (jG (v := iv 0) rfl) <| jD <| jB <| jZ ?_
  refine kP (L' := [Res.row (.slice a_3 s.length s.length) 61 10 s.length ((List.replicate s.length x0).flatMap encX), Res.rows (([] : List TX).flatMap rdsX)]) (fun w hw => St.rowsNil' (hw.eqL (by rw [flatX]; rfl))) <| jp (fun k_ e_ L_ => ∃ j : Nat, ∃ y : List TX, (j ≤ s.length) ∧ (y.map TX.t = (s.take j).map TX.t) ∧ e_ 0 = .slice a s.length c ∧ e_ 2 = .slice none 0 0 ∧ e_ 3 = .slice a_3 s.length s.length ∧ e_ 4 = nv j ∧ L_ = [Res.row (.slice a_3 s.length s.length) 61 10 s.length ((y ++ List.replicate (s.length - j) x0).flatMap encX), Res.rows (y.flatMap rdsX)] ∧ k_ = s.length - j) _ ⟨0, ([] : List TX), by omega, rfl, rfl, rfl, rfl, rfl, rfl, rfl⟩ ?_
  rintro _ e_4 _ ⟨j, y, hj, hd, he_5, he_6, he_7, he_8, rfl, rfl⟩
  refine jC <| jC <| jE <| jA (jF (v := nv j) he_8) <| jA (jF (v := .slice a s.length c) he_5) <| jA (jf Tryz.underlying23 rfl) <| jA (jc rfl rfl) <| jD <| jB ?_
  by_cases h_9 : ((j : Nat) : Int) < ((s.length : Nat) : Int)
  · have hlt : j < s.length := by omega
    have hf_10 := SeesE.full hs_1 (by omega)
    refine jS (cB (dT h_9)) <| jQ <| jB <| jC <| jZ <| jE <| jA (jF (v := .slice a_3 s.length s.length) he_7) <| jA (jF (v := nv j) he_8) <| jA (jF (v := .slice a s.length c) he_5) <| jA (jF (v := nv j) he_8) ?_
    obtain ⟨hr_11, hr_11b, -⟩ := sees_some hf_10 (by omega)
    refine jA (jX (i := j) Tryz.underlying23 Tryz.sizeOf54 hr_11 hr_11b rfl rfl (by omega)) ?_
    have hi_12 := SeesAE.elem hi_2 x0 (show j < s.length by omega)
    obtain ⟨hs_13, hs_14, hs_15, hs_16, hs_17⟩ := seesXE hi_12
    refine jK (kF (vs := [iv ((s.getD j x0).t.id), iv ((s.getD j x0).t.age), iv ((s.getD j x0).t.proc), iv ((s.getD j x0).t.began), .slice ((s.getD j x0).x.a0) ((s.getD j x0).t.calls.length) ((s.getD j x0).x.c0), .slice ((s.getD j x0).x.a1) ((s.getD j x0).t.ans.length) ((s.getD j x0).x.c1), .slice ((s.getD j x0).x.a2) ((s.getD j x0).t.rd.length) ((s.getD j x0).x.c2), .slice ((s.getD j x0).x.a3) ((s.getD j x0).t.wr.length) ((s.getD j x0).x.c3), .slice ((s.getD j x0).x.a4) ((s.getD j x0).t.marks.length) ((s.getD j x0).x.c4), iv ((s.getD j x0).t.state)]) hf_10 nM rfl Tryz.isAgg54 Tryz.sizeOf54 (flat_take encX_len x0 s j (by omega)) rfl (by decide)) ?_
    refine jH rfl (jU [] Tryz.call17 rfl (C_toTx (s.getD j x0) (hl _ (getD_mem hlt))) rfl (fun w hw => hw.seeOutAE hi_12 nMA)) ?_
    rintro _ _ ⟨_, ⟨y_18, hy_19, rfl, rfl⟩, rfl⟩
    refine kQ fun hst => ?_
    obtain ⟨hr_20, hr_20b, -⟩ := row_some 1 rfl (by omega) hst
    refine jA (jX (i := j) kU kS hr_20 hr_20b rfl rfl (by omega)) ?_
    refine jH rfl (kD 1 (vs := [iv y_18.t.id, iv y_18.t.age, iv y_18.t.proc, iv y_18.t.began, .slice y_18.x.a0 y_18.t.calls.length y_18.x.c0, .slice y_18.x.a1 y_18.t.ans.length y_18.x.c1, .slice y_18.x.a2 y_18.t.rd.length y_18.x.c2, .slice y_18.x.a3 y_18.t.wr.length y_18.x.c3, .slice y_18.x.a4 y_18.t.marks.length y_18.x.c4, iv y_18.t.state]) (cs' := ((y ++ List.replicate (s.length - j) x0).set j y_18).flatMap encX) rfl rfl rfl rfl kS rfl rfl (by decide) (by rw [flat_length encX_len]; rw [List.length_append, List.length_replicate, map_len hd hj]; omega) (flat_set encX_len (y ++ List.replicate (s.length - j) x0) j y_18 (by rw [List.length_append, List.length_replicate, map_len hd hj]; omega))) ?_
    rintro _ _ rfl
    refine jD <| jk <| jB <| jE <| jA (jF (v := nv j) he_8) <| jA (ja (c := ((j + 1 : Nat) : Int)) rfl rfl (wr (by omega))) <| jA (jG (v := iv ((j + 1 : Nat) : Int)) rfl) <| jD <| jv (L' := [Res.rows ((y ++ [y_18]).flatMap rdsX), Res.row (.slice a_3 s.length s.length) 61 10 s.length (((y ++ List.replicate (s.length - j) x0).set j y_18).flatMap encX)]) (fun w hw => hw.addR [2, 0] rfl flatMap_snoc) <| jv (L' := [Res.rows ((y ++ [y_18]).flatMap rdsX), Res.row (.slice a_3 s.length s.length) 61 10 s.length (((y ++ [y_18]) ++ List.replicate (s.length - (j + 1)) x0).flatMap encX)]) (fun w hw => hw.eqL (by rw [fillV_step (map_len hd hj) hlt])) ?_
    refine kL [1, 0] (A := [Res.row (.slice a_3 s.length s.length) 61 10 s.length (((y ++ [y_18]) ++ List.replicate (s.length - (j + 1)) x0).flatMap encX), Res.rows ((y ++ [y_18]).flatMap rdsX)]) rfl ?_
    refine jl (s.length - (j + 1)) (by omega) ⟨j + 1, (y ++ [y_18]), by omega, (map_take_succ x0 hd hlt hy_19), he_5, he_6, he_7, rfl, rfl, rfl⟩
  refine jP (cB (dF h_9)) <| jn <| jb <| jb <| jo <| jB <| jC <| jE <| jA (jF (v := .slice a_3 s.length s.length) he_7) <| jA (jG (v := .slice a_3 s.length s.length) rfl) ?_
  refine jD <| jB <| jJ ?_
  have hly := map_len hd hj
  obtain rfl : j = s.length := by omega
  refine jv (L' := [Res.row (.slice a_3 y.length s.length) 61 10 y.length (y.flatMap encX), Res.rows (y.flatMap rdsX)]) (fun w hw => hw.eqL (by simp only [Nat.sub_self, List.replicate_zero, List.append_nil, hly])) <| jv (L' := [Res.rows (rdsXS a_3 s.length y)]) (fun w hw => hw.consR (r := ⟨.slice a_3 y.length s.length, 61, 10, y.length, y.flatMap encX⟩) (A := y.flatMap rdsX) [0, 0] rfl) <| jL (.inl rfl) rfl (jM (v := .slice a_3 s.length s.length) rfl) (List.Sublist.refl _) ?_
  exact ⟨a_3, s.length, y, map_all hd (Nat.le_refl _), by rw [hly], rfl⟩

theorem C_eqTxS (a b : Option Addr) (c c' : Nat) (s t : List TX) (hn : s.length ≤ 9223372036854775807) (hl : ∀ q ∈ s, q.t.lim 1000000000) :
    Ct Tryz.prog 40 [.slice a s.length c, .slice b t.length c'] [] (fun w => SeesA w (rdsXS a c s) ∧ SeesA w (rdsXS b c' t)) (fun r A' => r = .bool (decide (s.map TX.t = t.map TX.t)) ∧ A' = []) := by
  refine Ct.intro Tryz.func40 rfl Tryz.ntmps40 (lb rfl) fun w0 hpre => ?_
  have hs_1 : Sees w0 (.slice a s.length c) 10 s.length (s.flatMap encX) := (hpre.1).head
  have hi_2 : SeesA w0 (s.flatMap rdsX) := (hpre.1).tail
  have hs_3 : Sees w0 (.slice b t.length c') 10 t.length (t.flatMap encX) := (hpre.2).head
  have hi_4 : SeesA w0 (t.flatMap rdsX) := (hpre.2).tail
  refine jC <| jE <| jA (jG (v := .bool false) rfl) <| jD <| jB <| jC <| jC <| jE <| jA (jF (v := .slice a s.length c) rfl) <| jA (jf kU rfl) ?_
  refine jA (jF (v := .slice b t.length c') rfl) <| jA (jf kU rfl) <| jA (jz rfl rfl) <| jD <| jB ?_
  by_cases h_5 : ((s.length : Nat) : Int) = ((t.length : Nat) : Int)
  · have hlen := h_5
    refine jP (cB (cN (dT h_5))) <| jQ <| jB <| jC <| jC <| jE <| jA (jG (v := iv 0) rfl) <| jD <| jB <| jZ ?_
    refine jp (fun k_ e_ L_ => ∃ j : Nat, (j ≤ s.length) ∧ ((s.take j).map TX.t = (t.take j).map TX.t) ∧ (s.length = t.length) ∧ e_ 0 = .slice a s.length c ∧ e_ 1 = .slice b t.length c' ∧ e_ 5 = nv j ∧ L_ = [] ∧ k_ = s.length - j) _ ⟨0, by omega, rfl, by omega, rfl, rfl, rfl, rfl, rfl⟩ ?_
    rintro _ e_6 _ ⟨j, hj, hE, hln, he_7, he_8, he_9, rfl, rfl⟩
    refine jC <| jC <| jE <| jA (jF (v := nv j) he_9) <| jA (jF (v := .slice a s.length c) he_7) <| jA (jf kU rfl) <| jA (jc rfl rfl) <| jD <| jB ?_
    by_cases h_10 : ((j : Nat) : Int) < ((s.length : Nat) : Int)
    · have hlt : j < s.length := by omega
      refine jS (cB (dT h_10)) <| jQ <| jB <| jC <| jZ <| jC <| kG [] 1000 mixed (by simp) <| jT 0 rfl (jF (v := .slice a s.length c) he_7) <| jT 1 rfl (jF (v := nv j) he_9) ?_
      obtain ⟨hr_11, hr_11b, -⟩ := sees_some hs_1 (by omega)
      refine jT 2 rfl (jX (i := j) kU kS hr_11 hr_11b rfl rfl (by omega)) ?_
      have hi_12 := SeesA.elem hi_2 x0 (show j < s.length by omega)
      obtain ⟨hs_13, hs_14, hs_15, hs_16, hs_17⟩ := seesX hi_12
      refine jw 3 rfl (kF (vs := [iv ((s.getD j x0).t.id), iv ((s.getD j x0).t.age), iv ((s.getD j x0).t.proc), iv ((s.getD j x0).t.began), .slice ((s.getD j x0).x.a0) ((s.getD j x0).t.calls.length) ((s.getD j x0).x.c0), .slice ((s.getD j x0).x.a1) ((s.getD j x0).t.ans.length) ((s.getD j x0).x.c1), .slice ((s.getD j x0).x.a2) ((s.getD j x0).t.rd.length) ((s.getD j x0).x.c2), .slice ((s.getD j x0).x.a3) ((s.getD j x0).t.wr.length) ((s.getD j x0).x.c3), .slice ((s.getD j x0).x.a4) ((s.getD j x0).t.marks.length) ((s.getD j x0).x.c4), iv ((s.getD j x0).t.state)]) hs_1 nM rfl kg kS (flat_take encX_len x0 s j (by omega)) rfl (by decide)) <| jT 4 rfl (jF (v := .slice b t.length c') he_8) <| jT 5 rfl (jF (v := nv j) he_9) ?_
      obtain ⟨hr_18, hr_18b, -⟩ := sees_some hs_3 (by omega)
      refine jT 6 rfl (jX (i := j) kU kS hr_18 hr_18b rfl rfl (by omega)) ?_
      have hi_19 := SeesA.elem hi_4 x0 (show j < t.length by omega)
      obtain ⟨hs_20, hs_21, hs_22, hs_23, hs_24⟩ := seesX hi_19
      refine jw 7 rfl (kF (vs := [iv ((t.getD j x0).t.id), iv ((t.getD j x0).t.age), iv ((t.getD j x0).t.proc), iv ((t.getD j x0).t.began), .slice ((t.getD j x0).x.a0) ((t.getD j x0).t.calls.length) ((t.getD j x0).x.c0), .slice ((t.getD j x0).x.a1) ((t.getD j x0).t.ans.length) ((t.getD j x0).x.c1), .slice ((t.getD j x0).x.a2) ((t.getD j x0).t.rd.length) ((t.getD j x0).x.c2), .slice ((t.getD j x0).x.a3) ((t.getD j x0).t.wr.length) ((t.getD j x0).x.c3), .slice ((t.getD j x0).x.a4) ((t.getD j x0).t.marks.length) ((t.getD j x0).x.c4), iv ((t.getD j x0).t.state)]) hs_3 nM rfl kg kS (flat_take encX_len x0 t j (by omega)) rfl (by decide)) <| jq (i := 8) ?_
      refine kA rfl rfl (jU [] Tryz.call19 rfl (C_eqTx (s.getD j x0) (t.getD j x0) (hl _ (getD_mem hlt))) rfl (fun w hw => ⟨hw.seeOutA hi_12 nMA, hw.seeOutA hi_19 nMA⟩)) ?_
      rintro _ _ ⟨_, ⟨rfl, rfl⟩, rfl⟩
      refine ⟨(fun _ h => by cases h), ?_⟩
      refine jT 9 rfl (kE rfl) <| kH (by kernel_rfl) <| jB ?_
      by_cases h_25 : (s.getD j x0).t = (t.getD j x0).t
      · have heq := h_25
        refine jP (cB (cN (dT h_25))) <| jQ <| jk <| jB <| jE <| jA (jF (v := nv j) he_9) <| jA (ja (c := ((j + 1 : Nat) : Int)) rfl rfl (wr (by omega))) <| jA (jG (v := iv ((j + 1 : Nat) : Int)) rfl) <| jD ?_
        refine jl (s.length - (j + 1)) (by omega) ⟨j + 1, by omega, take_succM_eq x0 hE hlt hln heq, hln, he_7, he_8, rfl, rfl, rfl⟩
      have hne := h_25
      refine jS (cB (cN (dF h_25))) <| jC <| jE <| jA (jG (v := .bool false) rfl) <| jD <| jB <| jJ <| je <| jO <| jO ?_
      refine je <| jO <| jL (.inl rfl) rfl (jM (v := .bool false) rfl) (List.nil_sublist _) ?_
      refine ⟨?_, rfl⟩
      rw [dF (fun h => hne (getM_eq x0 h hlt hln))]
    refine jP (cB (dF h_10)) <| jn <| jb <| jb <| jo <| jB <| jC <| jE <| jA (jG (v := .bool true) rfl) <| jD ?_
    refine jB <| jJ <| jL (.inl rfl) rfl (jM (v := .bool true) rfl) (List.nil_sublist _) ?_
    refine ⟨?_, rfl⟩
    rw [dT (take_allM_eq hE (by omega) (by omega))]
  have hlen := h_5
  refine jS (cB (cN (dF h_5))) <| jC <| jE <| jA (jG (v := .bool false) rfl) <| jD <| jB <| jJ <| jO <| jL (.inl rfl) rfl (jM (v := .bool false) rfl) (List.nil_sublist _) ?_
  refine ⟨?_, rfl⟩
  rw [dF (fun h => by have h2 := congrArg List.length h; rw [List.length_map, List.length_map] at h2; omega)]

set_option maxRecDepth 4000 in
set_option maxHeartbeats 1000000 in
theorem C_markTxS (a : Option Addr) (c : Nat) (l : List TX) (k : Nat) (h0 : 0 < k) (h1 : k + cntV cntX l ≤ 100000000) (hn : l.length ≤ 1000000000) :
    Ct Tryz.prog 45 [.slice a l.length c, .int .i64 ((k : Nat) : Int)] [Res.rows (rdsXS a c l)] (fun _ => True) (fun v A' => v = .int .i64 ((k + cntV cntX l : Nat) : Int) ∧ A' = [.rows (rdsXS a c (markV mkX cntX l k))]) := by
  refine Ct.intro Tryz.func45 rfl Tryz.ntmps45 (lb rfl) fun w0 hpre => ?_
  refine kP (L' := [Res.row (.slice a l.length c) 61 10 l.length (l.flatMap encX), Res.rows (l.flatMap rdsX)]) (fun w hw => hw.headR (r := ⟨.slice a l.length c, 61, 10, l.length, l.flatMap encX⟩) (A := l.flatMap rdsX) 0 rfl) <| jC <| jE <| jA (jG (v := iv 0) rfl) <| jD <| jB <| jC <| jC <| jE <| jA (jG (v := iv 0) rfl) ?_
  refine jD <| jB <| jZ <| jp (fun k_ e_ L_ => ∃ j : Nat, ∃ kk : Nat, ∃ Q : List TX, (j ≤ l.length) ∧ (kk = k + cntV cntX (l.take j)) ∧ (Q = (markV mkX cntX l k).take j) ∧ (Q.length = j) ∧ e_ 0 = .slice a l.length c ∧ e_ 1 = nv kk ∧ e_ 4 = iv 0 ∧ e_ 5 = nv j ∧ L_ = [Res.row (.slice a l.length c) 61 10 l.length ((Q ++ l.drop j).flatMap encX), Res.rows ((Q ++ l.drop j).flatMap rdsX)] ∧ k_ = l.length - j) _ ⟨0, k, [], by omega, rfl, rfl, rfl, rfl, rfl, rfl, rfl, rfl, rfl⟩ ?_
  rintro _ e_1 _ ⟨j, kk, Q, hj, hkk, hQ, hQl, he_2, he_3, he_4, he_5, rfl, rfl⟩
  refine jC <| jC <| jE <| jA (jF (v := nv j) he_5) <| jA (jF (v := .slice a l.length c) he_2) <| jA (jf kU rfl) <| jA (jc rfl rfl) <| jD <| jB ?_
  by_cases h_6 : ((j : Nat) : Int) < ((l.length : Nat) : Int)
  · have hlt : j < l.length := by omega
    have hb : cntV cntX (l.take j) + cntX (l.getD j x0) ≤ cntV cntX l := cntV_le x0 hlt
    simp only [cntX] at hb
    refine kP (L' := [Res.row (.slice ((l.getD j x0).x.a0) ((l.getD j x0).t.calls.length) ((l.getD j x0).x.c0)) 152 6 (((l.getD j x0).t.calls).length) (((l.getD j x0).t.calls).flatMap encK), Res.row (.slice ((l.getD j x0).x.a1) ((l.getD j x0).t.ans.length) ((l.getD j x0).x.c1)) 154 3 (((l.getD j x0).t.ans).length) (((l.getD j x0).t.ans).flatMap encA), Res.row (.slice ((l.getD j x0).x.a2) ((l.getD j x0).t.rd.length) ((l.getD j x0).x.c2)) 9 1 (((l.getD j x0).t.rd).length) (((l.getD j x0).t.rd).map str), Res.row (.slice ((l.getD j x0).x.a3) ((l.getD j x0).t.wr.length) ((l.getD j x0).x.c3)) 9 1 (((l.getD j x0).t.wr).length) (((l.getD j x0).t.wr).map str), Res.row (.slice ((l.getD j x0).x.a4) ((l.getD j x0).t.marks.length) ((l.getD j x0).x.c4)) 3 1 (((l.getD j x0).t.marks).length) (((l.getD j x0).t.marks).map (Value.int .i64)), Res.rows (Q.flatMap rdsX), Res.rows ((l.drop (j + 1)).flatMap rdsX), Res.row (.slice a l.length c) 61 10 l.length (mid encX Q [iv ((l.getD j x0).t.id), iv ((l.getD j x0).t.age), iv ((l.getD j x0).t.proc), iv ((l.getD j x0).t.began), .slice ((l.getD j x0).x.a0) ((l.getD j x0).t.calls.length) ((l.getD j x0).x.c0), .slice ((l.getD j x0).x.a1) ((l.getD j x0).t.ans.length) ((l.getD j x0).x.c1), .slice ((l.getD j x0).x.a2) ((l.getD j x0).t.rd.length) ((l.getD j x0).x.c2), .slice ((l.getD j x0).x.a3) ((l.getD j x0).t.wr.length) ((l.getD j x0).x.c3), .slice ((l.getD j x0).x.a4) ((l.getD j x0).t.marks.length) ((l.getD j x0).x.c4), iv ((l.getD j x0).t.state)] (l.drop (j + 1)))]) (fun w hw => St.openR 1 rfl (St.splitR 1 rfl (flatMap_mid x0 hlt) (hw.midR 0 rfl x0 hlt))) <| jS (cB (dT h_6)) <| jQ <| jB <| jC <| jZ <| jC <| jE <| jA (jF (v := .slice a l.length c) he_2) <| jA (jF (v := nv j) he_5) ?_
    refine jA (jF (v := nv kk) he_3) ?_
    refine kQ fun hst => ?_
    obtain ⟨hr_7, hr_7b, -⟩ := row_some 7 rfl (by omega) hst
    refine jA (jX (i := j) kU kS hr_7 hr_7b rfl rfl (by omega)) <| jA (ji fo61_0 hr_7 rfl) ?_
    refine jH rfl (kD 7 (vs := [nv kk]) (cs' := mid encX Q [nv kk, iv ((l.getD j x0).t.age), iv ((l.getD j x0).t.proc), iv ((l.getD j x0).t.began), .slice ((l.getD j x0).x.a0) ((l.getD j x0).t.calls.length) ((l.getD j x0).x.c0), .slice ((l.getD j x0).x.a1) ((l.getD j x0).t.ans.length) ((l.getD j x0).x.c1), .slice ((l.getD j x0).x.a2) ((l.getD j x0).t.rd.length) ((l.getD j x0).x.c2), .slice ((l.getD j x0).x.a3) ((l.getD j x0).t.wr.length) ((l.getD j x0).x.c3), .slice ((l.getD j x0).x.a4) ((l.getD j x0).t.marks.length) ((l.getD j x0).x.c4), iv ((l.getD j x0).t.state)] (l.drop (j + 1))) rfl rfl rfl rfl kW rfl rfl (by decide) (mid_fit encX_len rfl hQl (f := 0) (lb rfl)) (mid_set encX_len rfl hQl 0 [nv kk] (lb rfl))) ?_
    rintro _ _ rfl
    refine jD <| jB <| jC <| jE <| jA (jF (v := nv kk) he_3) <| jA (ja (c := ((kk + 1 : Nat) : Int)) rfl rfl (wr (by omega))) <| jA (jG (v := iv ((kk + 1 : Nat) : Int)) rfl) <| jD <| jB <| jC ?_
    refine jE <| jA (jF (v := .slice a l.length c) he_2) <| jA (jF (v := nv j) he_5) <| jA (jF (v := iv ((kk + 1 : Nat) : Int)) rfl) <| jA (jX (i := j) kU kS hr_7 hr_7b rfl rfl (by omega)) <| jA (ji fo61_1 hr_7 rfl) ?_
    refine jH rfl (kD 7 (vs := [iv ((kk + 1 : Nat) : Int)]) (cs' := mid encX Q [nv kk, iv ((kk + 1 : Nat) : Int), iv ((l.getD j x0).t.proc), iv ((l.getD j x0).t.began), .slice ((l.getD j x0).x.a0) ((l.getD j x0).t.calls.length) ((l.getD j x0).x.c0), .slice ((l.getD j x0).x.a1) ((l.getD j x0).t.ans.length) ((l.getD j x0).x.c1), .slice ((l.getD j x0).x.a2) ((l.getD j x0).t.rd.length) ((l.getD j x0).x.c2), .slice ((l.getD j x0).x.a3) ((l.getD j x0).t.wr.length) ((l.getD j x0).x.c3), .slice ((l.getD j x0).x.a4) ((l.getD j x0).t.marks.length) ((l.getD j x0).x.c4), iv ((l.getD j x0).t.state)] (l.drop (j + 1))) rfl rfl rfl rfl kW rfl rfl (by decide) (mid_fit encX_len rfl hQl (f := 1) (lb rfl)) (mid_set encX_len rfl hQl 1 [iv ((kk + 1 : Nat) : Int)] (lb rfl))) ?_
    rintro _ _ rfl
    refine jD <| jB <| jC <| jE <| jA (jF (v := iv ((kk + 1 : Nat) : Int)) rfl) <| jA (ja (c := (((kk + 1) + 1 : Nat) : Int)) rfl rfl (wr (by omega))) <| jA (jG (v := iv (((kk + 1) + 1 : Nat) : Int)) rfl) <| jD <| jB <| jC ?_
    refine jE <| jA (jF (v := .slice a l.length c) he_2) <| jA (jF (v := nv j) he_5) <| jA (jF (v := iv (((kk + 1) + 1 : Nat) : Int)) rfl) <| jA (jX (i := j) kU kS hr_7 hr_7b rfl rfl (by omega)) <| jA (ji fo61_2 hr_7 rfl) ?_
    refine jH rfl (kD 7 (vs := [iv (((kk + 1) + 1 : Nat) : Int)]) (cs' := mid encX Q [nv kk, iv ((kk + 1 : Nat) : Int), iv (((kk + 1) + 1 : Nat) : Int), iv ((l.getD j x0).t.began), .slice ((l.getD j x0).x.a0) ((l.getD j x0).t.calls.length) ((l.getD j x0).x.c0), .slice ((l.getD j x0).x.a1) ((l.getD j x0).t.ans.length) ((l.getD j x0).x.c1), .slice ((l.getD j x0).x.a2) ((l.getD j x0).t.rd.length) ((l.getD j x0).x.c2), .slice ((l.getD j x0).x.a3) ((l.getD j x0).t.wr.length) ((l.getD j x0).x.c3), .slice ((l.getD j x0).x.a4) ((l.getD j x0).t.marks.length) ((l.getD j x0).x.c4), iv ((l.getD j x0).t.state)] (l.drop (j + 1))) rfl rfl rfl rfl kW rfl rfl (by decide) (mid_fit encX_len rfl hQl (f := 2) (lb rfl)) (mid_set encX_len rfl hQl 2 [iv (((kk + 1) + 1 : Nat) : Int)] (lb rfl))) ?_
    rintro _ _ rfl
    refine jD <| jB <| jC <| jE <| jA (jF (v := iv (((kk + 1) + 1 : Nat) : Int)) rfl) <| jA (ja (c := ((((kk + 1) + 1) + 1 : Nat) : Int)) rfl rfl (wr (by omega))) <| jA (jG (v := iv ((((kk + 1) + 1) + 1 : Nat) : Int)) rfl) <| jD <| jB <| jC ?_
    refine jE <| jA (jF (v := .slice a l.length c) he_2) <| jA (jF (v := nv j) he_5) <| jA (jF (v := iv ((((kk + 1) + 1) + 1 : Nat) : Int)) rfl) <| jA (jX (i := j) kU kS hr_7 hr_7b rfl rfl (by omega)) <| jA (ji fo61_3 hr_7 rfl) ?_
    refine jH rfl (kD 7 (vs := [iv ((((kk + 1) + 1) + 1 : Nat) : Int)]) (cs' := mid encX Q [nv kk, iv ((kk + 1 : Nat) : Int), iv (((kk + 1) + 1 : Nat) : Int), iv ((((kk + 1) + 1) + 1 : Nat) : Int), .slice ((l.getD j x0).x.a0) ((l.getD j x0).t.calls.length) ((l.getD j x0).x.c0), .slice ((l.getD j x0).x.a1) ((l.getD j x0).t.ans.length) ((l.getD j x0).x.c1), .slice ((l.getD j x0).x.a2) ((l.getD j x0).t.rd.length) ((l.getD j x0).x.c2), .slice ((l.getD j x0).x.a3) ((l.getD j x0).t.wr.length) ((l.getD j x0).x.c3), .slice ((l.getD j x0).x.a4) ((l.getD j x0).t.marks.length) ((l.getD j x0).x.c4), iv ((l.getD j x0).t.state)] (l.drop (j + 1))) rfl rfl rfl rfl kW rfl rfl (by decide) (mid_fit encX_len rfl hQl (f := 3) (lb rfl)) (mid_set encX_len rfl hQl 3 [iv ((((kk + 1) + 1) + 1 : Nat) : Int)] (lb rfl))) ?_
    rintro _ _ rfl
    refine jD <| jB <| jC <| jE <| jA (jF (v := iv ((((kk + 1) + 1) + 1 : Nat) : Int)) rfl) <| jA (ja (c := (((((kk + 1) + 1) + 1) + 1 : Nat) : Int)) rfl rfl (wr (by omega))) <| jA (jG (v := iv (((((kk + 1) + 1) + 1) + 1 : Nat) : Int)) rfl) <| jD <| jB <| jC ?_
    refine jE <| jA (jF (v := .slice a l.length c) he_2) <| jA (jF (v := nv j) he_5) <| jA (jX (i := j) kU kS hr_7 hr_7b rfl rfl (by omega)) <| jA (ji fo61_4 hr_7 rfl) <| jK (LO.loadR1 7 (v := .slice ((l.getD j x0).x.a0) ((l.getD j x0).t.calls.length) ((l.getD j x0).x.c0)) rfl rfl Tryz.isAgg57 (mid_at encX_len rfl hQl 4 (by decide))) <| jA (jF (v := iv (((((kk + 1) + 1) + 1) + 1 : Nat) : Int)) rfl) ?_
    refine jH rfl (jU [0] Tryz.call70 rfl (C_markCallS (l.getD j x0).x.a0 ((l.getD j x0).x.c0) ((l.getD j x0).t.calls) ((((kk + 1) + 1) + 1) + 1) (by omega) (by omega)) rfl (fun _ _ => trivial)) ?_
    rintro _ _ ⟨_, ⟨rfl, rfl⟩, rfl⟩
    refine jA (jG (v := iv (((((kk + 1) + 1) + 1) + 1 + 6 * ((l.getD j x0).t.calls).length : Nat) : Int)) rfl) <| jD <| jB <| jC <| jE <| jA (jF (v := .slice a l.length c) he_2) <| jA (jF (v := nv j) he_5) <| jA (jX (i := j) kU kS hr_7 hr_7b rfl rfl (by omega)) <| jA (ji fo61_5 hr_7 rfl) <| jK (LO.loadR1 7 (v := .slice ((l.getD j x0).x.a1) ((l.getD j x0).t.ans.length) ((l.getD j x0).x.c1)) rfl rfl gB (mid_at encX_len rfl hQl 5 (by decide))) ?_
    refine jA (jF (v := iv (((((kk + 1) + 1) + 1) + 1 + 6 * ((l.getD j x0).t.calls).length : Nat) : Int)) rfl) ?_
    refine jH rfl (jU [1] Tryz.call71 rfl (C_markAnswerS (l.getD j x0).x.a1 ((l.getD j x0).x.c1) ((l.getD j x0).t.ans) ((((kk + 1) + 1) + 1) + 1 + 6 * ((l.getD j x0).t.calls).length) (by omega) (by omega)) rfl (fun _ _ => trivial)) ?_
    rintro _ _ ⟨_, ⟨rfl, rfl⟩, rfl⟩
    refine jA (jG (v := iv (((((kk + 1) + 1) + 1) + 1 + 6 * ((l.getD j x0).t.calls).length + 3 * ((l.getD j x0).t.ans).length : Nat) : Int)) rfl) <| jD <| jB <| jC <| jE <| jA (jF (v := .slice a l.length c) he_2) <| jA (jF (v := nv j) he_5) <| jA (jX (i := j) kU kS hr_7 hr_7b rfl rfl (by omega)) <| jA (ji fo61_6 hr_7 rfl) <| jA (ji fo59_0 hr_7 rfl) ?_
    refine jK (LO.loadR1 7 (v := .slice ((l.getD j x0).x.a2) ((l.getD j x0).t.rd.length) ((l.getD j x0).x.c2)) rfl rfl ka (mid_at encX_len rfl hQl 6 (by decide))) <| jA (jF (v := iv (((((kk + 1) + 1) + 1) + 1 + 6 * ((l.getD j x0).t.calls).length + 3 * ((l.getD j x0).t.ans).length : Nat) : Int)) rfl) ?_
    refine jH rfl (jU [2] Tryz.call48 rfl (C_markStringS (l.getD j x0).x.a2 ((l.getD j x0).x.c2) ((l.getD j x0).t.rd) ((((kk + 1) + 1) + 1) + 1 + 6 * ((l.getD j x0).t.calls).length + 3 * ((l.getD j x0).t.ans).length) (by omega) (by omega)) rfl (fun _ _ => trivial)) ?_
    rintro _ _ ⟨_, ⟨rfl, rfl⟩, rfl⟩
    refine jA (jG (v := iv (((((kk + 1) + 1) + 1) + 1 + 6 * ((l.getD j x0).t.calls).length + 3 * ((l.getD j x0).t.ans).length + ((l.getD j x0).t.rd).length : Nat) : Int)) rfl) <| jD <| jB <| jC <| jE <| jA (jF (v := .slice a l.length c) he_2) <| jA (jF (v := nv j) he_5) <| jA (jX (i := j) kU kS hr_7 hr_7b rfl rfl (by omega)) <| jA (ji fo61_6 hr_7 rfl) <| jA (ji fo59_1 hr_7 rfl) ?_
    refine jK (LO.loadR1 7 (v := .slice ((l.getD j x0).x.a3) ((l.getD j x0).t.wr.length) ((l.getD j x0).x.c3)) rfl rfl ka (mid_at encX_len rfl hQl 7 (by decide))) <| jA (jF (v := iv (((((kk + 1) + 1) + 1) + 1 + 6 * ((l.getD j x0).t.calls).length + 3 * ((l.getD j x0).t.ans).length + ((l.getD j x0).t.rd).length : Nat) : Int)) rfl) ?_
    refine jH rfl (jU [3] Tryz.call48 rfl (C_markStringS (l.getD j x0).x.a3 ((l.getD j x0).x.c3) ((l.getD j x0).t.wr) ((((kk + 1) + 1) + 1) + 1 + 6 * ((l.getD j x0).t.calls).length + 3 * ((l.getD j x0).t.ans).length + ((l.getD j x0).t.rd).length) (by omega) (by omega)) rfl (fun _ _ => trivial)) ?_
    rintro _ _ ⟨_, ⟨rfl, rfl⟩, rfl⟩
    refine jA (jG (v := iv (((((kk + 1) + 1) + 1) + 1 + 6 * ((l.getD j x0).t.calls).length + 3 * ((l.getD j x0).t.ans).length + ((l.getD j x0).t.rd).length + ((l.getD j x0).t.wr).length : Nat) : Int)) rfl) <| jD <| jB <| jC <| jE <| jA (jF (v := .slice a l.length c) he_2) <| jA (jF (v := nv j) he_5) <| jA (jX (i := j) kU kS hr_7 hr_7b rfl rfl (by omega)) <| jA (ji fo61_7 hr_7 rfl) <| jK (LO.loadR1 7 (v := .slice ((l.getD j x0).x.a4) ((l.getD j x0).t.marks.length) ((l.getD j x0).x.c4)) rfl rfl gA (mid_at encX_len rfl hQl 8 (by decide))) ?_
    refine jA (jF (v := iv (((((kk + 1) + 1) + 1) + 1 + 6 * ((l.getD j x0).t.calls).length + 3 * ((l.getD j x0).t.ans).length + ((l.getD j x0).t.rd).length + ((l.getD j x0).t.wr).length : Nat) : Int)) rfl) ?_
    refine jH rfl (jU [4] Tryz.call73 rfl (Y_markIntS (l.getD j x0).x.a4 ((l.getD j x0).x.c4) ((l.getD j x0).t.marks) ((((kk + 1) + 1) + 1) + 1 + 6 * ((l.getD j x0).t.calls).length + 3 * ((l.getD j x0).t.ans).length + ((l.getD j x0).t.rd).length + ((l.getD j x0).t.wr).length) (by omega) (by omega)) rfl (fun _ _ => trivial)) ?_
    rintro _ _ ⟨_, ⟨rfl, rfl⟩, rfl⟩
    refine jA (jG (v := iv (((((kk + 1) + 1) + 1) + 1 + 6 * ((l.getD j x0).t.calls).length + 3 * ((l.getD j x0).t.ans).length + ((l.getD j x0).t.rd).length + ((l.getD j x0).t.wr).length + 1 * ((l.getD j x0).t.marks).length : Nat) : Int)) rfl) <| jD <| jB <| jC <| jE <| jA (jF (v := .slice a l.length c) he_2) <| jA (jF (v := nv j) he_5) <| jA (jF (v := iv (((((kk + 1) + 1) + 1) + 1 + 6 * ((l.getD j x0).t.calls).length + 3 * ((l.getD j x0).t.ans).length + ((l.getD j x0).t.rd).length + ((l.getD j x0).t.wr).length + 1 * ((l.getD j x0).t.marks).length : Nat) : Int)) rfl) <| jA (jX (i := j) kU kS hr_7 hr_7b rfl rfl (by omega)) <| jA (ji fo61_8 hr_7 rfl) ?_
    refine jH rfl (kD 7 (vs := [iv (((((kk + 1) + 1) + 1) + 1 + 6 * ((l.getD j x0).t.calls).length + 3 * ((l.getD j x0).t.ans).length + ((l.getD j x0).t.rd).length + ((l.getD j x0).t.wr).length + 1 * ((l.getD j x0).t.marks).length : Nat) : Int)]) (cs' := mid encX Q [nv kk, iv ((kk + 1 : Nat) : Int), iv (((kk + 1) + 1 : Nat) : Int), iv ((((kk + 1) + 1) + 1 : Nat) : Int), .slice ((l.getD j x0).x.a0) ((l.getD j x0).t.calls.length) ((l.getD j x0).x.c0), .slice ((l.getD j x0).x.a1) ((l.getD j x0).t.ans.length) ((l.getD j x0).x.c1), .slice ((l.getD j x0).x.a2) ((l.getD j x0).t.rd.length) ((l.getD j x0).x.c2), .slice ((l.getD j x0).x.a3) ((l.getD j x0).t.wr.length) ((l.getD j x0).x.c3), .slice ((l.getD j x0).x.a4) ((l.getD j x0).t.marks.length) ((l.getD j x0).x.c4), iv (((((kk + 1) + 1) + 1) + 1 + 6 * ((l.getD j x0).t.calls).length + 3 * ((l.getD j x0).t.ans).length + ((l.getD j x0).t.rd).length + ((l.getD j x0).t.wr).length + 1 * ((l.getD j x0).t.marks).length : Nat) : Int)] (l.drop (j + 1))) rfl rfl rfl rfl kW rfl rfl (by decide) (mid_fit encX_len rfl hQl (f := 9) (lb rfl)) (mid_set encX_len rfl hQl 9 [iv (((((kk + 1) + 1) + 1) + 1 + 6 * ((l.getD j x0).t.calls).length + 3 * ((l.getD j x0).t.ans).length + ((l.getD j x0).t.rd).length + ((l.getD j x0).t.wr).length + 1 * ((l.getD j x0).t.marks).length : Nat) : Int)] (lb rfl))) ?_
    rintro _ _ rfl
    refine jD <| jB <| jE <| jA (jF (v := iv (((((kk + 1) + 1) + 1) + 1 + 6 * ((l.getD j x0).t.calls).length + 3 * ((l.getD j x0).t.ans).length + ((l.getD j x0).t.rd).length + ((l.getD j x0).t.wr).length + 1 * ((l.getD j x0).t.marks).length : Nat) : Int)) rfl) <| jA (ja (c := ((((((kk + 1) + 1) + 1) + 1 + 6 * ((l.getD j x0).t.calls).length + 3 * ((l.getD j x0).t.ans).length + ((l.getD j x0).t.rd).length + ((l.getD j x0).t.wr).length + 1 * ((l.getD j x0).t.marks).length) + 1 : Nat) : Int)) rfl rfl (wr (by omega))) <| jA (jG (v := iv ((((((kk + 1) + 1) + 1) + 1 + 6 * ((l.getD j x0).t.calls).length + 3 * ((l.getD j x0).t.ans).length + ((l.getD j x0).t.rd).length + ((l.getD j x0).t.wr).length + 1 * ((l.getD j x0).t.marks).length) + 1 : Nat) : Int)) rfl) <| jD <| jk <| jB <| jE ?_
    refine jA (jF (v := nv j) he_5) <| jA (ja (c := ((j + 1 : Nat) : Int)) rfl rfl (wr (by omega))) <| jA (jG (v := iv ((j + 1 : Nat) : Int)) rfl) <| jD <| jv (L' := [Res.rows (((Q ++ [mkX (l.getD j x0) kk]) ++ l.drop (j + 1)).flatMap rdsX), Res.row (.slice a l.length c) 61 10 l.length (((Q ++ [mkX (l.getD j x0) kk]) ++ l.drop (j + 1)).flatMap encX)]) (fun w hw => St.joinR [2, 0, 1] rfl (by rw [flatMap_mid2, rdsX_mk]) (St.closeR (A := ([⟨.slice ((l.getD j x0).x.a0) ((l.getD j x0).t.calls.length) ((l.getD j x0).x.c0), 152, 6, ((l.getD j x0).t.calls).length, (markG mkK 6 ((l.getD j x0).t.calls) ((((kk + 1) + 1) + 1) + 1)).flatMap encK⟩, ⟨.slice ((l.getD j x0).x.a1) ((l.getD j x0).t.ans.length) ((l.getD j x0).x.c1), 154, 3, ((l.getD j x0).t.ans).length, (markG mkA 3 ((l.getD j x0).t.ans) ((((kk + 1) + 1) + 1) + 1 + 6 * ((l.getD j x0).t.calls).length)).flatMap encA⟩, ⟨.slice ((l.getD j x0).x.a2) ((l.getD j x0).t.rd.length) ((l.getD j x0).x.c2), 9, 1, ((l.getD j x0).t.rd).length, (markS ((l.getD j x0).t.rd) ((((kk + 1) + 1) + 1) + 1 + 6 * ((l.getD j x0).t.calls).length + 3 * ((l.getD j x0).t.ans).length)).map str⟩, ⟨.slice ((l.getD j x0).x.a3) ((l.getD j x0).t.wr.length) ((l.getD j x0).x.c3), 9, 1, ((l.getD j x0).t.wr).length, (markS ((l.getD j x0).t.wr) ((((kk + 1) + 1) + 1) + 1 + 6 * ((l.getD j x0).t.calls).length + 3 * ((l.getD j x0).t.ans).length + ((l.getD j x0).t.rd).length)).map str⟩, ⟨.slice ((l.getD j x0).x.a4) ((l.getD j x0).t.marks.length) ((l.getD j x0).x.c4), 3, 1, ((l.getD j x0).t.marks).length, (markG mkI 1 ((l.getD j x0).t.marks) ((((kk + 1) + 1) + 1) + 1 + 6 * ((l.getD j x0).t.calls).length + 3 * ((l.getD j x0).t.ans).length + ((l.getD j x0).t.rd).length + ((l.getD j x0).t.wr).length)).map (Value.int .i64)⟩] : List RD)) [5, 4, 3, 2, 1] rfl (hw.unmid 7 rfl (q := mkX (l.getD j x0) kk) (encX_mk _ _)))) <| kL [1, 0] (A := [Res.row (.slice a l.length c) 61 10 l.length (((Q ++ [mkX (l.getD j x0) kk]) ++ l.drop (j + 1)).flatMap encX), Res.rows (((Q ++ [mkX (l.getD j x0) kk]) ++ l.drop (j + 1)).flatMap rdsX)]) rfl ?_
    refine jl (l.length - (j + 1)) (by omega) ⟨j + 1, ((((kk + 1) + 1) + 1) + 1 + 6 * ((l.getD j x0).t.calls).length + 3 * ((l.getD j x0).t.ans).length + ((l.getD j x0).t.rd).length + ((l.getD j x0).t.wr).length + 1 * ((l.getD j x0).t.marks).length) + 1, (Q ++ [mkX (l.getD j x0) kk]), by omega, (by rw [cntV_step x0 hlt]; simp only [cntX]; omega), (by rw [markV_step x0 hlt, ← hQ, ← hkk]), (by rw [List.length_append, hQl]; rfl), he_2, rfl, he_4, rfl, rfl, rfl⟩
  refine jP (cB (dF h_6)) <| jn <| jb <| jb <| jo <| jB <| jC <| jE <| jA (jF (v := nv kk) he_3) <| jA (jG (v := nv kk) rfl) ?_
  refine jD <| jB <| jJ ?_
  have hz : Q ++ l.drop j = markV mkX cntX l k := by rw [hQ, List.drop_of_length_le (by omega), List.append_nil, markV_all (by omega)]
  refine jv (L' := [Res.row (.slice a ((markV mkX cntX l k).length) c) 61 10 ((markV mkX cntX l k).length) ((markV mkX cntX l k).flatMap encX), Res.rows ((markV mkX cntX l k).flatMap rdsX)]) (fun w hw => hw.eqL (by rw [hz, markV_len])) <| jv (L' := [Res.rows (rdsXS a c (markV mkX cntX l k))]) (fun w hw => hw.consR (r := ⟨.slice a ((markV mkX cntX l k).length) c, 61, 10, (markV mkX cntX l k).length, (markV mkX cntX l k).flatMap encX⟩) (A := (markV mkX cntX l k).flatMap rdsX) [0, 0] rfl) <| jL (.inl rfl) rfl (jM (v := nv kk) rfl) (List.Sublist.refl _) ?_
  exact ⟨by rw [hkk, cntV_all (by omega)], rfl⟩

set_option maxRecDepth 4000 in
set_option maxHeartbeats 1000000 in
theorem C_heldTxS (a : Option Addr) (c : Nat) (l : List TX) (k : Nat) (h0 : 0 < k) (h1 : k + cntV cntX l ≤ 100000000) (hn : l.length ≤ 1000000000) :
    Ct Tryz.prog 50 [.slice a l.length c, .int .i64 ((k : Nat) : Int)] [] (fun w => SeesA w (rdsXS a c (markV mkX cntX l k))) (fun v A' => v = .int .i64 ((k + cntV cntX l : Nat) : Int) ∧ A' = []) := by
  refine Ct.intro Tryz.func50 rfl Tryz.ntmps50 (lb rfl) fun w0 hpre => ?_
  have hs : Sees w0 (.slice a l.length c) 10 l.length ((markV mkX cntX l k).flatMap encX) := by have h := hpre.head; simpa only [RD.sees, markV_len] using h
  have hi : SeesA w0 ((markV mkX cntX l k).flatMap rdsX) := hpre.tail
  refine jC <| jE <| jA (jG (v := iv 0) rfl) <| jD <| jB <| jC <| jC <| jE <| jA (jG (v := iv 0) rfl) <| jD ?_
  refine jB <| jZ <| jp (fun k_ e_ L_ => ∃ j : Nat, ∃ kk : Nat, (j ≤ l.length) ∧ (kk = k + cntV cntX (l.take j)) ∧ e_ 0 = .slice a l.length c ∧ e_ 1 = nv kk ∧ e_ 5 = nv j ∧ L_ = [] ∧ k_ = l.length - j) _ ⟨0, k, by omega, rfl, rfl, rfl, rfl, rfl, rfl⟩ ?_
  rintro _ e_1 _ ⟨j, kk, hj, hkk, he_2, he_3, he_4, rfl, rfl⟩
  refine jC <| jC <| jE <| jA (jF (v := nv j) he_4) <| jA (jF (v := .slice a l.length c) he_2) <| jA (jf kU rfl) <| jA (jc rfl rfl) <| jD <| jB ?_
  by_cases h_5 : ((j : Nat) : Int) < ((l.length : Nat) : Int)
  · have hlt : j < l.length := by omega
    have hb : cntV cntX (l.take j) + cntX (l.getD j x0) ≤ cntV cntX l := cntV_le x0 hlt
    simp only [cntX] at hb
    have hget : (markV mkX cntX l k).getD j x0 = mkX (l.getD j x0) kk := by rw [markV_get x0 l k j hlt, ← hkk]
    have hin := SeesA.elem hi x0 (show j < (markV mkX cntX l k).length by rw [markV_len]; exact hlt)
    rw [hget] at hin
    obtain ⟨hs_6, hs_7, hs_8, hs_9, hs_10⟩ := seesX_mk' hin
    refine jS (cB (dT h_5)) <| jQ <| jB <| jC <| jZ <| jC <| jC <| jE <| jA (jF (v := .slice a l.length c) he_2) <| jA (jF (v := nv j) he_4) ?_
    obtain ⟨hr_11, hr_11b, -⟩ := sees_some hs (by omega)
    refine jA (jX (i := j) kU kS hr_11 hr_11b rfl rfl (by omega)) <| jA (ji fo61_0 hr_11 rfl) <| jK (ju (v := nv kk) hs nM rfl kR (flat_atE encX_len x0 (markV mkX cntX l k) j 0 (by rw [markV_len]; exact hlt) (by decide) hget (encX_mk _ _))) <| jA (jF (v := nv kk) he_3) <| jA (jz rfl rfl) <| jD <| jB <| jP (cB (cN (dT rfl))) <| jQ <| jB ?_
    refine jC <| jE <| jA (jF (v := nv kk) he_3) <| jA (ja (c := ((kk + 1 : Nat) : Int)) rfl rfl (wr (by omega))) <| jA (jG (v := iv ((kk + 1 : Nat) : Int)) rfl) <| jD <| jB <| jC <| jC <| jE ?_
    refine jA (jF (v := .slice a l.length c) he_2) <| jA (jF (v := nv j) he_4) <| jA (jX (i := j) kU kS hr_11 hr_11b rfl rfl (by omega)) <| jA (ji fo61_1 hr_11 rfl) <| jK (ju (v := iv ((kk + 1 : Nat) : Int)) hs nM rfl kR (flat_atE encX_len x0 (markV mkX cntX l k) j 1 (by rw [markV_len]; exact hlt) (by decide) hget (encX_mk _ _))) <| jA (jF (v := iv ((kk + 1 : Nat) : Int)) rfl) <| jA (jz rfl rfl) <| jD <| jB <| jP (cB (cN (dT rfl))) ?_
    refine jQ <| jB <| jC <| jE <| jA (jF (v := iv ((kk + 1 : Nat) : Int)) rfl) <| jA (ja (c := (((kk + 1) + 1 : Nat) : Int)) rfl rfl (wr (by omega))) <| jA (jG (v := iv (((kk + 1) + 1 : Nat) : Int)) rfl) <| jD <| jB <| jC ?_
    refine jC <| jE <| jA (jF (v := .slice a l.length c) he_2) <| jA (jF (v := nv j) he_4) <| jA (jX (i := j) kU kS hr_11 hr_11b rfl rfl (by omega)) <| jA (ji fo61_2 hr_11 rfl) <| jK (ju (v := iv (((kk + 1) + 1 : Nat) : Int)) hs nM rfl kR (flat_atE encX_len x0 (markV mkX cntX l k) j 2 (by rw [markV_len]; exact hlt) (by decide) hget (encX_mk _ _))) <| jA (jF (v := iv (((kk + 1) + 1 : Nat) : Int)) rfl) <| jA (jz rfl rfl) <| jD ?_
    refine jB <| jP (cB (cN (dT rfl))) <| jQ <| jB <| jC <| jE <| jA (jF (v := iv (((kk + 1) + 1 : Nat) : Int)) rfl) <| jA (ja (c := ((((kk + 1) + 1) + 1 : Nat) : Int)) rfl rfl (wr (by omega))) <| jA (jG (v := iv ((((kk + 1) + 1) + 1 : Nat) : Int)) rfl) <| jD ?_
    refine jB <| jC <| jC <| jE <| jA (jF (v := .slice a l.length c) he_2) <| jA (jF (v := nv j) he_4) <| jA (jX (i := j) kU kS hr_11 hr_11b rfl rfl (by omega)) <| jA (ji fo61_3 hr_11 rfl) <| jK (ju (v := iv ((((kk + 1) + 1) + 1 : Nat) : Int)) hs nM rfl kR (flat_atE encX_len x0 (markV mkX cntX l k) j 3 (by rw [markV_len]; exact hlt) (by decide) hget (encX_mk _ _))) <| jA (jF (v := iv ((((kk + 1) + 1) + 1 : Nat) : Int)) rfl) ?_
    refine jA (jz rfl rfl) <| jD <| jB <| jP (cB (cN (dT rfl))) <| jQ <| jB <| jC <| jE <| jA (jF (v := iv ((((kk + 1) + 1) + 1 : Nat) : Int)) rfl) <| jA (ja (c := (((((kk + 1) + 1) + 1) + 1 : Nat) : Int)) rfl rfl (wr (by omega))) ?_
    refine jA (jG (v := iv (((((kk + 1) + 1) + 1) + 1 : Nat) : Int)) rfl) <| jD <| jB <| jC <| jE <| jA (jF (v := .slice a l.length c) he_2) <| jA (jF (v := nv j) he_4) <| jA (jX (i := j) kU kS hr_11 hr_11b rfl rfl (by omega)) <| jA (ji fo61_4 hr_11 rfl) <| jK (ju (v := .slice ((l.getD j x0).x.a0) ((l.getD j x0).t.calls.length) ((l.getD j x0).x.c0)) hs nM rfl Tryz.isAgg57 (flat_atE encX_len x0 (markV mkX cntX l k) j 4 (by rw [markV_len]; exact hlt) (by decide) hget (encX_mk _ _))) ?_
    refine jA (jF (v := iv (((((kk + 1) + 1) + 1) + 1 : Nat) : Int)) rfl) ?_
    refine jH rfl (jU [] Tryz.call105 rfl (C_heldCallS (l.getD j x0).x.a0 ((l.getD j x0).x.c0) ((l.getD j x0).t.calls) ((((kk + 1) + 1) + 1) + 1) (by omega) (by omega)) rfl (fun w hw => hw.seeOut_ hs_6 nM)) ?_
    rintro _ _ ⟨_, ⟨rfl, rfl⟩, rfl⟩
    refine jA (jG (v := iv (((((kk + 1) + 1) + 1) + 1 + 6 * ((l.getD j x0).t.calls).length : Nat) : Int)) rfl) <| jD <| jB <| jC <| jC <| jE <| jA (jF (v := iv (((((kk + 1) + 1) + 1) + 1 + 6 * ((l.getD j x0).t.calls).length : Nat) : Int)) rfl) <| jA (jc rfl rfl) <| jD <| jB ?_
    by_cases h_12 : (((((kk + 1) + 1) + 1) + 1 + 6 * ((l.getD j x0).t.calls).length : Nat) : Int) < 0
    · refine jS (cB (dT h_12)) <| jC <| jE <| jA (jG (v := iv (-1)) rfl) <| jD <| jB <| jJ <| jO <| je <| jO ?_
      refine jO <| je <| jO <| jL (.inl rfl) rfl (jM (v := iv (-1)) rfl) (List.nil_sublist _) ?_
      exfalso
      omega
    refine jP (cB (dF h_12)) <| jQ <| jB <| jC <| jE <| jA (jF (v := .slice a l.length c) he_2) <| jA (jF (v := nv j) he_4) <| jA (jX (i := j) kU kS hr_11 hr_11b rfl rfl (by omega)) <| jA (ji fo61_5 hr_11 rfl) <| jK (ju (v := .slice ((l.getD j x0).x.a1) ((l.getD j x0).t.ans.length) ((l.getD j x0).x.c1)) hs nM rfl gB (flat_atE encX_len x0 (markV mkX cntX l k) j 5 (by rw [markV_len]; exact hlt) (by decide) hget (encX_mk _ _))) ?_
    refine jA (jF (v := iv (((((kk + 1) + 1) + 1) + 1 + 6 * ((l.getD j x0).t.calls).length : Nat) : Int)) rfl) ?_
    refine jH rfl (jU [] Tryz.call106 rfl (C_heldAnswerS (l.getD j x0).x.a1 ((l.getD j x0).x.c1) ((l.getD j x0).t.ans) ((((kk + 1) + 1) + 1) + 1 + 6 * ((l.getD j x0).t.calls).length) (by omega) (by omega)) rfl (fun w hw => hw.seeOut_ hs_7 nM)) ?_
    rintro _ _ ⟨_, ⟨rfl, rfl⟩, rfl⟩
    refine jA (jG (v := iv (((((kk + 1) + 1) + 1) + 1 + 6 * ((l.getD j x0).t.calls).length + 3 * ((l.getD j x0).t.ans).length : Nat) : Int)) rfl) <| jD <| jB <| jC <| jC <| jE <| jA (jF (v := iv (((((kk + 1) + 1) + 1) + 1 + 6 * ((l.getD j x0).t.calls).length + 3 * ((l.getD j x0).t.ans).length : Nat) : Int)) rfl) <| jA (jc rfl rfl) <| jD <| jB ?_
    by_cases h_13 : (((((kk + 1) + 1) + 1) + 1 + 6 * ((l.getD j x0).t.calls).length + 3 * ((l.getD j x0).t.ans).length : Nat) : Int) < 0
    · refine jS (cB (dT h_13)) <| jC <| jE <| jA (jG (v := iv (-1)) rfl) <| jD <| jB <| jJ <| jO <| je <| jO ?_
      refine jO <| je <| jO <| jL (.inl rfl) rfl (jM (v := iv (-1)) rfl) (List.nil_sublist _) ?_
      exfalso
      omega
    refine jP (cB (dF h_13)) <| jQ <| jB <| jC <| jE <| jA (jF (v := .slice a l.length c) he_2) <| jA (jF (v := nv j) he_4) <| jA (jX (i := j) kU kS hr_11 hr_11b rfl rfl (by omega)) <| jA (ji fo61_6 hr_11 rfl) <| jA (ji fo59_0 hr_11 rfl) ?_
    refine jK (ju (v := .slice ((l.getD j x0).x.a2) ((l.getD j x0).t.rd.length) ((l.getD j x0).x.c2)) hs nM rfl ka (flat_atE encX_len x0 (markV mkX cntX l k) j 6 (by rw [markV_len]; exact hlt) (by decide) hget (encX_mk _ _))) <| jA (jF (v := iv (((((kk + 1) + 1) + 1) + 1 + 6 * ((l.getD j x0).t.calls).length + 3 * ((l.getD j x0).t.ans).length : Nat) : Int)) rfl) ?_
    refine jH rfl (jU [] Tryz.call53 rfl (Y_heldStringS (l.getD j x0).x.a2 ((l.getD j x0).x.c2) ((l.getD j x0).t.rd) ((((kk + 1) + 1) + 1) + 1 + 6 * ((l.getD j x0).t.calls).length + 3 * ((l.getD j x0).t.ans).length) (by omega) (by omega)) rfl (fun w hw => hw.seeOut_ hs_8 nM)) ?_
    rintro _ _ ⟨_, ⟨rfl, rfl⟩, rfl⟩
    refine jA (jG (v := iv (((((kk + 1) + 1) + 1) + 1 + 6 * ((l.getD j x0).t.calls).length + 3 * ((l.getD j x0).t.ans).length + ((l.getD j x0).t.rd).length : Nat) : Int)) rfl) <| jD <| jB <| jC <| jC <| jE <| jA (jF (v := iv (((((kk + 1) + 1) + 1) + 1 + 6 * ((l.getD j x0).t.calls).length + 3 * ((l.getD j x0).t.ans).length + ((l.getD j x0).t.rd).length : Nat) : Int)) rfl) <| jA (jc rfl rfl) <| jD <| jB ?_
    by_cases h_14 : (((((kk + 1) + 1) + 1) + 1 + 6 * ((l.getD j x0).t.calls).length + 3 * ((l.getD j x0).t.ans).length + ((l.getD j x0).t.rd).length : Nat) : Int) < 0
    · refine jS (cB (dT h_14)) <| jC <| jE <| jA (jG (v := iv (-1)) rfl) <| jD <| jB <| jJ <| jO <| je <| jO ?_
      refine jO <| je <| jO <| jL (.inl rfl) rfl (jM (v := iv (-1)) rfl) (List.nil_sublist _) ?_
      exfalso
      omega
    refine jP (cB (dF h_14)) <| jQ <| jB <| jC <| jE <| jA (jF (v := .slice a l.length c) he_2) <| jA (jF (v := nv j) he_4) <| jA (jX (i := j) kU kS hr_11 hr_11b rfl rfl (by omega)) <| jA (ji fo61_6 hr_11 rfl) <| jA (ji fo59_1 hr_11 rfl) ?_
    refine jK (ju (v := .slice ((l.getD j x0).x.a3) ((l.getD j x0).t.wr.length) ((l.getD j x0).x.c3)) hs nM rfl ka (flat_atE encX_len x0 (markV mkX cntX l k) j 7 (by rw [markV_len]; exact hlt) (by decide) hget (encX_mk _ _))) <| jA (jF (v := iv (((((kk + 1) + 1) + 1) + 1 + 6 * ((l.getD j x0).t.calls).length + 3 * ((l.getD j x0).t.ans).length + ((l.getD j x0).t.rd).length : Nat) : Int)) rfl) ?_
    refine jH rfl (jU [] Tryz.call53 rfl (Y_heldStringS (l.getD j x0).x.a3 ((l.getD j x0).x.c3) ((l.getD j x0).t.wr) ((((kk + 1) + 1) + 1) + 1 + 6 * ((l.getD j x0).t.calls).length + 3 * ((l.getD j x0).t.ans).length + ((l.getD j x0).t.rd).length) (by omega) (by omega)) rfl (fun w hw => hw.seeOut_ hs_9 nM)) ?_
    rintro _ _ ⟨_, ⟨rfl, rfl⟩, rfl⟩
    refine jA (jG (v := iv (((((kk + 1) + 1) + 1) + 1 + 6 * ((l.getD j x0).t.calls).length + 3 * ((l.getD j x0).t.ans).length + ((l.getD j x0).t.rd).length + ((l.getD j x0).t.wr).length : Nat) : Int)) rfl) <| jD <| jB <| jC <| jC <| jE <| jA (jF (v := iv (((((kk + 1) + 1) + 1) + 1 + 6 * ((l.getD j x0).t.calls).length + 3 * ((l.getD j x0).t.ans).length + ((l.getD j x0).t.rd).length + ((l.getD j x0).t.wr).length : Nat) : Int)) rfl) <| jA (jc rfl rfl) <| jD <| jB ?_
    by_cases h_15 : (((((kk + 1) + 1) + 1) + 1 + 6 * ((l.getD j x0).t.calls).length + 3 * ((l.getD j x0).t.ans).length + ((l.getD j x0).t.rd).length + ((l.getD j x0).t.wr).length : Nat) : Int) < 0
    · refine jS (cB (dT h_15)) <| jC <| jE <| jA (jG (v := iv (-1)) rfl) <| jD <| jB <| jJ <| jO <| je <| jO ?_
      refine jO <| je <| jO <| jL (.inl rfl) rfl (jM (v := iv (-1)) rfl) (List.nil_sublist _) ?_
      exfalso
      omega
    refine jP (cB (dF h_15)) <| jQ <| jB <| jC <| jE <| jA (jF (v := .slice a l.length c) he_2) <| jA (jF (v := nv j) he_4) <| jA (jX (i := j) kU kS hr_11 hr_11b rfl rfl (by omega)) <| jA (ji fo61_7 hr_11 rfl) <| jK (ju (v := .slice ((l.getD j x0).x.a4) ((l.getD j x0).t.marks.length) ((l.getD j x0).x.c4)) hs nM rfl gA (flat_atE encX_len x0 (markV mkX cntX l k) j 8 (by rw [markV_len]; exact hlt) (by decide) hget (encX_mk _ _))) ?_
    refine jA (jF (v := iv (((((kk + 1) + 1) + 1) + 1 + 6 * ((l.getD j x0).t.calls).length + 3 * ((l.getD j x0).t.ans).length + ((l.getD j x0).t.rd).length + ((l.getD j x0).t.wr).length : Nat) : Int)) rfl) ?_
    refine jH rfl (jU [] Tryz.call107 rfl (Y_heldIntS (l.getD j x0).x.a4 ((l.getD j x0).x.c4) ((l.getD j x0).t.marks) ((((kk + 1) + 1) + 1) + 1 + 6 * ((l.getD j x0).t.calls).length + 3 * ((l.getD j x0).t.ans).length + ((l.getD j x0).t.rd).length + ((l.getD j x0).t.wr).length) (by omega) (by omega)) rfl (fun w hw => hw.seeOut_ hs_10 nM)) ?_
    rintro _ _ ⟨_, ⟨rfl, rfl⟩, rfl⟩
    refine jA (jG (v := iv (((((kk + 1) + 1) + 1) + 1 + 6 * ((l.getD j x0).t.calls).length + 3 * ((l.getD j x0).t.ans).length + ((l.getD j x0).t.rd).length + ((l.getD j x0).t.wr).length + 1 * ((l.getD j x0).t.marks).length : Nat) : Int)) rfl) <| jD <| jB <| jC <| jC <| jE <| jA (jF (v := iv (((((kk + 1) + 1) + 1) + 1 + 6 * ((l.getD j x0).t.calls).length + 3 * ((l.getD j x0).t.ans).length + ((l.getD j x0).t.rd).length + ((l.getD j x0).t.wr).length + 1 * ((l.getD j x0).t.marks).length : Nat) : Int)) rfl) <| jA (jc rfl rfl) <| jD <| jB ?_
    by_cases h_16 : (((((kk + 1) + 1) + 1) + 1 + 6 * ((l.getD j x0).t.calls).length + 3 * ((l.getD j x0).t.ans).length + ((l.getD j x0).t.rd).length + ((l.getD j x0).t.wr).length + 1 * ((l.getD j x0).t.marks).length : Nat) : Int) < 0
    · refine jS (cB (dT h_16)) <| jC <| jE <| jA (jG (v := iv (-1)) rfl) <| jD <| jB <| jJ <| jO <| je <| jO ?_
      refine jO <| je <| jO <| jL (.inl rfl) rfl (jM (v := iv (-1)) rfl) (List.nil_sublist _) ?_
      exfalso
      omega
    refine jP (cB (dF h_16)) <| jQ <| jB <| jC <| jC <| jE <| jA (jF (v := .slice a l.length c) he_2) <| jA (jF (v := nv j) he_4) <| jA (jX (i := j) kU kS hr_11 hr_11b rfl rfl (by omega)) <| jA (ji fo61_8 hr_11 rfl) ?_
    refine jK (ju (v := iv (((((kk + 1) + 1) + 1) + 1 + 6 * ((l.getD j x0).t.calls).length + 3 * ((l.getD j x0).t.ans).length + ((l.getD j x0).t.rd).length + ((l.getD j x0).t.wr).length + 1 * ((l.getD j x0).t.marks).length : Nat) : Int)) hs nM rfl kR (flat_atE encX_len x0 (markV mkX cntX l k) j 9 (by rw [markV_len]; exact hlt) (by decide) hget (encX_mk _ _))) <| jA (jF (v := iv (((((kk + 1) + 1) + 1) + 1 + 6 * ((l.getD j x0).t.calls).length + 3 * ((l.getD j x0).t.ans).length + ((l.getD j x0).t.rd).length + ((l.getD j x0).t.wr).length + 1 * ((l.getD j x0).t.marks).length : Nat) : Int)) rfl) <| jA (jz rfl rfl) <| jD <| jB <| jP (cB (cN (dT rfl))) <| jQ <| jB <| jE <| jA (jF (v := iv (((((kk + 1) + 1) + 1) + 1 + 6 * ((l.getD j x0).t.calls).length + 3 * ((l.getD j x0).t.ans).length + ((l.getD j x0).t.rd).length + ((l.getD j x0).t.wr).length + 1 * ((l.getD j x0).t.marks).length : Nat) : Int)) rfl) ?_
    refine jA (ja (c := ((((((kk + 1) + 1) + 1) + 1 + 6 * ((l.getD j x0).t.calls).length + 3 * ((l.getD j x0).t.ans).length + ((l.getD j x0).t.rd).length + ((l.getD j x0).t.wr).length + 1 * ((l.getD j x0).t.marks).length) + 1 : Nat) : Int)) rfl rfl (wr (by omega))) <| jA (jG (v := iv ((((((kk + 1) + 1) + 1) + 1 + 6 * ((l.getD j x0).t.calls).length + 3 * ((l.getD j x0).t.ans).length + ((l.getD j x0).t.rd).length + ((l.getD j x0).t.wr).length + 1 * ((l.getD j x0).t.marks).length) + 1 : Nat) : Int)) rfl) <| jD <| jk <| jB <| jE <| jA (jF (v := nv j) he_4) <| jA (ja (c := ((j + 1 : Nat) : Int)) rfl rfl (wr (by omega))) <| jA (jG (v := iv ((j + 1 : Nat) : Int)) rfl) <| jD ?_
    refine jl (l.length - (j + 1)) (by omega) ⟨j + 1, ((((kk + 1) + 1) + 1) + 1 + 6 * ((l.getD j x0).t.calls).length + 3 * ((l.getD j x0).t.ans).length + ((l.getD j x0).t.rd).length + ((l.getD j x0).t.wr).length + 1 * ((l.getD j x0).t.marks).length) + 1, by omega, (by rw [cntV_step x0 hlt]; simp only [cntX]; omega), he_2, rfl, rfl, rfl, rfl⟩
  refine jP (cB (dF h_5)) <| jn <| jb <| jb <| jo <| jB <| jC <| jE <| jA (jF (v := nv kk) he_3) <| jA (jG (v := nv kk) rfl) ?_
  refine jD <| jB <| jJ <| jL (.inl rfl) rfl (jM (v := nv kk) rfl) (List.nil_sublist _) ?_
  exact ⟨by rw [hkk, cntV_all (by omega)], rfl⟩

theorem C_szEntry (p : EX) (l : Int) (h0 : 0 ≤ l) (h1 : l ≤ 1048576) (hz : p.t.okz) :
    Ct Tryz.prog 85 [.agg #[.int .i64 p.t.seq, .int .i64 p.t.kind, .int .i64 p.t.tx, .slice p.x.a0 p.t.steps.length p.x.c0, .slice p.x.a1 p.t.ans.length p.x.c1, .int .i64 p.t.began, .int .i64 p.t.ended, .bool p.t.laid], .int .i64 l] [] (fun w => SeesAE w (rdsE p)) (fun r A' => r = .int .i64 (szEntryF p.t l) ∧ A' = []) := by
  refine Ct.intro Tryz.func85 rfl Tryz.ntmps85 (lb rfl) fun w0 hpre => ?_
  obtain ⟨hs_1, hs_2⟩ := seesEE hpre
  refine jC <| jE ?_
  refine jH rfl (jm (cs := [iv p.t.seq, iv p.t.kind, iv p.t.tx, .slice p.x.a0 p.t.steps.length p.x.c0, .slice p.x.a1 p.t.ans.length p.x.c1, iv p.t.began, iv p.t.ended, .bool p.t.laid]) rfl rfl) ?_
  rintro _ _ ⟨b_3, rfl, rfl⟩
  refine jA (jG (v := iv 0) rfl) <| jD <| jB <| jC <| jE <| jA (jI fo124_3 rfl) <| jK (jR 0 (v := .slice p.x.a0 p.t.steps.length p.x.c0) rfl rfl Tryz.isAgg122 rfl) <| jA (jF (v := iv l) rfl) ?_
  refine jH rfl (jU [] Tryz.call137 rfl (E_szStepS p.x.a0 p.x.c0 p.t.steps l (by omega) (by omega) hz.k0.1 hz.k0.2) rfl (fun w hw => hw.seeOutE hs_1 nM)) ?_
  rintro _ _ ⟨_, ⟨rfl, rfl⟩, rfl⟩
  have hle_4 := szLS_le szStepF_le p.t.steps l (by omega)
  refine jA (jG (v := iv (szLS szStepF p.t.steps l)) rfl) <| jD <| jB <| jC <| jC <| jE <| jA (jF (v := iv (szLS szStepF p.t.steps l)) rfl) <| jA (jc rfl rfl) <| jD <| jB ?_
  by_cases h_5 : (szLS szStepF p.t.steps l) < 0
  · refine jS (cB (dT h_5)) <| jC <| jE <| jA (jG (v := iv (-1)) rfl) <| jD <| jB <| jJ <| jO <| jL (.inl rfl) rfl (jM (v := iv (-1)) rfl) (List.nil_sublist _) ?_
    refine ⟨congrArg (Value.int .i64) ?_, rfl⟩
    simp only [szEntryF, chk, id_eq]
    (repeat (first | rw [if_pos (by omega)] | rw [if_neg (by omega)]))
  refine jP (cB (dF h_5)) <| jQ <| jB <| jC <| jE <| jA (jI fo124_4 rfl) <| jK (jR 0 (v := .slice p.x.a1 p.t.ans.length p.x.c1) rfl rfl Tryz.isAgg49 rfl) <| jA (jF (v := iv (szLS szStepF p.t.steps l)) rfl) ?_
  refine jH rfl (jU [] Tryz.call55 rfl (E_szAnswerS p.x.a1 p.x.c1 p.t.ans (szLS szStepF p.t.steps l) (by omega) (by omega) hz.k1.1 hz.k1.2) rfl (fun w hw => hw.seeOutE hs_2 nM)) ?_
  rintro _ _ ⟨_, ⟨rfl, rfl⟩, rfl⟩
  have hle_6 := szLS_le szAnsF_le p.t.ans (szLS szStepF p.t.steps l) (by omega)
  refine jA (jG (v := iv (szLS szAnsF p.t.ans (szLS szStepF p.t.steps l))) rfl) <| jD <| jB <| jC <| jC <| jE <| jA (jF (v := iv (szLS szAnsF p.t.ans (szLS szStepF p.t.steps l))) rfl) <| jA (jc rfl rfl) <| jD <| jB ?_
  by_cases h_7 : (szLS szAnsF p.t.ans (szLS szStepF p.t.steps l)) < 0
  · refine jS (cB (dT h_7)) <| jC <| jE <| jA (jG (v := iv (-1)) rfl) <| jD <| jB <| jJ <| jO <| jL (.inl rfl) rfl (jM (v := iv (-1)) rfl) (List.nil_sublist _) ?_
    refine ⟨congrArg (Value.int .i64) ?_, rfl⟩
    simp only [szEntryF, chk, id_eq]
    (repeat (first | rw [if_pos (by omega)] | rw [if_neg (by omega)]))
  refine jP (cB (dF h_7)) <| jQ <| jB <| jC <| jE <| jA (jF (v := iv (szLS szAnsF p.t.ans (szLS szStepF p.t.steps l))) rfl) <| jA (jG (v := iv (szLS szAnsF p.t.ans (szLS szStepF p.t.steps l))) rfl) <| jD <| jB <| jJ ?_
  refine jL (.inl rfl) rfl (jM (v := iv (szLS szAnsF p.t.ans (szLS szStepF p.t.steps l))) rfl) (List.nil_sublist _) ?_
  refine ⟨congrArg (Value.int .i64) ?_, rfl⟩
  simp only [szEntryF, chk, id_eq]
  (repeat (first | rw [if_pos (by omega)] | rw [if_neg (by omega)]))

theorem C_toEntry (p : EX) (hl : p.t.lim 1048576) :
    Ct Tryz.prog 92 [.agg #[.int .i64 p.t.seq, .int .i64 p.t.kind, .int .i64 p.t.tx, .slice p.x.a0 p.t.steps.length p.x.c0, .slice p.x.a1 p.t.ans.length p.x.c1, .int .i64 p.t.began, .int .i64 p.t.ended, .bool p.t.laid]] [] (fun w => SeesAE w (rdsE p)) (fun v A' => ∃ y : EX, y.t = p.t ∧ v = .agg #[.int .i64 y.t.seq, .int .i64 y.t.kind, .int .i64 y.t.tx, .slice y.x.a0 y.t.steps.length y.x.c0, .slice y.x.a1 y.t.ans.length y.x.c1, .int .i64 y.t.began, .int .i64 y.t.ended, .bool y.t.laid] ∧ A' = [.rows (rdsE y)]) := by
  obtain ⟨hb0, hb1⟩ := hl
  refine Ct.intro Tryz.func92 rfl Tryz.ntmps92 (lb rfl) fun w0 hpre => ?_
  obtain ⟨hs_1, hs_2⟩ := seesEE hpre
  refine jC <| jE ?_
  refine jH rfl (jm (cs := [iv p.t.seq, iv p.t.kind, iv p.t.tx, .slice p.x.a0 p.t.steps.length p.x.c0, .slice p.x.a1 p.t.ans.length p.x.c1, iv p.t.began, iv p.t.ended, .bool p.t.laid]) rfl rfl) ?_
  rintro _ _ ⟨b_3, rfl, rfl⟩
  refine jH rfl (kB (z := .agg #[iv 0, iv 0, iv 0, .slice none 0 0, .slice none 0 0, iv 0, iv 0, .bool false]) (cs := [iv 0, iv 0, iv 0, .slice none 0 0, .slice none 0 0, iv 0, iv 0, .bool false]) Tryz.zeroValue129 rfl) ?_
  rintro _ _ ⟨b_4, rfl, rfl⟩
  refine jD <| jB <| jC <| jE ?_
  refine jH rfl (kB (z := .agg #[iv 0, iv 0, iv 0, .slice none 0 0, .slice none 0 0, iv 0, iv 0, .bool false]) (cs := [iv 0, iv 0, iv 0, .slice none 0 0, .slice none 0 0, iv 0, iv 0, .bool false]) Tryz.zeroValue129 rfl) ?_
  rintro _ _ ⟨b_5, rfl, rfl⟩
  refine jD <| jB <| jC <| jE <| jA (jI fo124_0 rfl) <| jK (jR 2 (v := iv p.t.seq) rfl rfl kR rfl) <| jA (jI fo129_0 rfl) ?_
  refine jH rfl (jd 0 (vs := [iv p.t.seq]) (cs' := [iv p.t.seq, iv 0, iv 0, .slice none 0 0, .slice none 0 0, iv 0, iv 0, .bool false]) rfl rfl rfl rfl kW rfl rfl (lb rfl) rfl) ?_
  rintro _ _ rfl
  refine jD <| jB <| jC <| jE <| jA (jI fo124_1 rfl) <| jK (jR 2 (v := iv p.t.kind) rfl rfl kR rfl) <| jA (jI fo129_1 rfl) ?_
  refine jH rfl (jd 0 (vs := [iv p.t.kind]) (cs' := [iv p.t.seq, iv p.t.kind, iv 0, .slice none 0 0, .slice none 0 0, iv 0, iv 0, .bool false]) rfl rfl rfl rfl kW rfl rfl (lb rfl) rfl) ?_
  rintro _ _ rfl
  refine jD <| jB <| jC <| jE <| jA (jI fo124_2 rfl) <| jK (jR 2 (v := iv p.t.tx) rfl rfl kR rfl) <| jA (jI fo129_2 rfl) ?_
  refine jH rfl (jd 0 (vs := [iv p.t.tx]) (cs' := [iv p.t.seq, iv p.t.kind, iv p.t.tx, .slice none 0 0, .slice none 0 0, iv 0, iv 0, .bool false]) rfl rfl rfl rfl kW rfl rfl (lb rfl) rfl) ?_
  rintro _ _ rfl
  refine jD <| jB <| jC <| jE <| jA (jI fo124_3 rfl) <| jK (jR 2 (v := .slice p.x.a0 p.t.steps.length p.x.c0) rfl rfl Tryz.isAgg122 rfl) ?_
  refine jH rfl (jU [] Tryz.call139 rfl (E_toStepS p.x.a0 p.x.c0 p.t.steps (by omega)) rfl (fun w hw => hw.seeOutE hs_1 nM)) ?_
  rintro _ _ ⟨_, ⟨a_6, c_7, rfl, rfl⟩, rfl⟩
  refine jA (jI fo129_3 rfl) ?_
  refine jH rfl (jd 1 (vs := [.slice a_6 p.t.steps.length c_7]) (cs' := [iv p.t.seq, iv p.t.kind, iv p.t.tx, .slice a_6 p.t.steps.length c_7, .slice none 0 0, iv 0, iv 0, .bool false]) rfl rfl rfl rfl Tryz.sizeOf127 rfl rfl (lb rfl) rfl) ?_
  rintro _ _ rfl
  refine jD <| jB <| jC <| jE <| jA (jI fo124_4 rfl) <| jK (jR 3 (v := .slice p.x.a1 p.t.ans.length p.x.c1) rfl rfl Tryz.isAgg49 rfl) ?_
  refine jH rfl (jU [] Tryz.call61 rfl (E_toAnswerS p.x.a1 p.x.c1 p.t.ans (by omega)) rfl (fun w hw => hw.seeOutE hs_2 nM)) ?_
  rintro _ _ ⟨_, ⟨a_8, c_9, rfl, rfl⟩, rfl⟩
  refine jA (jI fo129_4 rfl) ?_
  refine jH rfl (jd 2 (vs := [.slice a_8 p.t.ans.length c_9]) (cs' := [iv p.t.seq, iv p.t.kind, iv p.t.tx, .slice a_6 p.t.steps.length c_7, .slice a_8 p.t.ans.length c_9, iv 0, iv 0, .bool false]) rfl rfl rfl rfl Tryz.sizeOf58 rfl rfl (lb rfl) rfl) ?_
  rintro _ _ rfl
  refine jD <| jB <| jC <| jE <| jA (jI fo124_5 rfl) <| jK (jR 4 (v := iv p.t.began) rfl rfl kR rfl) <| jA (jI fo129_5 rfl) ?_
  refine jH rfl (jd 2 (vs := [iv p.t.began]) (cs' := [iv p.t.seq, iv p.t.kind, iv p.t.tx, .slice a_6 p.t.steps.length c_7, .slice a_8 p.t.ans.length c_9, iv p.t.began, iv 0, .bool false]) rfl rfl rfl rfl kW rfl rfl (lb rfl) rfl) ?_
  rintro _ _ rfl
  refine jD <| jB <| jC <| jE <| jA (jI fo124_6 rfl) <| jK (jR 4 (v := iv p.t.ended) rfl rfl kR rfl) <| jA (jI fo129_6 rfl) ?_
  refine jH rfl (jd 2 (vs := [iv p.t.ended]) (cs' := [iv p.t.seq, iv p.t.kind, iv p.t.tx, .slice a_6 p.t.steps.length c_7, .slice a_8 p.t.ans.length c_9, iv p.t.began, iv p.t.ended, .bool false]) rfl rfl rfl rfl kW rfl rfl (lb rfl) rfl) ?_
  rintro _ _ rfl
  refine jD <| jB <| jC <| jE <| jA (jI fo124_7 rfl) <| jK (jR 4 (v := .bool p.t.laid) rfl rfl ky rfl) <| jA (jI fo129_7 rfl) ?_
  refine jH rfl (jd 2 (vs := [.bool p.t.laid]) (cs' := [iv p.t.seq, iv p.t.kind, iv p.t.tx, .slice a_6 p.t.steps.length c_7, .slice a_8 p.t.ans.length c_9, iv p.t.began, iv p.t.ended, .bool p.t.laid]) rfl rfl rfl rfl Tryz.sizeOf4 rfl rfl (lb rfl) rfl) ?_
  rintro _ _ rfl
  refine jD <| jB <| jC <| jE <| jK (jg 2 (vs := [iv p.t.seq, iv p.t.kind, iv p.t.tx, .slice a_6 p.t.steps.length c_7, .slice a_8 p.t.ans.length c_9, iv p.t.began, iv p.t.ended, .bool p.t.laid]) rfl rfl Tryz.isAgg129 kf rfl rfl) ?_
  refine jH rfl (jd 3 (vs := [iv p.t.seq, iv p.t.kind, iv p.t.tx, .slice a_6 p.t.steps.length c_7, .slice a_8 p.t.ans.length c_9, iv p.t.began, iv p.t.ended, .bool p.t.laid]) (cs' := [iv p.t.seq, iv p.t.kind, iv p.t.tx, .slice a_6 p.t.steps.length c_7, .slice a_8 p.t.ans.length c_9, iv p.t.began, iv p.t.ended, .bool p.t.laid]) rfl rfl rfl rfl kf rfl rfl (lb rfl) rfl) ?_
  rintro _ _ rfl
  refine jD <| jB <| jJ <| jv (L' := [Res.rows (rdsE (⟨⟨a_6, c_7, a_8, c_9⟩, p.t⟩ : EX)), bk b_5 129 [iv p.t.seq, iv p.t.kind, iv p.t.tx, .slice a_6 p.t.steps.length c_7, .slice a_8 p.t.ans.length c_9, iv p.t.began, iv p.t.ended, .bool p.t.laid], bk b_4 129 [iv p.t.seq, iv p.t.kind, iv p.t.tx, .slice a_6 p.t.steps.length c_7, .slice a_8 p.t.ans.length c_9, iv p.t.began, iv p.t.ended, .bool p.t.laid], bk b_3 124 [iv p.t.seq, iv p.t.kind, iv p.t.tx, .slice p.x.a0 p.t.steps.length p.x.c0, .slice p.x.a1 p.t.ans.length p.x.c1, iv p.t.began, iv p.t.ended, .bool p.t.laid]]) (fun w hw => hw.closeR (A := rdsE (⟨⟨a_6, c_7, a_8, c_9⟩, p.t⟩ : EX)) [1, 0] rfl) <| jL (.inl rfl) rfl (kI (jg 2 (vs := [iv p.t.seq, iv p.t.kind, iv p.t.tx, .slice a_6 p.t.steps.length c_7, .slice a_8 p.t.ans.length c_9, iv p.t.began, iv p.t.ended, .bool p.t.laid]) rfl rfl Tryz.isAgg129 kf rfl rfl) ⟨_, rfl⟩) (tS 1 _) ?_
  exact ⟨(⟨⟨a_6, c_7, a_8, c_9⟩, p.t⟩ : EX), rfl, rfl, rfl⟩

theorem C_eqEntry (p q : EX) (hl : p.t.lim 1000000000) :
    Ct Tryz.prog 101 [.agg #[.int .i64 p.t.seq, .int .i64 p.t.kind, .int .i64 p.t.tx, .slice p.x.a0 p.t.steps.length p.x.c0, .slice p.x.a1 p.t.ans.length p.x.c1, .int .i64 p.t.began, .int .i64 p.t.ended, .bool p.t.laid], .agg #[.int .i64 q.t.seq, .int .i64 q.t.kind, .int .i64 q.t.tx, .slice q.x.a0 q.t.steps.length q.x.c0, .slice q.x.a1 q.t.ans.length q.x.c1, .int .i64 q.t.began, .int .i64 q.t.ended, .bool q.t.laid]] [] (fun w => SeesA w (rdsE p) ∧ SeesA w (rdsE q)) (fun v A' => v = .bool (decide (p.t = q.t)) ∧ A' = []) := by
  obtain ⟨hb0, hb1⟩ := hl
  refine Ct.intro Tryz.func101 rfl Tryz.ntmps101 (lb rfl) fun w0 hpre => ?_
  obtain ⟨hs_1, hs_2⟩ := seesE hpre.1
  obtain ⟨hs_3, hs_4⟩ := seesE hpre.2
  refine jC <| jE ?_
  refine jH rfl (jm (cs := [iv p.t.seq, iv p.t.kind, iv p.t.tx, .slice p.x.a0 p.t.steps.length p.x.c0, .slice p.x.a1 p.t.ans.length p.x.c1, iv p.t.began, iv p.t.ended, .bool p.t.laid]) rfl rfl) ?_
  rintro _ _ ⟨b_5, rfl, rfl⟩
  refine jH rfl (jm (cs := [iv q.t.seq, iv q.t.kind, iv q.t.tx, .slice q.x.a0 q.t.steps.length q.x.c0, .slice q.x.a1 q.t.ans.length q.x.c1, iv q.t.began, iv q.t.ended, .bool q.t.laid]) rfl rfl) ?_
  rintro _ _ ⟨b_6, rfl, rfl⟩
  refine jA (jG (v := .bool false) rfl) <| jD <| jB <| jC <| jC <| jE <| jA (jI fo129_0 rfl) <| jK (jR 1 (v := iv p.t.seq) rfl rfl kR rfl) <| jA (jI fo129_0 rfl) <| jK (jR 0 (v := iv q.t.seq) rfl rfl kR rfl) ?_
  refine jA (jz rfl rfl) <| jD <| jB ?_
  by_cases h_7 : p.t.seq = q.t.seq
  · refine jP (cB (cN (dT h_7))) <| jQ <| jB <| jC <| jC <| jE <| jA (jI fo129_1 rfl) <| jK (jR 1 (v := iv p.t.kind) rfl rfl kR rfl) <| jA (jI fo129_1 rfl) <| jK (jR 0 (v := iv q.t.kind) rfl rfl kR rfl) ?_
    refine jA (jz rfl rfl) <| jD <| jB ?_
    by_cases h_8 : p.t.kind = q.t.kind
    · refine jP (cB (cN (dT h_8))) <| jQ <| jB <| jC <| jC <| jE <| jA (jI fo129_2 rfl) <| jK (jR 1 (v := iv p.t.tx) rfl rfl kR rfl) <| jA (jI fo129_2 rfl) <| jK (jR 0 (v := iv q.t.tx) rfl rfl kR rfl) ?_
      refine jA (jz rfl rfl) <| jD <| jB ?_
      by_cases h_9 : p.t.tx = q.t.tx
      · refine jP (cB (cN (dT h_9))) <| jQ <| jB <| jC <| jC <| jE <| jA (jI fo129_3 rfl) <| jK (jR 1 (v := .slice p.x.a0 p.t.steps.length p.x.c0) rfl rfl Tryz.isAgg127 rfl) <| jA (jI fo129_3 rfl) <| jK (jR 0 (v := .slice q.x.a0 q.t.steps.length q.x.c0) rfl rfl Tryz.isAgg127 rfl) ?_
        refine jH rfl (jU [] Tryz.call144 rfl (C_eqStepS p.x.a0 q.x.a0 p.x.c0 q.x.c0 p.t.steps q.t.steps (by omega)) rfl (fun w hw => ⟨hw.seeOut_ hs_1 nM, hw.seeOut_ hs_3 nM⟩)) ?_
        rintro _ _ ⟨_, ⟨rfl, rfl⟩, rfl⟩
        refine jA (kE rfl) <| jD <| jB ?_
        by_cases h_10 : p.t.steps = q.t.steps
        · refine jP (cB (cN (dT h_10))) <| jQ <| jB <| jC <| jC <| jE <| jA (jI fo129_4 rfl) <| jK (jR 1 (v := .slice p.x.a1 p.t.ans.length p.x.c1) rfl rfl gB rfl) <| jA (jI fo129_4 rfl) <| jK (jR 0 (v := .slice q.x.a1 q.t.ans.length q.x.c1) rfl rfl gB rfl) ?_
          refine jH rfl (jU [] Tryz.call67 rfl (C_eqAnswerS p.x.a1 q.x.a1 p.x.c1 q.x.c1 p.t.ans q.t.ans (by omega)) rfl (fun w hw => ⟨hw.seeOut_ hs_2 nM, hw.seeOut_ hs_4 nM⟩)) ?_
          rintro _ _ ⟨_, ⟨rfl, rfl⟩, rfl⟩
          refine jA (kE rfl) <| jD <| jB ?_
          by_cases h_11 : p.t.ans = q.t.ans
          · refine jP (cB (cN (dT h_11))) <| jQ <| jB <| jC <| jC <| jE <| jA (jI fo129_5 rfl) <| jK (jR 1 (v := iv p.t.began) rfl rfl kR rfl) <| jA (jI fo129_5 rfl) <| jK (jR 0 (v := iv q.t.began) rfl rfl kR rfl) ?_
            refine jA (jz rfl rfl) <| jD <| jB ?_
            by_cases h_12 : p.t.began = q.t.began
            · refine jP (cB (cN (dT h_12))) <| jQ <| jB <| jC <| jC <| jE <| jA (jI fo129_6 rfl) <| jK (jR 1 (v := iv p.t.ended) rfl rfl kR rfl) <| jA (jI fo129_6 rfl) <| jK (jR 0 (v := iv q.t.ended) rfl rfl kR rfl) ?_
              refine jA (jz rfl rfl) <| jD <| jB ?_
              by_cases h_13 : p.t.ended = q.t.ended
              · refine jP (cB (cN (dT h_13))) <| jQ <| jB <| jC <| jC <| jE <| jA (jI fo129_7 rfl) <| jK (jR 1 (v := .bool p.t.laid) rfl rfl ky rfl) <| jA (jI fo129_7 rfl) <| jK (jR 0 (v := .bool q.t.laid) rfl rfl ky rfl) ?_
                refine jA (PO.neqB Tryz.underlying4 rfl rfl) <| jD <| jB ?_
                by_cases h_14 : p.t.laid = q.t.laid
                · refine jP (cB (cN (dT h_14))) <| jQ <| jB <| jC <| jE <| jA (jG (v := .bool true) rfl) <| jD <| jB <| jJ <| jL (.inl rfl) rfl (jM (v := .bool true) rfl) (List.nil_sublist _) ?_
                  exact ⟨cB (dT (ED.same.2 ⟨by assumption, by assumption, by assumption, by assumption, by assumption, by assumption, by assumption, by assumption⟩)).symm, rfl⟩
                refine jS (cB (cN (dF h_14))) <| jC <| jE <| jA (jG (v := .bool false) rfl) <| jD <| jB <| jJ <| jO <| jL (.inl rfl) rfl (jM (v := .bool false) rfl) (List.nil_sublist _) ?_
                exact ⟨cB (dF (fun h_ => by obtain ⟨h_0, h_1, h_2, h_3, h_4, h_5, h_6, h_7⟩ := ED.same.1 h_; first | contradiction | (exact absurd ⟨h_6, h_7⟩ ‹¬(_ ∧ _)›))).symm, rfl⟩
              refine jS (cB (cN (dF h_13))) <| jC <| jE <| jA (jG (v := .bool false) rfl) <| jD <| jB <| jJ <| jO <| jL (.inl rfl) rfl (jM (v := .bool false) rfl) (List.nil_sublist _) ?_
              exact ⟨cB (dF (fun h_ => by obtain ⟨h_0, h_1, h_2, h_3, h_4, h_5, h_6, h_7⟩ := ED.same.1 h_; first | contradiction | (exact absurd ⟨h_6, h_7⟩ ‹¬(_ ∧ _)›))).symm, rfl⟩
            refine jS (cB (cN (dF h_12))) <| jC <| jE <| jA (jG (v := .bool false) rfl) <| jD <| jB <| jJ <| jO <| jL (.inl rfl) rfl (jM (v := .bool false) rfl) (List.nil_sublist _) ?_
            exact ⟨cB (dF (fun h_ => by obtain ⟨h_0, h_1, h_2, h_3, h_4, h_5, h_6, h_7⟩ := ED.same.1 h_; first | contradiction | (exact absurd ⟨h_6, h_7⟩ ‹¬(_ ∧ _)›))).symm, rfl⟩
          refine jS (cB (cN (dF h_11))) <| jC <| jE <| jA (jG (v := .bool false) rfl) <| jD <| jB <| jJ <| jO <| jL (.inl rfl) rfl (jM (v := .bool false) rfl) (List.nil_sublist _) ?_
          exact ⟨cB (dF (fun h_ => by obtain ⟨h_0, h_1, h_2, h_3, h_4, h_5, h_6, h_7⟩ := ED.same.1 h_; first | contradiction | (exact absurd ⟨h_6, h_7⟩ ‹¬(_ ∧ _)›))).symm, rfl⟩
        refine jS (cB (cN (dF h_10))) <| jC <| jE <| jA (jG (v := .bool false) rfl) <| jD <| jB <| jJ <| jO <| jL (.inl rfl) rfl (jM (v := .bool false) rfl) (List.nil_sublist _) ?_
        exact ⟨cB (dF (fun h_ => by obtain ⟨h_0, h_1, h_2, h_3, h_4, h_5, h_6, h_7⟩ := ED.same.1 h_; first | contradiction | (exact absurd ⟨h_6, h_7⟩ ‹¬(_ ∧ _)›))).symm, rfl⟩
      refine jS (cB (cN (dF h_9))) <| jC <| jE <| jA (jG (v := .bool false) rfl) <| jD <| jB <| jJ <| jO <| jL (.inl rfl) rfl (jM (v := .bool false) rfl) (List.nil_sublist _) ?_
      exact ⟨cB (dF (fun h_ => by obtain ⟨h_0, h_1, h_2, h_3, h_4, h_5, h_6, h_7⟩ := ED.same.1 h_; first | contradiction | (exact absurd ⟨h_6, h_7⟩ ‹¬(_ ∧ _)›))).symm, rfl⟩
    refine jS (cB (cN (dF h_8))) <| jC <| jE <| jA (jG (v := .bool false) rfl) <| jD <| jB <| jJ <| jO <| jL (.inl rfl) rfl (jM (v := .bool false) rfl) (List.nil_sublist _) ?_
    exact ⟨cB (dF (fun h_ => by obtain ⟨h_0, h_1, h_2, h_3, h_4, h_5, h_6, h_7⟩ := ED.same.1 h_; first | contradiction | (exact absurd ⟨h_6, h_7⟩ ‹¬(_ ∧ _)›))).symm, rfl⟩
  refine jS (cB (cN (dF h_7))) <| jC <| jE <| jA (jG (v := .bool false) rfl) <| jD <| jB <| jJ <| jO <| jL (.inl rfl) rfl (jM (v := .bool false) rfl) (List.nil_sublist _) ?_
  exact ⟨cB (dF (fun h_ => by obtain ⟨h_0, h_1, h_2, h_3, h_4, h_5, h_6, h_7⟩ := ED.same.1 h_; first | contradiction | (exact absurd ⟨h_6, h_7⟩ ‹¬(_ ∧ _)›))).symm, rfl⟩

theorem C_szEntryS (a : Option Addr) (c : Nat) (s : List EX) (l : Int) (h0 : 0 ≤ l) (h1 : l ≤ 1048576) (hn : s.length ≤ 9223372036854775807) (hse : ∀ j, j < s.length → (s.getD j e0).t.okz) :
    Ct Tryz.prog 30 [.slice a s.length c, .int .i64 l] [] (fun w => SeesAE w (rdsES a c s)) (fun r A' => r = .int .i64 (szLS szEntryF (s.map EX.t) l) ∧ A' = []) := by
  refine Ct.intro Tryz.func30 rfl Tryz.ntmps30 (lb rfl) fun w0 hpre => ?_
  have hs_1 : SeesE w0 (.slice a s.length c) 8 s.length (s.flatMap encE) := (hpre).head
  have hi_2 : SeesAE w0 (s.flatMap rdsE) := (hpre).tail
  refine jC <| jE <| jA (jG (v := iv 0) rfl) <| jD <| jB <| jC <| jE <| jA (jF (v := iv l) rfl) <| jA (jF (v := .slice a s.length c) rfl) <| jA (jf Tryz.underlying29 rfl) ?_
  refine jA (kM (c := l - ((s.length : Nat) : Int)) rfl rfl (wr (by omega))) <| jA (jG (v := iv (l - ((s.length : Nat) : Int))) rfl) <| jD <| jB <| jC <| jC <| jE <| jA (jF (v := iv (l - ((s.length : Nat) : Int))) rfl) <| jA (jc rfl rfl) <| jD ?_
  refine jB ?_
  by_cases h_3 : (l - ((s.length : Nat) : Int)) < 0
  · refine jS (cB (dT h_3)) <| jC <| jE <| jA (jG (v := iv (-1)) rfl) <| jD <| jB <| jJ <| jO <| jL (.inl rfl) rfl (jM (v := iv (-1)) rfl) (List.nil_sublist _) ?_
    refine ⟨?_, rfl⟩
    rw [szLS, List.length_map, if_pos (by omega)]
  refine jP (cB (dF h_3)) <| jQ <| jB <| jC <| jC <| jE <| jA (jG (v := iv 0) rfl) <| jD <| jB <| jZ ?_
  refine jp (fun k_ e_ L_ => ∃ j : Nat, ∃ l1 : Int, (j ≤ s.length) ∧ (0 ≤ l1) ∧ (l1 ≤ 1048576) ∧ (szL szEntryF ((s.map EX.t).drop j) l1 = szLS szEntryF (s.map EX.t) l) ∧ e_ 0 = .slice a s.length c ∧ e_ 1 = iv l1 ∧ e_ 5 = nv j ∧ L_ = [] ∧ k_ = s.length - j) _ ⟨0, (l - (s.length : Int)), by omega, by omega, by omega, (by rw [szLS, List.length_map, if_neg (by omega)]; rfl), rfl, rfl, rfl, rfl, rfl⟩ ?_
  rintro _ e_4 _ ⟨j, l1, hj, hl, hl2, hR, he_5, he_6, he_7, rfl, rfl⟩
  refine jC <| jC <| jE <| jA (jF (v := nv j) he_7) <| jA (jF (v := .slice a s.length c) he_5) <| jA (jf Tryz.underlying29 rfl) <| jA (jc rfl rfl) <| jD <| jB ?_
  by_cases h_8 : ((j : Nat) : Int) < ((s.length : Nat) : Int)
  · have hlt : j < s.length := by omega
    have hf_9 := SeesE.full hs_1 (by omega)
    refine jS (cB (dT h_8)) <| jQ <| jB <| jC <| jZ <| jC <| jE <| jA (jF (v := .slice a s.length c) he_5) <| jA (jF (v := nv j) he_7) ?_
    obtain ⟨hr_10, hr_10b, -⟩ := sees_some hf_9 (by omega)
    refine jA (jX (i := j) Tryz.underlying29 Tryz.sizeOf124 hr_10 hr_10b rfl rfl (by omega)) ?_
    have hi_11 := SeesAE.elem hi_2 e0 (show j < s.length by omega)
    obtain ⟨hs_12, hs_13⟩ := seesEE hi_11
    refine jK (kF (vs := [iv ((s.getD j e0).t.seq), iv ((s.getD j e0).t.kind), iv ((s.getD j e0).t.tx), .slice ((s.getD j e0).x.a0) ((s.getD j e0).t.steps.length) ((s.getD j e0).x.c0), .slice ((s.getD j e0).x.a1) ((s.getD j e0).t.ans.length) ((s.getD j e0).x.c1), iv ((s.getD j e0).t.began), iv ((s.getD j e0).t.ended), .bool ((s.getD j e0).t.laid)]) hf_9 nM rfl Tryz.isAgg124 Tryz.sizeOf124 (flat_take encE_len e0 s j (by omega)) rfl (by decide)) <| jA (jF (v := iv l1) he_6) ?_
    refine jH rfl (jU [] Tryz.call85 rfl (C_szEntry (s.getD j e0) l1 (by omega) (by omega) (hse j hlt)) rfl (fun w hw => hw.seeOutAE hi_11 nMA)) ?_
    rintro _ _ ⟨_, ⟨rfl, rfl⟩, rfl⟩
    have hle_14 := szEntryF_le (s.getD j e0).t l1 (by omega)
    refine jA (jG (v := iv (szEntryF (s.getD j e0).t l1)) rfl) <| jD <| jB <| jC <| jE <| jA (jF (v := iv (szEntryF (s.getD j e0).t l1)) rfl) <| jA (jc rfl rfl) <| jD <| jB ?_
    by_cases h_15 : (szEntryF (s.getD j e0).t l1) < 0
    · have hneg := h_15
      refine jS (cB (dT h_15)) <| jC <| jE <| jA (jG (v := iv (-1)) rfl) <| jD <| jB <| jJ <| je <| jO <| jO ?_
      refine je <| jO <| jL (.inl rfl) rfl (jM (v := iv (-1)) rfl) (List.nil_sublist _) ?_
      refine ⟨?_, rfl⟩
      rw [szL_stepM e0 hlt, if_pos hneg] at hR
      rw [← hR]
    have hneg := h_15
    refine jP (cB (dF h_15)) <| jQ <| jk <| jB <| jE <| jA (jF (v := nv j) he_7) <| jA (ja (c := ((j + 1 : Nat) : Int)) rfl rfl (wr (by omega))) <| jA (jG (v := iv ((j + 1 : Nat) : Int)) rfl) <| jD ?_
    refine jl (s.length - (j + 1)) (by omega) ⟨j + 1, szEntryF (s.getD j e0).t l1, by omega, by omega, by omega, (by rw [szL_stepM e0 hlt, if_neg hneg] at hR; exact hR), he_5, rfl, rfl, rfl, rfl⟩
  refine jP (cB (dF h_8)) <| jn <| jb <| jb <| jo <| jB <| jC <| jE <| jA (jF (v := iv l1) he_6) <| jA (jG (v := iv l1) rfl) ?_
  refine jD <| jB <| jJ <| jL (.inl rfl) rfl (jM (v := iv l1) rfl) (List.nil_sublist _) ?_
  refine ⟨?_, rfl⟩
  rw [List.drop_of_length_le (by rw [List.length_map]; omega)] at hR
  rw [← hR]
  rfl

theorem C_toEntryS (a : Option Addr) (c : Nat) (s : List EX) (hn : s.length ≤ 1048576) (hl : ∀ q ∈ s, q.t.lim 1048576) :
    Ct Tryz.prog 36 [.slice a s.length c] [] (fun w => SeesAE w (rdsES a c s)) (fun r A' => ∃ a' c' y, y.map EX.t = s.map EX.t ∧ r = .slice a' y.length c' ∧ A' = [.rows (rdsES a' c' y)]) := by
  refine Ct.intro Tryz.func36 rfl Tryz.ntmps36 (lb rfl) fun w0 hpre => ?_
  have hs_1 : SeesE w0 (.slice a s.length c) 8 s.length (s.flatMap encE) := (hpre).head
  have hi_2 : SeesAE w0 (s.flatMap rdsE) := (hpre).tail
  refine jC <| jE <| jA (jG (v := .slice none 0 0) rfl) <| jD <| jB <| jC <| jE <| jA (jF (v := .slice a s.length c) rfl) <| jA (jf Tryz.underlying29 rfl) ?_
  refine jH rfl (JO.makeSlice (z := .agg #[iv 0, iv 0, iv 0, .slice none 0 0, .slice none 0 0, iv 0, iv 0, .bool false]) (zc := [iv 0, iv 0, iv 0, .slice none 0 0, .slice none 0 0, iv 0, iv 0, .bool false]) (m := s.length) kc Tryz.typeInfo129 rfl rfl rfl rfl rfl (by unfold maxLen; omega) (by show 96 * _ ≤ _; omega)) ?_
  rintro _ _ ⟨a_3, rfl, rfl⟩
  refine jA (jG (v := .slice a_3 s.length s.length) rfl) <| jD <| jB <| jC <| jC <| jE <| jA (jG (v := iv 0) rfl) <| jD <| jB <| jZ ?_
  refine kP (L' := [Res.row (.slice a_3 s.length s.length) 129 8 s.length ((List.replicate s.length e0).flatMap encE), Res.rows (([] : List EX).flatMap rdsE)]) (fun w hw => St.rowsNil' (hw.eqL (by rw [flatE]; rfl))) <| jp (fun k_ e_ L_ => ∃ j : Nat, ∃ y : List EX, (j ≤ s.length) ∧ (y.map EX.t = (s.take j).map EX.t) ∧ e_ 0 = .slice a s.length c ∧ e_ 2 = .slice none 0 0 ∧ e_ 3 = .slice a_3 s.length s.length ∧ e_ 4 = nv j ∧ L_ = [Res.row (.slice a_3 s.length s.length) 129 8 s.length ((y ++ List.replicate (s.length - j) e0).flatMap encE), Res.rows (y.flatMap rdsE)] ∧ k_ = s.length - j) _ ⟨0, ([] : List EX), by omega, rfl, rfl, rfl, rfl, rfl, rfl, rfl⟩ ?_
  rintro _ e_4 _ ⟨j, y, hj, hd, he_5, he_6, he_7, he_8, rfl, rfl⟩
  refine jC <| jC <| jE <| jA (jF (v := nv j) he_8) <| jA (jF (v := .slice a s.length c) he_5) <| jA (jf Tryz.underlying29 rfl) <| jA (jc rfl rfl) <| jD <| jB ?_
  by_cases h_9 : ((j : Nat) : Int) < ((s.length : Nat) : Int)
  · have hlt : j < s.length := by omega
    have hf_10 := SeesE.full hs_1 (by omega)
    refine jS (cB (dT h_9)) <| jQ <| jB <| jC <| jZ <| jE <| jA (jF (v := .slice a_3 s.length s.length) he_7) <| jA (jF (v := nv j) he_8) <| jA (jF (v := .slice a s.length c) he_5) <| jA (jF (v := nv j) he_8) ?_
    obtain ⟨hr_11, hr_11b, -⟩ := sees_some hf_10 (by omega)
    refine jA (jX (i := j) Tryz.underlying29 Tryz.sizeOf124 hr_11 hr_11b rfl rfl (by omega)) ?_
    have hi_12 := SeesAE.elem hi_2 e0 (show j < s.length by omega)
    obtain ⟨hs_13, hs_14⟩ := seesEE hi_12
    refine jK (kF (vs := [iv ((s.getD j e0).t.seq), iv ((s.getD j e0).t.kind), iv ((s.getD j e0).t.tx), .slice ((s.getD j e0).x.a0) ((s.getD j e0).t.steps.length) ((s.getD j e0).x.c0), .slice ((s.getD j e0).x.a1) ((s.getD j e0).t.ans.length) ((s.getD j e0).x.c1), iv ((s.getD j e0).t.began), iv ((s.getD j e0).t.ended), .bool ((s.getD j e0).t.laid)]) hf_10 nM rfl Tryz.isAgg124 Tryz.sizeOf124 (flat_take encE_len e0 s j (by omega)) rfl (by decide)) ?_
    refine jH rfl (jU [] Tryz.call92 rfl (C_toEntry (s.getD j e0) (hl _ (getD_mem hlt))) rfl (fun w hw => hw.seeOutAE hi_12 nMA)) ?_
    rintro _ _ ⟨_, ⟨y_15, hy_16, rfl, rfl⟩, rfl⟩
    refine kQ fun hst => ?_
    obtain ⟨hr_17, hr_17b, -⟩ := row_some 1 rfl (by omega) hst
    refine jA (jX (i := j) kc kf hr_17 hr_17b rfl rfl (by omega)) ?_
    refine jH rfl (kD 1 (vs := [iv y_15.t.seq, iv y_15.t.kind, iv y_15.t.tx, .slice y_15.x.a0 y_15.t.steps.length y_15.x.c0, .slice y_15.x.a1 y_15.t.ans.length y_15.x.c1, iv y_15.t.began, iv y_15.t.ended, .bool y_15.t.laid]) (cs' := ((y ++ List.replicate (s.length - j) e0).set j y_15).flatMap encE) rfl rfl rfl rfl kf rfl rfl (by decide) (by rw [flat_length encE_len]; rw [List.length_append, List.length_replicate, map_len hd hj]; omega) (flat_set encE_len (y ++ List.replicate (s.length - j) e0) j y_15 (by rw [List.length_append, List.length_replicate, map_len hd hj]; omega))) ?_
    rintro _ _ rfl
    refine jD <| jk <| jB <| jE <| jA (jF (v := nv j) he_8) <| jA (ja (c := ((j + 1 : Nat) : Int)) rfl rfl (wr (by omega))) <| jA (jG (v := iv ((j + 1 : Nat) : Int)) rfl) <| jD <| jv (L' := [Res.rows ((y ++ [y_15]).flatMap rdsE), Res.row (.slice a_3 s.length s.length) 129 8 s.length (((y ++ List.replicate (s.length - j) e0).set j y_15).flatMap encE)]) (fun w hw => hw.addR [2, 0] rfl flatMap_snoc) <| jv (L' := [Res.rows ((y ++ [y_15]).flatMap rdsE), Res.row (.slice a_3 s.length s.length) 129 8 s.length (((y ++ [y_15]) ++ List.replicate (s.length - (j + 1)) e0).flatMap encE)]) (fun w hw => hw.eqL (by rw [fillV_step (map_len hd hj) hlt])) ?_
    refine kL [1, 0] (A := [Res.row (.slice a_3 s.length s.length) 129 8 s.length (((y ++ [y_15]) ++ List.replicate (s.length - (j + 1)) e0).flatMap encE), Res.rows ((y ++ [y_15]).flatMap rdsE)]) rfl ?_
    refine jl (s.length - (j + 1)) (by omega) ⟨j + 1, (y ++ [y_15]), by omega, (map_take_succ e0 hd hlt hy_16), he_5, he_6, he_7, rfl, rfl, rfl⟩
  refine jP (cB (dF h_9)) <| jn <| jb <| jb <| jo <| jB <| jC <| jE <| jA (jF (v := .slice a_3 s.length s.length) he_7) <| jA (jG (v := .slice a_3 s.length s.length) rfl) ?_
  refine jD <| jB <| jJ ?_
  have hly := map_len hd hj
  obtain rfl : j = s.length := by omega
  refine jv (L' := [Res.row (.slice a_3 y.length s.length) 129 8 y.length (y.flatMap encE), Res.rows (y.flatMap rdsE)]) (fun w hw => hw.eqL (by simp only [Nat.sub_self, List.replicate_zero, List.append_nil, hly])) <| jv (L' := [Res.rows (rdsES a_3 s.length y)]) (fun w hw => hw.consR (r := ⟨.slice a_3 y.length s.length, 129, 8, y.length, y.flatMap encE⟩) (A := y.flatMap rdsE) [0, 0] rfl) <| jL (.inl rfl) rfl (jM (v := .slice a_3 s.length s.length) rfl) (List.Sublist.refl _) ?_
  exact ⟨a_3, s.length, y, map_all hd (Nat.le_refl _), by rw [hly], rfl⟩

theorem C_eqEntryS (a b : Option Addr) (c c' : Nat) (s t : List EX) (hn : s.length ≤ 9223372036854775807) (hl : ∀ q ∈ s, q.t.lim 1000000000) :
    Ct Tryz.prog 42 [.slice a s.length c, .slice b t.length c'] [] (fun w => SeesA w (rdsES a c s) ∧ SeesA w (rdsES b c' t)) (fun r A' => r = .bool (decide (s.map EX.t = t.map EX.t)) ∧ A' = []) := by
  refine Ct.intro Tryz.func42 rfl Tryz.ntmps42 (lb rfl) fun w0 hpre => ?_
  have hs_1 : Sees w0 (.slice a s.length c) 8 s.length (s.flatMap encE) := (hpre.1).head
  have hi_2 : SeesA w0 (s.flatMap rdsE) := (hpre.1).tail
  have hs_3 : Sees w0 (.slice b t.length c') 8 t.length (t.flatMap encE) := (hpre.2).head
  have hi_4 : SeesA w0 (t.flatMap rdsE) := (hpre.2).tail
  refine jC <| jE <| jA (jG (v := .bool false) rfl) <| jD <| jB <| jC <| jC <| jE <| jA (jF (v := .slice a s.length c) rfl) <| jA (jf kc rfl) ?_
  refine jA (jF (v := .slice b t.length c') rfl) <| jA (jf kc rfl) <| jA (jz rfl rfl) <| jD <| jB ?_
  by_cases h_5 : ((s.length : Nat) : Int) = ((t.length : Nat) : Int)
  · have hlen := h_5
    refine jP (cB (cN (dT h_5))) <| jQ <| jB <| jC <| jC <| jE <| jA (jG (v := iv 0) rfl) <| jD <| jB <| jZ ?_
    refine jp (fun k_ e_ L_ => ∃ j : Nat, (j ≤ s.length) ∧ ((s.take j).map EX.t = (t.take j).map EX.t) ∧ (s.length = t.length) ∧ e_ 0 = .slice a s.length c ∧ e_ 1 = .slice b t.length c' ∧ e_ 5 = nv j ∧ L_ = [] ∧ k_ = s.length - j) _ ⟨0, by omega, rfl, by omega, rfl, rfl, rfl, rfl, rfl⟩ ?_
    rintro _ e_6 _ ⟨j, hj, hE, hln, he_7, he_8, he_9, rfl, rfl⟩
    refine jC <| jC <| jE <| jA (jF (v := nv j) he_9) <| jA (jF (v := .slice a s.length c) he_7) <| jA (jf kc rfl) <| jA (jc rfl rfl) <| jD <| jB ?_
    by_cases h_10 : ((j : Nat) : Int) < ((s.length : Nat) : Int)
    · have hlt : j < s.length := by omega
      refine jS (cB (dT h_10)) <| jQ <| jB <| jC <| jZ <| jC <| kG [] 1000 mixed (by simp) <| jT 0 rfl (jF (v := .slice a s.length c) he_7) <| jT 1 rfl (jF (v := nv j) he_9) ?_
      obtain ⟨hr_11, hr_11b, -⟩ := sees_some hs_1 (by omega)
      refine jT 2 rfl (jX (i := j) kc kf hr_11 hr_11b rfl rfl (by omega)) ?_
      have hi_12 := SeesA.elem hi_2 e0 (show j < s.length by omega)
      obtain ⟨hs_13, hs_14⟩ := seesE hi_12
      refine jw 3 rfl (kF (vs := [iv ((s.getD j e0).t.seq), iv ((s.getD j e0).t.kind), iv ((s.getD j e0).t.tx), .slice ((s.getD j e0).x.a0) ((s.getD j e0).t.steps.length) ((s.getD j e0).x.c0), .slice ((s.getD j e0).x.a1) ((s.getD j e0).t.ans.length) ((s.getD j e0).x.c1), iv ((s.getD j e0).t.began), iv ((s.getD j e0).t.ended), .bool ((s.getD j e0).t.laid)]) hs_1 nM rfl Tryz.isAgg129 kf (flat_take encE_len e0 s j (by omega)) rfl (by decide)) <| jT 4 rfl (jF (v := .slice b t.length c') he_8) <| jT 5 rfl (jF (v := nv j) he_9) ?_
      obtain ⟨hr_15, hr_15b, -⟩ := sees_some hs_3 (by omega)
      refine jT 6 rfl (jX (i := j) kc kf hr_15 hr_15b rfl rfl (by omega)) ?_
      have hi_16 := SeesA.elem hi_4 e0 (show j < t.length by omega)
      obtain ⟨hs_17, hs_18⟩ := seesE hi_16
      refine jw 7 rfl (kF (vs := [iv ((t.getD j e0).t.seq), iv ((t.getD j e0).t.kind), iv ((t.getD j e0).t.tx), .slice ((t.getD j e0).x.a0) ((t.getD j e0).t.steps.length) ((t.getD j e0).x.c0), .slice ((t.getD j e0).x.a1) ((t.getD j e0).t.ans.length) ((t.getD j e0).x.c1), iv ((t.getD j e0).t.began), iv ((t.getD j e0).t.ended), .bool ((t.getD j e0).t.laid)]) hs_3 nM rfl Tryz.isAgg129 kf (flat_take encE_len e0 t j (by omega)) rfl (by decide)) <| jq (i := 8) ?_
      refine kA rfl rfl (jU [] Tryz.call101 rfl (C_eqEntry (s.getD j e0) (t.getD j e0) (hl _ (getD_mem hlt))) rfl (fun w hw => ⟨hw.seeOutA hi_12 nMA, hw.seeOutA hi_16 nMA⟩)) ?_
      rintro _ _ ⟨_, ⟨rfl, rfl⟩, rfl⟩
      refine ⟨(fun _ h => by cases h), ?_⟩
      refine jT 9 rfl (kE rfl) <| kH (by kernel_rfl) <| jB ?_
      by_cases h_19 : (s.getD j e0).t = (t.getD j e0).t
      · have heq := h_19
        refine jP (cB (cN (dT h_19))) <| jQ <| jk <| jB <| jE <| jA (jF (v := nv j) he_9) <| jA (ja (c := ((j + 1 : Nat) : Int)) rfl rfl (wr (by omega))) <| jA (jG (v := iv ((j + 1 : Nat) : Int)) rfl) <| jD ?_
        refine jl (s.length - (j + 1)) (by omega) ⟨j + 1, by omega, take_succM_eq e0 hE hlt hln heq, hln, he_7, he_8, rfl, rfl, rfl⟩
      have hne := h_19
      refine jS (cB (cN (dF h_19))) <| jC <| jE <| jA (jG (v := .bool false) rfl) <| jD <| jB <| jJ <| je <| jO <| jO ?_
      refine je <| jO <| jL (.inl rfl) rfl (jM (v := .bool false) rfl) (List.nil_sublist _) ?_
      refine ⟨?_, rfl⟩
      rw [dF (fun h => hne (getM_eq e0 h hlt hln))]
    refine jP (cB (dF h_10)) <| jn <| jb <| jb <| jo <| jB <| jC <| jE <| jA (jG (v := .bool true) rfl) <| jD ?_
    refine jB <| jJ <| jL (.inl rfl) rfl (jM (v := .bool true) rfl) (List.nil_sublist _) ?_
    refine ⟨?_, rfl⟩
    rw [dT (take_allM_eq hE (by omega) (by omega))]
  have hlen := h_5
  refine jS (cB (cN (dF h_5))) <| jC <| jE <| jA (jG (v := .bool false) rfl) <| jD <| jB <| jJ <| jO <| jL (.inl rfl) rfl (jM (v := .bool false) rfl) (List.nil_sublist _) ?_
  refine ⟨?_, rfl⟩
  rw [dF (fun h => by have h2 := congrArg List.length h; rw [List.length_map, List.length_map] at h2; omega)]

set_option maxRecDepth 4000 in
set_option maxHeartbeats 1000000 in
theorem C_markEntryS (a : Option Addr) (c : Nat) (l : List EX) (k : Nat) (h0 : 0 < k) (h1 : k + cntV cntE l ≤ 100000000) (hn : l.length ≤ 1000000000) :
    Ct Tryz.prog 47 [.slice a l.length c, .int .i64 ((k : Nat) : Int)] [Res.rows (rdsES a c l)] (fun _ => True) (fun v A' => v = .int .i64 ((k + cntV cntE l : Nat) : Int) ∧ A' = [.rows (rdsES a c (markV mkE cntE l k))]) := by
  refine Ct.intro Tryz.func47 rfl Tryz.ntmps47 (lb rfl) fun w0 hpre => ?_
  refine kP (L' := [Res.row (.slice a l.length c) 129 8 l.length (l.flatMap encE), Res.rows (l.flatMap rdsE)]) (fun w hw => hw.headR (r := ⟨.slice a l.length c, 129, 8, l.length, l.flatMap encE⟩) (A := l.flatMap rdsE) 0 rfl) <| jC <| jE <| jA (jG (v := iv 0) rfl) <| jD <| jB <| jC <| jC <| jE <| jA (jG (v := iv 0) rfl) ?_
  refine jD <| jB <| jZ <| jp (fun k_ e_ L_ => ∃ j : Nat, ∃ kk : Nat, ∃ Q : List EX, (j ≤ l.length) ∧ (kk = k + cntV cntE (l.take j)) ∧ (Q = (markV mkE cntE l k).take j) ∧ (Q.length = j) ∧ e_ 0 = .slice a l.length c ∧ e_ 1 = nv kk ∧ e_ 4 = iv 0 ∧ e_ 5 = nv j ∧ L_ = [Res.row (.slice a l.length c) 129 8 l.length ((Q ++ l.drop j).flatMap encE), Res.rows ((Q ++ l.drop j).flatMap rdsE)] ∧ k_ = l.length - j) _ ⟨0, k, [], by omega, rfl, rfl, rfl, rfl, rfl, rfl, rfl, rfl, rfl⟩ ?_
  rintro _ e_1 _ ⟨j, kk, Q, hj, hkk, hQ, hQl, he_2, he_3, he_4, he_5, rfl, rfl⟩
  refine jC <| jC <| jE <| jA (jF (v := nv j) he_5) <| jA (jF (v := .slice a l.length c) he_2) <| jA (jf kc rfl) <| jA (jc rfl rfl) <| jD <| jB ?_
  by_cases h_6 : ((j : Nat) : Int) < ((l.length : Nat) : Int)
  · have hlt : j < l.length := by omega
    have hb : cntV cntE (l.take j) + cntE (l.getD j e0) ≤ cntV cntE l := cntV_le e0 hlt
    simp only [cntE] at hb
    refine kP (L' := [Res.row (.slice ((l.getD j e0).x.a0) ((l.getD j e0).t.steps.length) ((l.getD j e0).x.c0)) 179 7 (((l.getD j e0).t.steps).length) (((l.getD j e0).t.steps).flatMap encP), Res.row (.slice ((l.getD j e0).x.a1) ((l.getD j e0).t.ans.length) ((l.getD j e0).x.c1)) 154 3 (((l.getD j e0).t.ans).length) (((l.getD j e0).t.ans).flatMap encA), Res.rows (Q.flatMap rdsE), Res.rows ((l.drop (j + 1)).flatMap rdsE), Res.row (.slice a l.length c) 129 8 l.length (mid encE Q [iv ((l.getD j e0).t.seq), iv ((l.getD j e0).t.kind), iv ((l.getD j e0).t.tx), .slice ((l.getD j e0).x.a0) ((l.getD j e0).t.steps.length) ((l.getD j e0).x.c0), .slice ((l.getD j e0).x.a1) ((l.getD j e0).t.ans.length) ((l.getD j e0).x.c1), iv ((l.getD j e0).t.began), iv ((l.getD j e0).t.ended), .bool ((l.getD j e0).t.laid)] (l.drop (j + 1)))]) (fun w hw => St.openR 1 rfl (St.splitR 1 rfl (flatMap_mid e0 hlt) (hw.midR 0 rfl e0 hlt))) <| jS (cB (dT h_6)) <| jQ <| jB <| jC <| jZ <| jC <| jE <| jA (jF (v := .slice a l.length c) he_2) <| jA (jF (v := nv j) he_5) ?_
    refine jA (jF (v := nv kk) he_3) ?_
    refine kQ fun hst => ?_
    obtain ⟨hr_7, hr_7b, -⟩ := row_some 4 rfl (by omega) hst
    refine jA (jX (i := j) kc kf hr_7 hr_7b rfl rfl (by omega)) <| jA (ji fo129_0 hr_7 rfl) ?_
    refine jH rfl (kD 4 (vs := [nv kk]) (cs' := mid encE Q [nv kk, iv ((l.getD j e0).t.kind), iv ((l.getD j e0).t.tx), .slice ((l.getD j e0).x.a0) ((l.getD j e0).t.steps.length) ((l.getD j e0).x.c0), .slice ((l.getD j e0).x.a1) ((l.getD j e0).t.ans.length) ((l.getD j e0).x.c1), iv ((l.getD j e0).t.began), iv ((l.getD j e0).t.ended), .bool ((l.getD j e0).t.laid)] (l.drop (j + 1))) rfl rfl rfl rfl kW rfl rfl (by decide) (mid_fit encE_len rfl hQl (f := 0) (lb rfl)) (mid_set encE_len rfl hQl 0 [nv kk] (lb rfl))) ?_
    rintro _ _ rfl
    refine jD <| jB <| jC <| jE <| jA (jF (v := nv kk) he_3) <| jA (ja (c := ((kk + 1 : Nat) : Int)) rfl rfl (wr (by omega))) <| jA (jG (v := iv ((kk + 1 : Nat) : Int)) rfl) <| jD <| jB <| jC ?_
    refine jE <| jA (jF (v := .slice a l.length c) he_2) <| jA (jF (v := nv j) he_5) <| jA (jF (v := iv ((kk + 1 : Nat) : Int)) rfl) <| jA (jX (i := j) kc kf hr_7 hr_7b rfl rfl (by omega)) <| jA (ji fo129_1 hr_7 rfl) ?_
    refine jH rfl (kD 4 (vs := [iv ((kk + 1 : Nat) : Int)]) (cs' := mid encE Q [nv kk, iv ((kk + 1 : Nat) : Int), iv ((l.getD j e0).t.tx), .slice ((l.getD j e0).x.a0) ((l.getD j e0).t.steps.length) ((l.getD j e0).x.c0), .slice ((l.getD j e0).x.a1) ((l.getD j e0).t.ans.length) ((l.getD j e0).x.c1), iv ((l.getD j e0).t.began), iv ((l.getD j e0).t.ended), .bool ((l.getD j e0).t.laid)] (l.drop (j + 1))) rfl rfl rfl rfl kW rfl rfl (by decide) (mid_fit encE_len rfl hQl (f := 1) (lb rfl)) (mid_set encE_len rfl hQl 1 [iv ((kk + 1 : Nat) : Int)] (lb rfl))) ?_
    rintro _ _ rfl
    refine jD <| jB <| jC <| jE <| jA (jF (v := iv ((kk + 1 : Nat) : Int)) rfl) <| jA (ja (c := (((kk + 1) + 1 : Nat) : Int)) rfl rfl (wr (by omega))) <| jA (jG (v := iv (((kk + 1) + 1 : Nat) : Int)) rfl) <| jD <| jB <| jC ?_
    refine jE <| jA (jF (v := .slice a l.length c) he_2) <| jA (jF (v := nv j) he_5) <| jA (jF (v := iv (((kk + 1) + 1 : Nat) : Int)) rfl) <| jA (jX (i := j) kc kf hr_7 hr_7b rfl rfl (by omega)) <| jA (ji fo129_2 hr_7 rfl) ?_
    refine jH rfl (kD 4 (vs := [iv (((kk + 1) + 1 : Nat) : Int)]) (cs' := mid encE Q [nv kk, iv ((kk + 1 : Nat) : Int), iv (((kk + 1) + 1 : Nat) : Int), .slice ((l.getD j e0).x.a0) ((l.getD j e0).t.steps.length) ((l.getD j e0).x.c0), .slice ((l.getD j e0).x.a1) ((l.getD j e0).t.ans.length) ((l.getD j e0).x.c1), iv ((l.getD j e0).t.began), iv ((l.getD j e0).t.ended), .bool ((l.getD j e0).t.laid)] (l.drop (j + 1))) rfl rfl rfl rfl kW rfl rfl (by decide) (mid_fit encE_len rfl hQl (f := 2) (lb rfl)) (mid_set encE_len rfl hQl 2 [iv (((kk + 1) + 1 : Nat) : Int)] (lb rfl))) ?_
    rintro _ _ rfl
    refine jD <| jB <| jC <| jE <| jA (jF (v := iv (((kk + 1) + 1 : Nat) : Int)) rfl) <| jA (ja (c := ((((kk + 1) + 1) + 1 : Nat) : Int)) rfl rfl (wr (by omega))) <| jA (jG (v := iv ((((kk + 1) + 1) + 1 : Nat) : Int)) rfl) <| jD <| jB <| jC ?_
    refine jE <| jA (jF (v := .slice a l.length c) he_2) <| jA (jF (v := nv j) he_5) <| jA (jX (i := j) kc kf hr_7 hr_7b rfl rfl (by omega)) <| jA (ji fo129_3 hr_7 rfl) <| jK (LO.loadR1 4 (v := .slice ((l.getD j e0).x.a0) ((l.getD j e0).t.steps.length) ((l.getD j e0).x.c0)) rfl rfl Tryz.isAgg127 (mid_at encE_len rfl hQl 3 (by decide))) <| jA (jF (v := iv ((((kk + 1) + 1) + 1 : Nat) : Int)) rfl) ?_
    refine jH rfl (jU [0] Tryz.call104 rfl (C_markStepS (l.getD j e0).x.a0 ((l.getD j e0).x.c0) ((l.getD j e0).t.steps) (((kk + 1) + 1) + 1) (by omega) (by omega)) rfl (fun _ _ => trivial)) ?_
    rintro _ _ ⟨_, ⟨rfl, rfl⟩, rfl⟩
    refine jA (jG (v := iv ((((kk + 1) + 1) + 1 + 7 * ((l.getD j e0).t.steps).length : Nat) : Int)) rfl) <| jD <| jB <| jC <| jE <| jA (jF (v := .slice a l.length c) he_2) <| jA (jF (v := nv j) he_5) <| jA (jX (i := j) kc kf hr_7 hr_7b rfl rfl (by omega)) <| jA (ji fo129_4 hr_7 rfl) <| jK (LO.loadR1 4 (v := .slice ((l.getD j e0).x.a1) ((l.getD j e0).t.ans.length) ((l.getD j e0).x.c1)) rfl rfl gB (mid_at encE_len rfl hQl 4 (by decide))) ?_
    refine jA (jF (v := iv ((((kk + 1) + 1) + 1 + 7 * ((l.getD j e0).t.steps).length : Nat) : Int)) rfl) ?_
    refine jH rfl (jU [1] Tryz.call71 rfl (C_markAnswerS (l.getD j e0).x.a1 ((l.getD j e0).x.c1) ((l.getD j e0).t.ans) (((kk + 1) + 1) + 1 + 7 * ((l.getD j e0).t.steps).length) (by omega) (by omega)) rfl (fun _ _ => trivial)) ?_
    rintro _ _ ⟨_, ⟨rfl, rfl⟩, rfl⟩
    refine jA (jG (v := iv ((((kk + 1) + 1) + 1 + 7 * ((l.getD j e0).t.steps).length + 3 * ((l.getD j e0).t.ans).length : Nat) : Int)) rfl) <| jD <| jB <| jC <| jE <| jA (jF (v := .slice a l.length c) he_2) <| jA (jF (v := nv j) he_5) <| jA (jF (v := iv ((((kk + 1) + 1) + 1 + 7 * ((l.getD j e0).t.steps).length + 3 * ((l.getD j e0).t.ans).length : Nat) : Int)) rfl) <| jA (jX (i := j) kc kf hr_7 hr_7b rfl rfl (by omega)) <| jA (ji fo129_5 hr_7 rfl) ?_
    refine jH rfl (kD 4 (vs := [iv ((((kk + 1) + 1) + 1 + 7 * ((l.getD j e0).t.steps).length + 3 * ((l.getD j e0).t.ans).length : Nat) : Int)]) (cs' := mid encE Q [nv kk, iv ((kk + 1 : Nat) : Int), iv (((kk + 1) + 1 : Nat) : Int), .slice ((l.getD j e0).x.a0) ((l.getD j e0).t.steps.length) ((l.getD j e0).x.c0), .slice ((l.getD j e0).x.a1) ((l.getD j e0).t.ans.length) ((l.getD j e0).x.c1), iv ((((kk + 1) + 1) + 1 + 7 * ((l.getD j e0).t.steps).length + 3 * ((l.getD j e0).t.ans).length : Nat) : Int), iv ((l.getD j e0).t.ended), .bool ((l.getD j e0).t.laid)] (l.drop (j + 1))) rfl rfl rfl rfl kW rfl rfl (by decide) (mid_fit encE_len rfl hQl (f := 5) (lb rfl)) (mid_set encE_len rfl hQl 5 [iv ((((kk + 1) + 1) + 1 + 7 * ((l.getD j e0).t.steps).length + 3 * ((l.getD j e0).t.ans).length : Nat) : Int)] (lb rfl))) ?_
    rintro _ _ rfl
    refine jD <| jB <| jC <| jE <| jA (jF (v := iv ((((kk + 1) + 1) + 1 + 7 * ((l.getD j e0).t.steps).length + 3 * ((l.getD j e0).t.ans).length : Nat) : Int)) rfl) <| jA (ja (c := (((((kk + 1) + 1) + 1 + 7 * ((l.getD j e0).t.steps).length + 3 * ((l.getD j e0).t.ans).length) + 1 : Nat) : Int)) rfl rfl (wr (by omega))) <| jA (jG (v := iv (((((kk + 1) + 1) + 1 + 7 * ((l.getD j e0).t.steps).length + 3 * ((l.getD j e0).t.ans).length) + 1 : Nat) : Int)) rfl) <| jD <| jB <| jC ?_
    refine jE <| jA (jF (v := .slice a l.length c) he_2) <| jA (jF (v := nv j) he_5) <| jA (jF (v := iv (((((kk + 1) + 1) + 1 + 7 * ((l.getD j e0).t.steps).length + 3 * ((l.getD j e0).t.ans).length) + 1 : Nat) : Int)) rfl) <| jA (jX (i := j) kc kf hr_7 hr_7b rfl rfl (by omega)) <| jA (ji fo129_6 hr_7 rfl) ?_
    refine jH rfl (kD 4 (vs := [iv (((((kk + 1) + 1) + 1 + 7 * ((l.getD j e0).t.steps).length + 3 * ((l.getD j e0).t.ans).length) + 1 : Nat) : Int)]) (cs' := mid encE Q [nv kk, iv ((kk + 1 : Nat) : Int), iv (((kk + 1) + 1 : Nat) : Int), .slice ((l.getD j e0).x.a0) ((l.getD j e0).t.steps.length) ((l.getD j e0).x.c0), .slice ((l.getD j e0).x.a1) ((l.getD j e0).t.ans.length) ((l.getD j e0).x.c1), iv ((((kk + 1) + 1) + 1 + 7 * ((l.getD j e0).t.steps).length + 3 * ((l.getD j e0).t.ans).length : Nat) : Int), iv (((((kk + 1) + 1) + 1 + 7 * ((l.getD j e0).t.steps).length + 3 * ((l.getD j e0).t.ans).length) + 1 : Nat) : Int), .bool ((l.getD j e0).t.laid)] (l.drop (j + 1))) rfl rfl rfl rfl kW rfl rfl (by decide) (mid_fit encE_len rfl hQl (f := 6) (lb rfl)) (mid_set encE_len rfl hQl 6 [iv (((((kk + 1) + 1) + 1 + 7 * ((l.getD j e0).t.steps).length + 3 * ((l.getD j e0).t.ans).length) + 1 : Nat) : Int)] (lb rfl))) ?_
    rintro _ _ rfl
    refine jD <| jB <| jC <| jE <| jA (jF (v := iv (((((kk + 1) + 1) + 1 + 7 * ((l.getD j e0).t.steps).length + 3 * ((l.getD j e0).t.ans).length) + 1 : Nat) : Int)) rfl) <| jA (ja (c := ((((((kk + 1) + 1) + 1 + 7 * ((l.getD j e0).t.steps).length + 3 * ((l.getD j e0).t.ans).length) + 1) + 1 : Nat) : Int)) rfl rfl (wr (by omega))) <| jA (jG (v := iv ((((((kk + 1) + 1) + 1 + 7 * ((l.getD j e0).t.steps).length + 3 * ((l.getD j e0).t.ans).length) + 1) + 1 : Nat) : Int)) rfl) <| jD <| jB <| jC ?_
    refine jE <| jA (jF (v := .slice a l.length c) he_2) <| jA (jF (v := nv j) he_5) <| jA (jF (v := iv ((((((kk + 1) + 1) + 1 + 7 * ((l.getD j e0).t.steps).length + 3 * ((l.getD j e0).t.ans).length) + 1) + 1 : Nat) : Int)) rfl) <| jA (PO.remN (c := (((((((kk + 1) + 1) + 1 + 7 * ((l.getD j e0).t.steps).length + 3 * ((l.getD j e0).t.ans).length) + 1) + 1) % 3 : Nat) : Int)) rfl rfl (by omega) (by omega) (by omega)) <| jA (PO.eqlI rfl rfl) <| jA (jX (i := j) kc kf hr_7 hr_7b rfl rfl (by omega)) <| jA (ji fo129_7 hr_7 rfl) ?_
    refine jH rfl (kD 4 (vs := [.bool (decide ((((((((kk + 1) + 1) + 1 + 7 * ((l.getD j e0).t.steps).length + 3 * ((l.getD j e0).t.ans).length) + 1) + 1) % 3 : Nat) : Int) = 0))]) (cs' := mid encE Q [nv kk, iv ((kk + 1 : Nat) : Int), iv (((kk + 1) + 1 : Nat) : Int), .slice ((l.getD j e0).x.a0) ((l.getD j e0).t.steps.length) ((l.getD j e0).x.c0), .slice ((l.getD j e0).x.a1) ((l.getD j e0).t.ans.length) ((l.getD j e0).x.c1), iv ((((kk + 1) + 1) + 1 + 7 * ((l.getD j e0).t.steps).length + 3 * ((l.getD j e0).t.ans).length : Nat) : Int), iv (((((kk + 1) + 1) + 1 + 7 * ((l.getD j e0).t.steps).length + 3 * ((l.getD j e0).t.ans).length) + 1 : Nat) : Int), .bool (decide ((((((((kk + 1) + 1) + 1 + 7 * ((l.getD j e0).t.steps).length + 3 * ((l.getD j e0).t.ans).length) + 1) + 1) % 3 : Nat) : Int) = 0))] (l.drop (j + 1))) rfl rfl rfl rfl Tryz.sizeOf4 rfl rfl (by decide) (mid_fit encE_len rfl hQl (f := 7) (lb rfl)) (mid_set encE_len rfl hQl 7 [.bool (decide ((((((((kk + 1) + 1) + 1 + 7 * ((l.getD j e0).t.steps).length + 3 * ((l.getD j e0).t.ans).length) + 1) + 1) % 3 : Nat) : Int) = 0))] (lb rfl))) ?_
    rintro _ _ rfl
    refine jD <| jB <| jE <| jA (jF (v := iv ((((((kk + 1) + 1) + 1 + 7 * ((l.getD j e0).t.steps).length + 3 * ((l.getD j e0).t.ans).length) + 1) + 1 : Nat) : Int)) rfl) <| jA (ja (c := (((((((kk + 1) + 1) + 1 + 7 * ((l.getD j e0).t.steps).length + 3 * ((l.getD j e0).t.ans).length) + 1) + 1) + 1 : Nat) : Int)) rfl rfl (wr (by omega))) <| jA (jG (v := iv (((((((kk + 1) + 1) + 1 + 7 * ((l.getD j e0).t.steps).length + 3 * ((l.getD j e0).t.ans).length) + 1) + 1) + 1 : Nat) : Int)) rfl) <| jD <| jk <| jB <| jE ?_
    refine jA (jF (v := nv j) he_5) <| jA (ja (c := ((j + 1 : Nat) : Int)) rfl rfl (wr (by omega))) <| jA (jG (v := iv ((j + 1 : Nat) : Int)) rfl) <| jD <| jv (L' := [Res.rows (((Q ++ [mkE (l.getD j e0) kk]) ++ l.drop (j + 1)).flatMap rdsE), Res.row (.slice a l.length c) 129 8 l.length (((Q ++ [mkE (l.getD j e0) kk]) ++ l.drop (j + 1)).flatMap encE)]) (fun w hw => St.joinR [2, 0, 1] rfl (by rw [flatMap_mid2, rdsE_mk]) (St.closeR (A := ([⟨.slice ((l.getD j e0).x.a0) ((l.getD j e0).t.steps.length) ((l.getD j e0).x.c0), 179, 7, ((l.getD j e0).t.steps).length, (markG mkP 7 ((l.getD j e0).t.steps) (((kk + 1) + 1) + 1)).flatMap encP⟩, ⟨.slice ((l.getD j e0).x.a1) ((l.getD j e0).t.ans.length) ((l.getD j e0).x.c1), 154, 3, ((l.getD j e0).t.ans).length, (markG mkA 3 ((l.getD j e0).t.ans) (((kk + 1) + 1) + 1 + 7 * ((l.getD j e0).t.steps).length)).flatMap encA⟩] : List RD)) [2, 1] rfl (hw.unmid 4 rfl (q := mkE (l.getD j e0) kk) (encE_mk _ _)))) <| kL [1, 0] (A := [Res.row (.slice a l.length c) 129 8 l.length (((Q ++ [mkE (l.getD j e0) kk]) ++ l.drop (j + 1)).flatMap encE), Res.rows (((Q ++ [mkE (l.getD j e0) kk]) ++ l.drop (j + 1)).flatMap rdsE)]) rfl ?_
    refine jl (l.length - (j + 1)) (by omega) ⟨j + 1, (((((kk + 1) + 1) + 1 + 7 * ((l.getD j e0).t.steps).length + 3 * ((l.getD j e0).t.ans).length) + 1) + 1) + 1, (Q ++ [mkE (l.getD j e0) kk]), by omega, (by rw [cntV_step e0 hlt]; simp only [cntE]; omega), (by rw [markV_step e0 hlt, ← hQ, ← hkk]), (by rw [List.length_append, hQl]; rfl), he_2, rfl, he_4, rfl, rfl, rfl⟩
  refine jP (cB (dF h_6)) <| jn <| jb <| jb <| jo <| jB <| jC <| jE <| jA (jF (v := nv kk) he_3) <| jA (jG (v := nv kk) rfl) ?_
  refine jD <| jB <| jJ ?_
  have hz : Q ++ l.drop j = markV mkE cntE l k := by rw [hQ, List.drop_of_length_le (by omega), List.append_nil, markV_all (by omega)]
  refine jv (L' := [Res.row (.slice a ((markV mkE cntE l k).length) c) 129 8 ((markV mkE cntE l k).length) ((markV mkE cntE l k).flatMap encE), Res.rows ((markV mkE cntE l k).flatMap rdsE)]) (fun w hw => hw.eqL (by rw [hz, markV_len])) <| jv (L' := [Res.rows (rdsES a c (markV mkE cntE l k))]) (fun w hw => hw.consR (r := ⟨.slice a ((markV mkE cntE l k).length) c, 129, 8, (markV mkE cntE l k).length, (markV mkE cntE l k).flatMap encE⟩) (A := (markV mkE cntE l k).flatMap rdsE) [0, 0] rfl) <| jL (.inl rfl) rfl (jM (v := nv kk) rfl) (List.Sublist.refl _) ?_
  exact ⟨by rw [hkk, cntV_all (by omega)], rfl⟩

set_option maxRecDepth 4000 in
set_option maxHeartbeats 1000000 in
theorem C_heldEntryS (a : Option Addr) (c : Nat) (l : List EX) (k : Nat) (h0 : 0 < k) (h1 : k + cntV cntE l ≤ 100000000) (hn : l.length ≤ 1000000000) :
    Ct Tryz.prog 52 [.slice a l.length c, .int .i64 ((k : Nat) : Int)] [] (fun w => SeesA w (rdsES a c (markV mkE cntE l k))) (fun v A' => v = .int .i64 ((k + cntV cntE l : Nat) : Int) ∧ A' = []) := by
  refine Ct.intro Tryz.func52 rfl Tryz.ntmps52 (lb rfl) fun w0 hpre => ?_
  have hs : Sees w0 (.slice a l.length c) 8 l.length ((markV mkE cntE l k).flatMap encE) := by have h := hpre.head; simpa only [RD.sees, markV_len] using h
  have hi : SeesA w0 ((markV mkE cntE l k).flatMap rdsE) := hpre.tail
  refine jC <| jE <| jA (jG (v := iv 0) rfl) <| jD <| jB <| jC <| jC <| jE <| jA (jG (v := iv 0) rfl) <| jD ?_
  refine jB <| jZ <| jp (fun k_ e_ L_ => ∃ j : Nat, ∃ kk : Nat, (j ≤ l.length) ∧ (kk = k + cntV cntE (l.take j)) ∧ e_ 0 = .slice a l.length c ∧ e_ 1 = nv kk ∧ e_ 5 = nv j ∧ L_ = [] ∧ k_ = l.length - j) _ ⟨0, k, by omega, rfl, rfl, rfl, rfl, rfl, rfl⟩ ?_
  rintro _ e_1 _ ⟨j, kk, hj, hkk, he_2, he_3, he_4, rfl, rfl⟩
  refine jC <| jC <| jE <| jA (jF (v := nv j) he_4) <| jA (jF (v := .slice a l.length c) he_2) <| jA (jf kc rfl) <| jA (jc rfl rfl) <| jD <| jB ?_
  by_cases h_5 : ((j : Nat) : Int) < ((l.length : Nat) : Int)
  · have hlt : j < l.length := by omega
    have hb : cntV cntE (l.take j) + cntE (l.getD j e0) ≤ cntV cntE l := cntV_le e0 hlt
    simp only [cntE] at hb
    have hget : (markV mkE cntE l k).getD j e0 = mkE (l.getD j e0) kk := by rw [markV_get e0 l k j hlt, ← hkk]
    have hin := SeesA.elem hi e0 (show j < (markV mkE cntE l k).length by rw [markV_len]; exact hlt)
    rw [hget] at hin
    obtain ⟨hs_6, hs_7⟩ := seesE_mk' hin
    refine jS (cB (dT h_5)) <| jQ <| jB <| jC <| jZ <| jC <| jC <| jE <| jA (jF (v := .slice a l.length c) he_2) <| jA (jF (v := nv j) he_4) ?_
    obtain ⟨hr_8, hr_8b, -⟩ := sees_some hs (by omega)
    refine jA (jX (i := j) kc kf hr_8 hr_8b rfl rfl (by omega)) <| jA (ji fo129_0 hr_8 rfl) <| jK (ju (v := nv kk) hs nM rfl kR (flat_atE encE_len e0 (markV mkE cntE l k) j 0 (by rw [markV_len]; exact hlt) (by decide) hget (encE_mk _ _))) <| jA (jF (v := nv kk) he_3) <| jA (jz rfl rfl) <| jD <| jB <| jP (cB (cN (dT rfl))) <| jQ <| jB ?_
    refine jC <| jE <| jA (jF (v := nv kk) he_3) <| jA (ja (c := ((kk + 1 : Nat) : Int)) rfl rfl (wr (by omega))) <| jA (jG (v := iv ((kk + 1 : Nat) : Int)) rfl) <| jD <| jB <| jC <| jC <| jE ?_
    refine jA (jF (v := .slice a l.length c) he_2) <| jA (jF (v := nv j) he_4) <| jA (jX (i := j) kc kf hr_8 hr_8b rfl rfl (by omega)) <| jA (ji fo129_1 hr_8 rfl) <| jK (ju (v := iv ((kk + 1 : Nat) : Int)) hs nM rfl kR (flat_atE encE_len e0 (markV mkE cntE l k) j 1 (by rw [markV_len]; exact hlt) (by decide) hget (encE_mk _ _))) <| jA (jF (v := iv ((kk + 1 : Nat) : Int)) rfl) <| jA (jz rfl rfl) <| jD <| jB <| jP (cB (cN (dT rfl))) ?_
    refine jQ <| jB <| jC <| jE <| jA (jF (v := iv ((kk + 1 : Nat) : Int)) rfl) <| jA (ja (c := (((kk + 1) + 1 : Nat) : Int)) rfl rfl (wr (by omega))) <| jA (jG (v := iv (((kk + 1) + 1 : Nat) : Int)) rfl) <| jD <| jB <| jC ?_
    refine jC <| jE <| jA (jF (v := .slice a l.length c) he_2) <| jA (jF (v := nv j) he_4) <| jA (jX (i := j) kc kf hr_8 hr_8b rfl rfl (by omega)) <| jA (ji fo129_2 hr_8 rfl) <| jK (ju (v := iv (((kk + 1) + 1 : Nat) : Int)) hs nM rfl kR (flat_atE encE_len e0 (markV mkE cntE l k) j 2 (by rw [markV_len]; exact hlt) (by decide) hget (encE_mk _ _))) <| jA (jF (v := iv (((kk + 1) + 1 : Nat) : Int)) rfl) <| jA (jz rfl rfl) <| jD ?_
    refine jB <| jP (cB (cN (dT rfl))) <| jQ <| jB <| jC <| jE <| jA (jF (v := iv (((kk + 1) + 1 : Nat) : Int)) rfl) <| jA (ja (c := ((((kk + 1) + 1) + 1 : Nat) : Int)) rfl rfl (wr (by omega))) <| jA (jG (v := iv ((((kk + 1) + 1) + 1 : Nat) : Int)) rfl) <| jD ?_
    refine jB <| jC <| jE <| jA (jF (v := .slice a l.length c) he_2) <| jA (jF (v := nv j) he_4) <| jA (jX (i := j) kc kf hr_8 hr_8b rfl rfl (by omega)) <| jA (ji fo129_3 hr_8 rfl) <| jK (ju (v := .slice ((l.getD j e0).x.a0) ((l.getD j e0).t.steps.length) ((l.getD j e0).x.c0)) hs nM rfl Tryz.isAgg127 (flat_atE encE_len e0 (markV mkE cntE l k) j 3 (by rw [markV_len]; exact hlt) (by decide) hget (encE_mk _ _))) <| jA (jF (v := iv ((((kk + 1) + 1) + 1 : Nat) : Int)) rfl) ?_
    refine jH rfl (jU [] Tryz.call109 rfl (C_heldStepS (l.getD j e0).x.a0 ((l.getD j e0).x.c0) ((l.getD j e0).t.steps) (((kk + 1) + 1) + 1) (by omega) (by omega)) rfl (fun w hw => hw.seeOut_ hs_6 nM)) ?_
    rintro _ _ ⟨_, ⟨rfl, rfl⟩, rfl⟩
    refine jA (jG (v := iv ((((kk + 1) + 1) + 1 + 7 * ((l.getD j e0).t.steps).length : Nat) : Int)) rfl) <| jD <| jB <| jC <| jC <| jE <| jA (jF (v := iv ((((kk + 1) + 1) + 1 + 7 * ((l.getD j e0).t.steps).length : Nat) : Int)) rfl) <| jA (jc rfl rfl) <| jD <| jB ?_
    by_cases h_9 : ((((kk + 1) + 1) + 1 + 7 * ((l.getD j e0).t.steps).length : Nat) : Int) < 0
    · refine jS (cB (dT h_9)) <| jC <| jE <| jA (jG (v := iv (-1)) rfl) <| jD <| jB <| jJ <| jO <| je <| jO ?_
      refine jO <| je <| jO <| jL (.inl rfl) rfl (jM (v := iv (-1)) rfl) (List.nil_sublist _) ?_
      exfalso
      omega
    refine jP (cB (dF h_9)) <| jQ <| jB <| jC <| jE <| jA (jF (v := .slice a l.length c) he_2) <| jA (jF (v := nv j) he_4) <| jA (jX (i := j) kc kf hr_8 hr_8b rfl rfl (by omega)) <| jA (ji fo129_4 hr_8 rfl) <| jK (ju (v := .slice ((l.getD j e0).x.a1) ((l.getD j e0).t.ans.length) ((l.getD j e0).x.c1)) hs nM rfl gB (flat_atE encE_len e0 (markV mkE cntE l k) j 4 (by rw [markV_len]; exact hlt) (by decide) hget (encE_mk _ _))) ?_
    refine jA (jF (v := iv ((((kk + 1) + 1) + 1 + 7 * ((l.getD j e0).t.steps).length : Nat) : Int)) rfl) ?_
    refine jH rfl (jU [] Tryz.call106 rfl (C_heldAnswerS (l.getD j e0).x.a1 ((l.getD j e0).x.c1) ((l.getD j e0).t.ans) (((kk + 1) + 1) + 1 + 7 * ((l.getD j e0).t.steps).length) (by omega) (by omega)) rfl (fun w hw => hw.seeOut_ hs_7 nM)) ?_
    rintro _ _ ⟨_, ⟨rfl, rfl⟩, rfl⟩
    refine jA (jG (v := iv ((((kk + 1) + 1) + 1 + 7 * ((l.getD j e0).t.steps).length + 3 * ((l.getD j e0).t.ans).length : Nat) : Int)) rfl) <| jD <| jB <| jC <| jC <| jE <| jA (jF (v := iv ((((kk + 1) + 1) + 1 + 7 * ((l.getD j e0).t.steps).length + 3 * ((l.getD j e0).t.ans).length : Nat) : Int)) rfl) <| jA (jc rfl rfl) <| jD <| jB ?_
    by_cases h_10 : ((((kk + 1) + 1) + 1 + 7 * ((l.getD j e0).t.steps).length + 3 * ((l.getD j e0).t.ans).length : Nat) : Int) < 0
    · refine jS (cB (dT h_10)) <| jC <| jE <| jA (jG (v := iv (-1)) rfl) <| jD <| jB <| jJ <| jO <| je <| jO ?_
      refine jO <| je <| jO <| jL (.inl rfl) rfl (jM (v := iv (-1)) rfl) (List.nil_sublist _) ?_
      exfalso
      omega
    refine jP (cB (dF h_10)) <| jQ <| jB <| jC <| jC <| jE <| jA (jF (v := .slice a l.length c) he_2) <| jA (jF (v := nv j) he_4) <| jA (jX (i := j) kc kf hr_8 hr_8b rfl rfl (by omega)) <| jA (ji fo129_5 hr_8 rfl) ?_
    refine jK (ju (v := iv ((((kk + 1) + 1) + 1 + 7 * ((l.getD j e0).t.steps).length + 3 * ((l.getD j e0).t.ans).length : Nat) : Int)) hs nM rfl kR (flat_atE encE_len e0 (markV mkE cntE l k) j 5 (by rw [markV_len]; exact hlt) (by decide) hget (encE_mk _ _))) <| jA (jF (v := iv ((((kk + 1) + 1) + 1 + 7 * ((l.getD j e0).t.steps).length + 3 * ((l.getD j e0).t.ans).length : Nat) : Int)) rfl) <| jA (jz rfl rfl) <| jD <| jB <| jP (cB (cN (dT rfl))) <| jQ <| jB <| jC <| jE ?_
    refine jA (jF (v := iv ((((kk + 1) + 1) + 1 + 7 * ((l.getD j e0).t.steps).length + 3 * ((l.getD j e0).t.ans).length : Nat) : Int)) rfl) <| jA (ja (c := (((((kk + 1) + 1) + 1 + 7 * ((l.getD j e0).t.steps).length + 3 * ((l.getD j e0).t.ans).length) + 1 : Nat) : Int)) rfl rfl (wr (by omega))) <| jA (jG (v := iv (((((kk + 1) + 1) + 1 + 7 * ((l.getD j e0).t.steps).length + 3 * ((l.getD j e0).t.ans).length) + 1 : Nat) : Int)) rfl) <| jD <| jB <| jC <| jC <| jE <| jA (jF (v := .slice a l.length c) he_2) <| jA (jF (v := nv j) he_4) ?_
    refine jA (jX (i := j) kc kf hr_8 hr_8b rfl rfl (by omega)) <| jA (ji fo129_6 hr_8 rfl) <| jK (ju (v := iv (((((kk + 1) + 1) + 1 + 7 * ((l.getD j e0).t.steps).length + 3 * ((l.getD j e0).t.ans).length) + 1 : Nat) : Int)) hs nM rfl kR (flat_atE encE_len e0 (markV mkE cntE l k) j 6 (by rw [markV_len]; exact hlt) (by decide) hget (encE_mk _ _))) <| jA (jF (v := iv (((((kk + 1) + 1) + 1 + 7 * ((l.getD j e0).t.steps).length + 3 * ((l.getD j e0).t.ans).length) + 1 : Nat) : Int)) rfl) <| jA (jz rfl rfl) <| jD <| jB <| jP (cB (cN (dT rfl))) <| jQ <| jB ?_
    refine jC <| jE <| jA (jF (v := iv (((((kk + 1) + 1) + 1 + 7 * ((l.getD j e0).t.steps).length + 3 * ((l.getD j e0).t.ans).length) + 1 : Nat) : Int)) rfl) <| jA (ja (c := ((((((kk + 1) + 1) + 1 + 7 * ((l.getD j e0).t.steps).length + 3 * ((l.getD j e0).t.ans).length) + 1) + 1 : Nat) : Int)) rfl rfl (wr (by omega))) <| jA (jG (v := iv ((((((kk + 1) + 1) + 1 + 7 * ((l.getD j e0).t.steps).length + 3 * ((l.getD j e0).t.ans).length) + 1) + 1 : Nat) : Int)) rfl) <| jD <| jB <| jC <| jC <| jE ?_
    refine jA (jF (v := .slice a l.length c) he_2) <| jA (jF (v := nv j) he_4) <| jA (jX (i := j) kc kf hr_8 hr_8b rfl rfl (by omega)) <| jA (ji fo129_7 hr_8 rfl) <| jK (ju (v := .bool (decide ((((((((kk + 1) + 1) + 1 + 7 * ((l.getD j e0).t.steps).length + 3 * ((l.getD j e0).t.ans).length) + 1) + 1) % 3 : Nat) : Int) = 0))) hs nM rfl ky (flat_atE encE_len e0 (markV mkE cntE l k) j 7 (by rw [markV_len]; exact hlt) (by decide) hget (encE_mk _ _))) <| jA (jF (v := iv ((((((kk + 1) + 1) + 1 + 7 * ((l.getD j e0).t.steps).length + 3 * ((l.getD j e0).t.ans).length) + 1) + 1 : Nat) : Int)) rfl) <| jA (PO.remN (c := (((((((kk + 1) + 1) + 1 + 7 * ((l.getD j e0).t.steps).length + 3 * ((l.getD j e0).t.ans).length) + 1) + 1) % 3 : Nat) : Int)) rfl rfl (by omega) (by omega) (by omega)) <| jA (PO.eqlI rfl rfl) <| jA (PO.neqB Tryz.underlying4 rfl rfl) <| jD ?_
    refine jB <| jP (cB (cN (dT rfl))) <| jQ <| jB <| jE <| jA (jF (v := iv ((((((kk + 1) + 1) + 1 + 7 * ((l.getD j e0).t.steps).length + 3 * ((l.getD j e0).t.ans).length) + 1) + 1 : Nat) : Int)) rfl) <| jA (ja (c := (((((((kk + 1) + 1) + 1 + 7 * ((l.getD j e0).t.steps).length + 3 * ((l.getD j e0).t.ans).length) + 1) + 1) + 1 : Nat) : Int)) rfl rfl (wr (by omega))) <| jA (jG (v := iv (((((((kk + 1) + 1) + 1 + 7 * ((l.getD j e0).t.steps).length + 3 * ((l.getD j e0).t.ans).length) + 1) + 1) + 1 : Nat) : Int)) rfl) <| jD <| jk ?_
    refine jB <| jE <| jA (jF (v := nv j) he_4) <| jA (ja (c := ((j + 1 : Nat) : Int)) rfl rfl (wr (by omega))) <| jA (jG (v := iv ((j + 1 : Nat) : Int)) rfl) <| jD ?_
    refine jl (l.length - (j + 1)) (by omega) ⟨j + 1, (((((kk + 1) + 1) + 1 + 7 * ((l.getD j e0).t.steps).length + 3 * ((l.getD j e0).t.ans).length) + 1) + 1) + 1, by omega, (by rw [cntV_step e0 hlt]; simp only [cntE]; omega), he_2, rfl, rfl, rfl, rfl⟩
  refine jP (cB (dF h_5)) <| jn <| jb <| jb <| jo <| jB <| jC <| jE <| jA (jF (v := nv kk) he_3) <| jA (jG (v := nv kk) rfl) ?_
  refine jD <| jB <| jJ <| jL (.inl rfl) rfl (jM (v := nv kk) rfl) (List.nil_sublist _) ?_
  exact ⟨by rw [hkk, cntV_all (by omega)], rfl⟩

theorem C_szJournal (t : Str) (s : Int) (l : Int) (h0 : 0 ≤ l) (h1 : l ≤ 1048576) (ht : t.length ≤ 9223372036854775807) :
    Ct Tryz.prog 84 [.agg #[str t, .int .i64 s], .int .i64 l] [] (fun _ => True) (fun r A' => r = .int .i64 (szJournalF t l) ∧ A' = []) := by
  refine Ct.intro Tryz.func84 rfl Tryz.ntmps84 (lb rfl) fun w0 hpre => ?_
  refine jC <| jE ?_
  refine jH rfl (jm (cs := [str t, iv s]) rfl rfl) ?_
  rintro _ _ ⟨b_1, rfl, rfl⟩
  refine jA (jG (v := iv 0) rfl) <| jD <| jB <| jC <| jE <| jA (jF (v := iv l) rfl) <| jA (jI fo26_0 rfl) <| jK (jR 0 (v := str t) rfl rfl kT rfl) <| jA (PO.lenS kl rfl) <| jA (kM (c := l - (t.length : Int)) rfl rfl (wr (by omega))) ?_
  refine jA (jG (v := iv (l - (t.length : Int))) rfl) <| jD <| jB <| jC <| jC <| jE <| jA (jF (v := iv (l - (t.length : Int))) rfl) <| jA (jc rfl rfl) <| jD <| jB ?_
  by_cases h_2 : (l - (t.length : Int)) < 0
  · refine jS (cB (dT h_2)) <| jC <| jE <| jA (jG (v := iv (-1)) rfl) <| jD <| jB <| jJ <| jO <| jL (.inl rfl) rfl (jM (v := iv (-1)) rfl) (List.nil_sublist _) ?_
    refine ⟨congrArg (Value.int .i64) ?_, rfl⟩
    simp only [szJournalF, chk, id_eq]
    (repeat (first | rw [if_pos (by omega)] | rw [if_neg (by omega)]))
  refine jP (cB (dF h_2)) <| jQ <| jB <| jC <| jE <| jA (jF (v := iv (l - (t.length : Int))) rfl) <| jA (jG (v := iv (l - (t.length : Int))) rfl) <| jD <| jB <| jJ ?_
  refine jL (.inl rfl) rfl (jM (v := iv (l - (t.length : Int))) rfl) (List.nil_sublist _) ?_
  refine ⟨congrArg (Value.int .i64) ?_, rfl⟩
  simp only [szJournalF, chk, id_eq]
  (repeat (first | rw [if_pos (by omega)] | rw [if_neg (by omega)]))

theorem C_toJournal (t : Str) (s : Int) :
    Ct Tryz.prog 91 [.agg #[str t, .int .i64 s]] [] (fun _ => True) (fun v A' => v = .agg #[str t, .int .i64 s] ∧ A' = []) := by
  refine Ct.intro Tryz.func91 rfl Tryz.ntmps91 (lb rfl) fun w0 hpre => ?_
  refine jC <| jE ?_
  refine jH rfl (jm (cs := [str t, iv s]) rfl rfl) ?_
  rintro _ _ ⟨b_1, rfl, rfl⟩
  refine jH rfl (kB (z := .agg #[str [], iv 0]) (cs := [str [], iv 0]) Tryz.zeroValue37 rfl) ?_
  rintro _ _ ⟨b_2, rfl, rfl⟩
  refine jD <| jB <| jC <| jE ?_
  refine jH rfl (kB (z := .agg #[str [], iv 0]) (cs := [str [], iv 0]) Tryz.zeroValue37 rfl) ?_
  rintro _ _ ⟨b_3, rfl, rfl⟩
  refine jD <| jB <| jC <| jE <| jA (jI fo26_0 rfl) <| jK (jR 2 (v := str t) rfl rfl kT rfl) <| jA (jI fo37_0 rfl) ?_
  refine jH rfl (jd 0 (vs := [str t]) (cs' := [str t, iv 0]) rfl rfl rfl rfl kZ rfl rfl (lb rfl) rfl) ?_
  rintro _ _ rfl
  refine jD <| jB <| jC <| jE <| jA (jI fo26_1 rfl) <| jK (jR 2 (v := iv s) rfl rfl kR rfl) <| jA (jI fo37_1 rfl) ?_
  refine jH rfl (jd 0 (vs := [iv s]) (cs' := [str t, iv s]) rfl rfl rfl rfl kW rfl rfl (lb rfl) rfl) ?_
  rintro _ _ rfl
  refine jD <| jB <| jC <| jE <| jK (jg 0 (vs := [str t, iv s]) rfl rfl Tryz.isAgg37 Tryz.sizeOf37 rfl rfl) ?_
  refine jH rfl (jd 1 (vs := [str t, iv s]) (cs' := [str t, iv s]) rfl rfl rfl rfl Tryz.sizeOf37 rfl rfl (lb rfl) rfl) ?_
  rintro _ _ rfl
  refine jD <| jB <| jJ <| jL (.inl rfl) rfl (kI (jg 1 (vs := [str t, iv s]) rfl rfl Tryz.isAgg37 Tryz.sizeOf37 rfl rfl) ⟨_, rfl⟩) (List.nil_sublist _) ?_
  exact ⟨rfl, rfl⟩

theorem C_eqJournal (t : Str) (s : Int) (u : Str) (r : Int) :
    Ct Tryz.prog 100 [.agg #[str t, .int .i64 s], .agg #[str u, .int .i64 r]] [] (fun _ => True) (fun v A' => v = .bool (decide (t = u ∧ s = r)) ∧ A' = []) := by
  refine Ct.intro Tryz.func100 rfl Tryz.ntmps100 (lb rfl) fun w0 hpre => ?_
  refine jC <| jE ?_
  refine jH rfl (jm (cs := [str t, iv s]) rfl rfl) ?_
  rintro _ _ ⟨b_1, rfl, rfl⟩
  refine jH rfl (jm (cs := [str u, iv r]) rfl rfl) ?_
  rintro _ _ ⟨b_2, rfl, rfl⟩
  refine jA (jG (v := .bool false) rfl) <| jD <| jB <| jC <| jC <| jE <| jA (jI fo37_0 rfl) <| jK (jR 1 (v := str t) rfl rfl kT rfl) <| jA (jI fo37_0 rfl) <| jK (jR 0 (v := str u) rfl rfl kT rfl) ?_
  refine jA (PO.neqS rfl rfl) <| jD <| jB ?_
  by_cases h_3 : t = u
  · refine jP (cB (cN (dT h_3))) <| jQ <| jB <| jC <| jC <| jE <| jA (jI fo37_1 rfl) <| jK (jR 1 (v := iv s) rfl rfl kR rfl) <| jA (jI fo37_1 rfl) <| jK (jR 0 (v := iv r) rfl rfl kR rfl) ?_
    refine jA (jz rfl rfl) <| jD <| jB ?_
    by_cases h_4 : s = r
    · refine jP (cB (cN (dT h_4))) <| jQ <| jB <| jC <| jE <| jA (jG (v := .bool true) rfl) <| jD <| jB <| jJ <| jL (.inl rfl) rfl (jM (v := .bool true) rfl) (List.nil_sublist _) ?_
      exact ⟨cB (dT ⟨by assumption, by assumption⟩).symm, rfl⟩
    refine jS (cB (cN (dF h_4))) <| jC <| jE <| jA (jG (v := .bool false) rfl) <| jD <| jB <| jJ <| jO <| jL (.inl rfl) rfl (jM (v := .bool false) rfl) (List.nil_sublist _) ?_
    exact ⟨cB (dF (fun h_ => by obtain ⟨h_0, h_1⟩ := h_; contradiction)).symm, rfl⟩
  refine jS (cB (cN (dF h_3))) <| jC <| jE <| jA (jG (v := .bool false) rfl) <| jD <| jB <| jJ <| jO <| jL (.inl rfl) rfl (jM (v := .bool false) rfl) (List.nil_sublist _) ?_
  exact ⟨cB (dF (fun h_ => by obtain ⟨h_0, h_1⟩ := h_; contradiction)).symm, rfl⟩

theorem C_szDisk (d : DX) (l : Int) (h0 : 0 ≤ l) (h1 : l ≤ 1048576) (hz : d.dat.okz) :
    Ct Tryz.prog 29 [.agg #[.slice d.a d.l.length d.c, str d.jt, .int .i64 d.js], .int .i64 l] [] (fun w => SeesAE w (rdsD d)) (fun r A' => r = .int .i64 (szDiskF d.dat l) ∧ A' = []) := by
  refine Ct.intro Tryz.func29 rfl Tryz.ntmps29 (lb rfl) fun w0 hpre => ?_
  have hs_1 : SeesE w0 (.slice d.a d.l.length d.c) 3 d.l.length (d.l.flatMap encO) := (hpre).head
  have hi_2 : SeesAE w0 (d.l.flatMap rdsO) := (hpre).tail
  have hz0 : d.l.length ≤ 9223372036854775807 := by have := hz.k0; simpa only [DX.dat, List.length_map] using this
  have hz1 : ∀ j, j < d.l.length → (d.l.getD j o0).t.okz := fun j hj => hz.k1 _ (List.mem_map_of_mem (getD_mem hj))
  refine jC <| jE ?_
  refine jH rfl (jm (cs := [.slice d.a d.l.length d.c, str d.jt, iv d.js]) rfl rfl) ?_
  rintro _ _ ⟨b_3, rfl, rfl⟩
  refine jA (jG (v := iv 0) rfl) <| jD <| jB <| jC <| jE <| jA (jI fo28_0 rfl) <| jK (jR 0 (v := .slice d.a d.l.length d.c) rfl rfl Tryz.isAgg24 rfl) <| jA (jF (v := iv l) rfl) ?_
  refine jH rfl (jU [] Tryz.call83 rfl (C_szSlotS d.a d.c d.l l (by omega) (by omega) hz0 hz1) rfl (fun w hw => SeesAE.cons (hw.seeOutE hs_1 nM) (hw.seeOutAE hi_2 nMA))) ?_
  rintro _ _ ⟨_, ⟨rfl, rfl⟩, rfl⟩
  have hle_4 := szLS_le szSlotF_le (d.l.map OX.t) l (by omega)
  refine jA (jG (v := iv (szLS szSlotF (d.l.map OX.t) l)) rfl) <| jD <| jB <| jC <| jC <| jE <| jA (jF (v := iv (szLS szSlotF (d.l.map OX.t) l)) rfl) <| jA (jc rfl rfl) <| jD <| jB ?_
  by_cases h_5 : (szLS szSlotF (d.l.map OX.t) l) < 0
  · refine jS (cB (dT h_5)) <| jC <| jE <| jA (jG (v := iv (-1)) rfl) <| jD <| jB <| jJ <| jO <| jL (.inl rfl) rfl (jM (v := iv (-1)) rfl) (List.nil_sublist _) ?_
    refine ⟨congrArg (Value.int .i64) ?_, rfl⟩
    show _ = chk (szLS szSlotF (d.l.map OX.t) l) fun l => chk (szJournalF d.jt l) id
    simp only [chk, id_eq]
    (repeat (first | rw [if_pos (by omega)] | rw [if_neg (by omega)]))
  refine jP (cB (dF h_5)) <| jQ <| jB <| jC <| jE <| jA (jI fo28_1 rfl) <| jK (jg 0 (vs := [str d.jt, iv d.js]) rfl rfl Tryz.isAgg26 Tryz.sizeOf26 rfl rfl) <| jA (jF (v := iv (szLS szSlotF (d.l.map OX.t) l)) rfl) ?_
  refine jH rfl (jU [] Tryz.call84 rfl (C_szJournal d.jt d.js (szLS szSlotF (d.l.map OX.t) l) (by omega) (by omega) hz.k2) rfl (fun _ _ => trivial)) ?_
  rintro _ _ ⟨_, ⟨rfl, rfl⟩, rfl⟩
  have hle_6 := szJournalF_le d.jt (szLS szSlotF (d.l.map OX.t) l) (by omega)
  refine jA (jG (v := iv (szJournalF d.jt (szLS szSlotF (d.l.map OX.t) l))) rfl) <| jD <| jB <| jC <| jC <| jE <| jA (jF (v := iv (szJournalF d.jt (szLS szSlotF (d.l.map OX.t) l))) rfl) <| jA (jc rfl rfl) <| jD <| jB ?_
  by_cases h_7 : (szJournalF d.jt (szLS szSlotF (d.l.map OX.t) l)) < 0
  · refine jS (cB (dT h_7)) <| jC <| jE <| jA (jG (v := iv (-1)) rfl) <| jD <| jB <| jJ <| jO <| jL (.inl rfl) rfl (jM (v := iv (-1)) rfl) (List.nil_sublist _) ?_
    refine ⟨congrArg (Value.int .i64) ?_, rfl⟩
    show _ = chk (szLS szSlotF (d.l.map OX.t) l) fun l => chk (szJournalF d.jt l) id
    simp only [chk, id_eq]
    (repeat (first | rw [if_pos (by omega)] | rw [if_neg (by omega)]))
  refine jP (cB (dF h_7)) <| jQ <| jB <| jC <| jE <| jA (jF (v := iv (szJournalF d.jt (szLS szSlotF (d.l.map OX.t) l))) rfl) <| jA (jG (v := iv (szJournalF d.jt (szLS szSlotF (d.l.map OX.t) l))) rfl) <| jD <| jB <| jJ ?_
  refine jL (.inl rfl) rfl (jM (v := iv (szJournalF d.jt (szLS szSlotF (d.l.map OX.t) l))) rfl) (List.nil_sublist _) ?_
  refine ⟨congrArg (Value.int .i64) ?_, rfl⟩
  show _ = chk (szLS szSlotF (d.l.map OX.t) l) fun l => chk (szJournalF d.jt l) id
  simp only [chk, id_eq]
  (repeat (first | rw [if_pos (by omega)] | rw [if_neg (by omega)]))

theorem C_toDisk (d : DX) (hl : d.dat.lim 1048576) :
    Ct Tryz.prog 35 [.agg #[.slice d.a d.l.length d.c, str d.jt, .int .i64 d.js]] [] (fun w => SeesAE w (rdsD d)) (fun v A' => ∃ y : DX, y.dat = d.dat ∧ v = .agg #[.slice y.a y.l.length y.c, str y.jt, .int .i64 y.js] ∧ A' = [.rows (rdsD y)]) := by
  refine Ct.intro Tryz.func35 rfl Tryz.ntmps35 (lb rfl) fun w0 hpre => ?_
  have hs_1 : SeesE w0 (.slice d.a d.l.length d.c) 3 d.l.length (d.l.flatMap encO) := (hpre).head
  have hi_2 : SeesAE w0 (d.l.flatMap rdsO) := (hpre).tail
  have hlm : d.l.length ≤ 1048576 ∧ ∀ q ∈ d.l, q.t.lim 1048576 := ⟨by have := hl.l0; simpa only [DX.dat, List.length_map] using this, fun q hq => hl.l1 _ (List.mem_map_of_mem hq)⟩
  have hlm0 := hlm.1
  refine jC <| jE ?_
  refine jH rfl (jm (cs := [.slice d.a d.l.length d.c, str d.jt, iv d.js]) rfl rfl) ?_
  rintro _ _ ⟨b_3, rfl, rfl⟩
  refine jH rfl (kB (z := .agg #[.slice none 0 0, str [], iv 0]) (cs := [.slice none 0 0, str [], iv 0]) Tryz.zeroValue39 rfl) ?_
  rintro _ _ ⟨b_4, rfl, rfl⟩
  refine jD <| jB <| jC <| jE ?_
  refine jH rfl (kB (z := .agg #[.slice none 0 0, str [], iv 0]) (cs := [.slice none 0 0, str [], iv 0]) Tryz.zeroValue39 rfl) ?_
  rintro _ _ ⟨b_5, rfl, rfl⟩
  refine jD <| jB <| jC <| jE <| jA (jI fo28_0 rfl) <| jK (jR 2 (v := .slice d.a d.l.length d.c) rfl rfl Tryz.isAgg24 rfl) ?_
  refine jH rfl (jU [] Tryz.call90 rfl (C_toSlotS d.a d.c d.l (by omega) hlm.2) rfl (fun w hw => SeesAE.cons (hw.seeOutE hs_1 nM) (hw.seeOutAE hi_2 nMA))) ?_
  rintro _ _ ⟨_, ⟨a_6, c_7, y_8, hy_9, rfl, rfl⟩, rfl⟩
  refine jA (jI fo39_0 rfl) ?_
  refine jH rfl (jd 1 (vs := [.slice a_6 y_8.length c_7]) (cs' := [.slice a_6 y_8.length c_7, str [], iv 0]) rfl rfl rfl rfl Tryz.sizeOf36 rfl rfl (lb rfl) rfl) ?_
  rintro _ _ rfl
  refine jD <| jB <| jC <| jE <| jA (jI fo28_1 rfl) <| jK (jg 3 (vs := [str d.jt, iv d.js]) rfl rfl Tryz.isAgg26 Tryz.sizeOf26 rfl rfl) ?_
  refine jH rfl (jU [] Tryz.call91 rfl (C_toJournal d.jt d.js) rfl (fun _ _ => trivial)) ?_
  rintro _ _ ⟨_, ⟨rfl, rfl⟩, rfl⟩
  refine jA (jI fo39_1 rfl) ?_
  refine jH rfl (jd 1 (vs := [str d.jt, iv d.js]) (cs' := [.slice a_6 y_8.length c_7, str d.jt, iv d.js]) rfl rfl rfl rfl Tryz.sizeOf37 rfl rfl (lb rfl) rfl) ?_
  rintro _ _ rfl
  refine jD <| jB <| jC <| jE <| jK (jg 1 (vs := [.slice a_6 y_8.length c_7, str d.jt, iv d.js]) rfl rfl kz kq rfl rfl) ?_
  refine jH rfl (jd 2 (vs := [.slice a_6 y_8.length c_7, str d.jt, iv d.js]) (cs' := [.slice a_6 y_8.length c_7, str d.jt, iv d.js]) rfl rfl rfl rfl kq rfl rfl (lb rfl) rfl) ?_
  rintro _ _ rfl
  refine jD <| jB <| jJ <| jL (.inl rfl) rfl (kI (jg 2 (vs := [.slice a_6 y_8.length c_7, str d.jt, iv d.js]) rfl rfl kz kq rfl rfl) ⟨_, rfl⟩) (tS 1 _) ?_
  exact ⟨⟨a_6, c_7, y_8, d.jt, d.js⟩, by simp only [DX.dat, hy_9], rfl, rfl⟩

theorem C_eqDisk (d e : DX) (hl : d.dat.lim 1000000000) :
    Ct Tryz.prog 41 [.agg #[.slice d.a d.l.length d.c, str d.jt, .int .i64 d.js], .agg #[.slice e.a e.l.length e.c, str e.jt, .int .i64 e.js]] [] (fun w => SeesA w (rdsD d) ∧ SeesA w (rdsD e)) (fun v A' => v = .bool (decide (d.dat = e.dat)) ∧ A' = []) := by
  refine Ct.intro Tryz.func41 rfl Tryz.ntmps41 (lb rfl) fun w0 hpre => ?_
  have hs_1 : Sees w0 (.slice d.a d.l.length d.c) 3 d.l.length (d.l.flatMap encO) := (hpre.1).head
  have hi_2 : SeesA w0 (d.l.flatMap rdsO) := (hpre.1).tail
  have hs_3 : Sees w0 (.slice e.a e.l.length e.c) 3 e.l.length (e.l.flatMap encO) := (hpre.2).head
  have hi_4 : SeesA w0 (e.l.flatMap rdsO) := (hpre.2).tail
  have hlm : d.l.length ≤ 1000000000 ∧ ∀ q ∈ d.l, q.t.lim 1000000000 := ⟨by have := hl.l0; simpa only [DX.dat, List.length_map] using this, fun q hq => hl.l1 _ (List.mem_map_of_mem hq)⟩
  have hlm0 := hlm.1
  refine jC <| jE ?_
  refine jH rfl (jm (cs := [.slice d.a d.l.length d.c, str d.jt, iv d.js]) rfl rfl) ?_
  rintro _ _ ⟨b_5, rfl, rfl⟩
  refine jH rfl (jm (cs := [.slice e.a e.l.length e.c, str e.jt, iv e.js]) rfl rfl) ?_
  rintro _ _ ⟨b_6, rfl, rfl⟩
  refine jA (jG (v := .bool false) rfl) <| jD <| jB <| jC <| jC <| jE <| jA (jI fo39_0 rfl) <| jK (jR 1 (v := .slice d.a d.l.length d.c) rfl rfl ks rfl) <| jA (jI fo39_0 rfl) <| jK (jR 0 (v := .slice e.a e.l.length e.c) rfl rfl ks rfl) ?_
  refine jH rfl (jU [] Tryz.call99 rfl (C_eqSlotS d.a e.a d.c e.c d.l e.l (by omega) hlm.2) rfl (fun w hw => ⟨SeesA.cons (hw.seeOut_ hs_1 nM) (hw.seeOutA hi_2 nMA), SeesA.cons (hw.seeOut_ hs_3 nM) (hw.seeOutA hi_4 nMA)⟩)) ?_
  rintro _ _ ⟨_, ⟨rfl, rfl⟩, rfl⟩
  refine jA (kE rfl) <| jD <| jB ?_
  by_cases h_7 : d.l.map OX.t = e.l.map OX.t
  · refine jP (cB (cN (dT h_7))) <| jQ <| jB <| jC <| jC <| jE <| jA (jI fo39_1 rfl) <| jK (jg 1 (vs := [str d.jt, iv d.js]) rfl rfl Tryz.isAgg37 Tryz.sizeOf37 rfl rfl) <| jA (jI fo39_1 rfl) <| jK (jg 0 (vs := [str e.jt, iv e.js]) rfl rfl Tryz.isAgg37 Tryz.sizeOf37 rfl rfl) ?_
    refine jH rfl (jU [] Tryz.call100 rfl (C_eqJournal d.jt d.js e.jt e.js) rfl (fun _ _ => trivial)) ?_
    rintro _ _ ⟨_, ⟨rfl, rfl⟩, rfl⟩
    refine jA (kE rfl) <| jD <| jB ?_
    by_cases h_8 : d.jt = e.jt ∧ d.js = e.js
    · obtain ⟨ht_9, ht_10⟩ := id h_8
      refine jP (cB (cN (dT h_8))) <| jQ <| jB <| jC <| jE <| jA (jG (v := .bool true) rfl) <| jD <| jB <| jJ <| jL (.inl rfl) rfl (jM (v := .bool true) rfl) (List.nil_sublist _) ?_
      exact ⟨cB (dT (DD.same.2 ⟨by assumption, by assumption, by assumption⟩)).symm, rfl⟩
    refine jS (cB (cN (dF h_8))) <| jC <| jE <| jA (jG (v := .bool false) rfl) <| jD <| jB <| jJ <| jO <| jL (.inl rfl) rfl (jM (v := .bool false) rfl) (List.nil_sublist _) ?_
    exact ⟨cB (dF (fun h_ => by obtain ⟨h_0, h_1, h_2⟩ := DD.same.1 h_; first | exact absurd (show d.l.map OX.t = e.l.map OX.t from h_0) (by assumption) | exact absurd (show d.jt = e.jt ∧ d.js = e.js from ⟨h_1, h_2⟩) (by assumption))).symm, rfl⟩
  refine jS (cB (cN (dF h_7))) <| jC <| jE <| jA (jG (v := .bool false) rfl) <| jD <| jB <| jJ <| jO <| jL (.inl rfl) rfl (jM (v := .bool false) rfl) (List.nil_sublist _) ?_
  exact ⟨cB (dF (fun h_ => by obtain ⟨h_0, h_1, h_2⟩ := DD.same.1 h_; first | exact absurd (show d.l.map OX.t = e.l.map OX.t from h_0) (by assumption) | exact absurd (show d.jt = e.jt ∧ d.js = e.js from ⟨h_1, h_2⟩) (by assumption))).symm, rfl⟩

theorem C_markDisk (d : DX) (k : Nat) (h0 : 0 < k) (h1 : k + cntV cntO d.l ≤ 100000000) (hn : d.l.length ≤ 1000000000) :
    Ct Tryz.prog 46 [.agg #[.slice d.a d.l.length d.c, str d.jt, .int .i64 d.js], .int .i64 ((k : Nat) : Int)] [Res.rows (rdsD d)] (fun _ => True) (fun v A' => v = .int .i64 ((k + cntV cntO d.l : Nat) : Int) ∧ A' = [.rows (rdsOS d.a d.c (markV mkO cntO d.l k))]) := by
  refine Ct.intro Tryz.func46 rfl Tryz.ntmps46 (lb rfl) fun w0 hpre => ?_
  refine kP (L' := [Res.rows (rdsOS d.a d.c d.l)]) (fun w hw => hw.eqL rfl) <| jC <| jE ?_
  refine jH rfl (jm (cs := [.slice d.a d.l.length d.c, str d.jt, iv d.js]) rfl rfl) ?_
  rintro _ _ ⟨b_1, rfl, rfl⟩
  refine jA (jG (v := iv 0) rfl) <| jD <| jB <| jC <| jE <| jA (jI fo39_0 rfl) <| jK (jR 0 (v := .slice d.a d.l.length d.c) rfl rfl ks rfl) <| jA (jF (v := nv k) rfl) ?_
  refine jH rfl (jU [1] Tryz.call103 rfl (C_markSlotS d.a d.c d.l k (by omega) (by omega) (by omega)) rfl (fun _ _ => trivial)) ?_
  rintro _ _ ⟨_, ⟨rfl, rfl⟩, rfl⟩
  refine jA (jG (v := iv ((k + cntV cntO d.l : Nat) : Int)) rfl) <| jD <| jB <| jC <| jE <| jA (jF (v := iv ((k + cntV cntO d.l : Nat) : Int)) rfl) <| jA (jG (v := iv ((k + cntV cntO d.l : Nat) : Int)) rfl) <| jD <| jB <| jJ ?_
  refine jL (.inl rfl) rfl (jM (v := iv ((k + cntV cntO d.l : Nat) : Int)) rfl) (tS 1 _) ?_
  exact ⟨rfl, rfl⟩

theorem C_heldDisk (d : DX) (k : Nat) (h0 : 0 < k) (h1 : k + cntV cntO d.l ≤ 100000000) (hn : d.l.length ≤ 1000000000) :
    Ct Tryz.prog 51 [.agg #[.slice d.a d.l.length d.c, str d.jt, .int .i64 d.js], .int .i64 ((k : Nat) : Int)] [] (fun w => SeesA w (rdsOS d.a d.c (markV mkO cntO d.l k))) (fun v A' => v = .int .i64 ((k + cntV cntO d.l : Nat) : Int) ∧ A' = []) := by
  refine Ct.intro Tryz.func51 rfl Tryz.ntmps51 (lb rfl) fun w0 hpre => ?_
  refine jC <| jE ?_
  refine jH rfl (jm (cs := [.slice d.a d.l.length d.c, str d.jt, iv d.js]) rfl rfl) ?_
  rintro _ _ ⟨b_1, rfl, rfl⟩
  refine jA (jG (v := iv 0) rfl) <| jD <| jB <| jC <| jE <| jA (jI fo39_0 rfl) <| jK (jR 0 (v := .slice d.a d.l.length d.c) rfl rfl ks rfl) <| jA (jF (v := nv k) rfl) ?_
  refine jH rfl (jU [] Tryz.call108 rfl (C_heldSlotS d.a d.c d.l k (by omega) (by omega) (by omega)) rfl (fun w hw => hw.seeOutA hpre nMA)) ?_
  rintro _ _ ⟨_, ⟨rfl, rfl⟩, rfl⟩
  refine jA (jG (v := iv ((k + cntV cntO d.l : Nat) : Int)) rfl) <| jD <| jB <| jC <| jC <| jE <| jA (jF (v := iv ((k + cntV cntO d.l : Nat) : Int)) rfl) <| jA (jc rfl rfl) <| jD <| jB ?_
  by_cases h_2 : ((k + cntV cntO d.l : Nat) : Int) < 0
  · refine jS (cB (dT h_2)) <| jC <| jE <| jA (jG (v := iv (-1)) rfl) <| jD <| jB <| jJ <| jO <| jL (.inl rfl) rfl (jM (v := iv (-1)) rfl) (List.nil_sublist _) ?_
    exfalso
    omega
  refine jP (cB (dF h_2)) <| jQ <| jB <| jC <| jE <| jA (jF (v := iv ((k + cntV cntO d.l : Nat) : Int)) rfl) <| jA (jG (v := iv ((k + cntV cntO d.l : Nat) : Int)) rfl) <| jD <| jB <| jJ ?_
  refine jL (.inl rfl) rfl (jM (v := iv ((k + cntV cntO d.l : Nat) : Int)) rfl) (List.nil_sublist _) ?_
  exact ⟨rfl, rfl⟩

theorem C_szKernel (k : KX) (l : Int) (h0 : 0 ≤ l) (h1 : l ≤ 1048576) (hz : k.dat.okz) :
    Ct Tryz.prog 8 [.agg #[.slice k.a0 k.store.length k.c0, .slice k.a1 k.txs.length k.c1, .slice k.dk.a k.dk.l.length k.dk.c, str k.dk.jt, .int .i64 k.dk.js, .int .i64 k.seq, .int .i64 k.next, .int .i64 k.time, .slice k.a2 k.hist.length k.c2, .slice k.a3 k.seen.length k.c3, .bool k.room], .int .i64 l] [] (fun w => SeesAE w (rdsN k)) (fun r A' => r = .int .i64 (szKernelF k.dat l) ∧ A' = []) := by
  refine Ct.intro Tryz.func8 rfl Tryz.ntmps8 (lb rfl) fun w0 hpre => ?_
  obtain ⟨hs_1, hs_2, hs_3, hs_4, hs_5⟩ := seesNE hpre
  have hs_6 : SeesE w0 (.slice k.a1 k.txs.length k.c1) 10 k.txs.length (k.txs.flatMap encX) := (hs_3).head
  have hi_7 : SeesAE w0 (k.txs.flatMap rdsX) := (hs_3).tail
  have hs_8 : SeesE w0 (.slice k.dk.a k.dk.l.length k.dk.c) 3 k.dk.l.length (k.dk.l.flatMap encO) := (hs_4).head
  have hi_9 : SeesAE w0 (k.dk.l.flatMap rdsO) := (hs_4).tail
  have hs_10 : SeesE w0 (.slice k.a2 k.hist.length k.c2) 8 k.hist.length (k.hist.flatMap encE) := (hs_5).head
  have hi_11 : SeesAE w0 (k.hist.flatMap rdsE) := (hs_5).tail
  have hz1 : k.txs.length ≤ 9223372036854775807 := by have := hz.k1; simpa only [KX.dat, List.length_map] using this
  have hz2 : ∀ j, j < k.txs.length → (k.txs.getD j x0).t.okz := fun j hj => hz.k2 _ (List.mem_map_of_mem (getD_mem hj))
  have hz4 : k.hist.length ≤ 9223372036854775807 := by have := hz.k4; simpa only [KX.dat, List.length_map] using this
  have hz5 : ∀ j, j < k.hist.length → (k.hist.getD j e0).t.okz := fun j hj => hz.k5 _ (List.mem_map_of_mem (getD_mem hj))
  refine jC <| jE ?_
  refine jH rfl (jm (cs := [.slice k.a0 k.store.length k.c0, .slice k.a1 k.txs.length k.c1, .slice k.dk.a k.dk.l.length k.dk.c, str k.dk.jt, iv k.dk.js, iv k.seq, iv k.next, iv k.time, .slice k.a2 k.hist.length k.c2, .slice k.a3 k.seen.length k.c3, .bool k.room]) rfl rfl) ?_
  rintro _ _ ⟨b_12, rfl, rfl⟩
  refine jA (jG (v := iv 0) rfl) <| jD <| jB <| jC <| jE <| jA (jI fo32_0 rfl) <| jK (jR 0 (v := .slice k.a0 k.store.length k.c0) rfl rfl Tryz.isAgg22 rfl) <| jA (jF (v := iv l) rfl) ?_
  refine jH rfl (jU [] Tryz.call27 rfl (E_szCellS k.a0 k.c0 k.store l (by omega) (by omega) hz.k0.1 hz.k0.2) rfl (fun w hw => hw.seeOutE hs_1 nM)) ?_
  rintro _ _ ⟨_, ⟨rfl, rfl⟩, rfl⟩
  have hle_13 := szCellS_le k.store l (by omega)
  refine jA (jG (v := iv (szCellS k.store l)) rfl) <| jD <| jB <| jC <| jC <| jE <| jA (jF (v := iv (szCellS k.store l)) rfl) <| jA (jc rfl rfl) <| jD <| jB ?_
  by_cases h_14 : (szCellS k.store l) < 0
  · refine jS (cB (dT h_14)) <| jC <| jE <| jA (jG (v := iv (-1)) rfl) <| jD <| jB <| jJ <| jO <| jL (.inl rfl) rfl (jM (v := iv (-1)) rfl) (List.nil_sublist _) ?_
    refine ⟨congrArg (Value.int .i64) ?_, rfl⟩
    show _ = chk (szCellS k.store l) fun l => chk (szLS szTxF (k.txs.map TX.t) l) fun l => chk (szDiskF k.dk.dat l) fun l => chk (szLS szEntryF (k.hist.map EX.t) l) fun l => chk (szStringS k.seen l) id
    simp only [chk, id_eq]
    (repeat (first | rw [if_pos (by omega)] | rw [if_neg (by omega)]))
  refine jP (cB (dF h_14)) <| jQ <| jB <| jC <| jE <| jA (jI fo32_1 rfl) <| jK (jR 0 (v := .slice k.a1 k.txs.length k.c1) rfl rfl Tryz.isAgg23 rfl) <| jA (jF (v := iv (szCellS k.store l)) rfl) ?_
  refine jH rfl (jU [] Tryz.call28 rfl (C_szTxS k.a1 k.c1 k.txs (szCellS k.store l) (by omega) (by omega) hz1 hz2) rfl (fun w hw => SeesAE.cons (hw.seeOutE hs_6 nM) (hw.seeOutAE hi_7 nMA))) ?_
  rintro _ _ ⟨_, ⟨rfl, rfl⟩, rfl⟩
  have hle_15 := szLS_le szTxF_le (k.txs.map TX.t) (szCellS k.store l) (by omega)
  refine jA (jG (v := iv (szLS szTxF (k.txs.map TX.t) (szCellS k.store l))) rfl) <| jD <| jB <| jC <| jC <| jE <| jA (jF (v := iv (szLS szTxF (k.txs.map TX.t) (szCellS k.store l))) rfl) <| jA (jc rfl rfl) <| jD <| jB ?_
  by_cases h_16 : (szLS szTxF (k.txs.map TX.t) (szCellS k.store l)) < 0
  · refine jS (cB (dT h_16)) <| jC <| jE <| jA (jG (v := iv (-1)) rfl) <| jD <| jB <| jJ <| jO <| jL (.inl rfl) rfl (jM (v := iv (-1)) rfl) (List.nil_sublist _) ?_
    refine ⟨congrArg (Value.int .i64) ?_, rfl⟩
    show _ = chk (szCellS k.store l) fun l => chk (szLS szTxF (k.txs.map TX.t) l) fun l => chk (szDiskF k.dk.dat l) fun l => chk (szLS szEntryF (k.hist.map EX.t) l) fun l => chk (szStringS k.seen l) id
    simp only [chk, id_eq]
    (repeat (first | rw [if_pos (by omega)] | rw [if_neg (by omega)]))
  refine jP (cB (dF h_16)) <| jQ <| jB <| jC <| jE <| jA (jI fo32_2 rfl) <| jK (jg 0 (vs := [.slice k.dk.a k.dk.l.length k.dk.c, str k.dk.jt, iv k.dk.js]) rfl rfl Tryz.isAgg28 Tryz.sizeOf28 rfl rfl) <| jA (jF (v := iv (szLS szTxF (k.txs.map TX.t) (szCellS k.store l))) rfl) ?_
  refine jH rfl (jU [] Tryz.call29 rfl (C_szDisk k.dk (szLS szTxF (k.txs.map TX.t) (szCellS k.store l)) (by omega) (by omega) hz.k3) rfl (fun w hw => hw.seeOutAE hs_4 nMA)) ?_
  rintro _ _ ⟨_, ⟨rfl, rfl⟩, rfl⟩
  have hle_17 := szDiskF_le k.dk.dat (szLS szTxF (k.txs.map TX.t) (szCellS k.store l)) (by omega)
  refine jA (jG (v := iv (szDiskF k.dk.dat (szLS szTxF (k.txs.map TX.t) (szCellS k.store l)))) rfl) <| jD <| jB <| jC <| jC <| jE <| jA (jF (v := iv (szDiskF k.dk.dat (szLS szTxF (k.txs.map TX.t) (szCellS k.store l)))) rfl) <| jA (jc rfl rfl) <| jD <| jB ?_
  by_cases h_18 : (szDiskF k.dk.dat (szLS szTxF (k.txs.map TX.t) (szCellS k.store l))) < 0
  · refine jS (cB (dT h_18)) <| jC <| jE <| jA (jG (v := iv (-1)) rfl) <| jD <| jB <| jJ <| jO <| jL (.inl rfl) rfl (jM (v := iv (-1)) rfl) (List.nil_sublist _) ?_
    refine ⟨congrArg (Value.int .i64) ?_, rfl⟩
    show _ = chk (szCellS k.store l) fun l => chk (szLS szTxF (k.txs.map TX.t) l) fun l => chk (szDiskF k.dk.dat l) fun l => chk (szLS szEntryF (k.hist.map EX.t) l) fun l => chk (szStringS k.seen l) id
    simp only [chk, id_eq]
    (repeat (first | rw [if_pos (by omega)] | rw [if_neg (by omega)]))
  refine jP (cB (dF h_18)) <| jQ <| jB <| jC <| jE <| jA (jI fo32_6 rfl) <| jK (jR 0 (v := .slice k.a2 k.hist.length k.c2) rfl rfl Tryz.isAgg29 rfl) <| jA (jF (v := iv (szDiskF k.dk.dat (szLS szTxF (k.txs.map TX.t) (szCellS k.store l)))) rfl) ?_
  refine jH rfl (jU [] Tryz.call30 rfl (C_szEntryS k.a2 k.c2 k.hist (szDiskF k.dk.dat (szLS szTxF (k.txs.map TX.t) (szCellS k.store l))) (by omega) (by omega) hz4 hz5) rfl (fun w hw => SeesAE.cons (hw.seeOutE hs_10 nM) (hw.seeOutAE hi_11 nMA))) ?_
  rintro _ _ ⟨_, ⟨rfl, rfl⟩, rfl⟩
  have hle_19 := szLS_le szEntryF_le (k.hist.map EX.t) (szDiskF k.dk.dat (szLS szTxF (k.txs.map TX.t) (szCellS k.store l))) (by omega)
  refine jA (jG (v := iv (szLS szEntryF (k.hist.map EX.t) (szDiskF k.dk.dat (szLS szTxF (k.txs.map TX.t) (szCellS k.store l))))) rfl) <| jD <| jB <| jC <| jC <| jE <| jA (jF (v := iv (szLS szEntryF (k.hist.map EX.t) (szDiskF k.dk.dat (szLS szTxF (k.txs.map TX.t) (szCellS k.store l))))) rfl) <| jA (jc rfl rfl) <| jD <| jB ?_
  by_cases h_20 : (szLS szEntryF (k.hist.map EX.t) (szDiskF k.dk.dat (szLS szTxF (k.txs.map TX.t) (szCellS k.store l)))) < 0
  · refine jS (cB (dT h_20)) <| jC <| jE <| jA (jG (v := iv (-1)) rfl) <| jD <| jB <| jJ <| jO <| jL (.inl rfl) rfl (jM (v := iv (-1)) rfl) (List.nil_sublist _) ?_
    refine ⟨congrArg (Value.int .i64) ?_, rfl⟩
    show _ = chk (szCellS k.store l) fun l => chk (szLS szTxF (k.txs.map TX.t) l) fun l => chk (szDiskF k.dk.dat l) fun l => chk (szLS szEntryF (k.hist.map EX.t) l) fun l => chk (szStringS k.seen l) id
    simp only [chk, id_eq]
    (repeat (first | rw [if_pos (by omega)] | rw [if_neg (by omega)]))
  refine jP (cB (dF h_20)) <| jQ <| jB <| jC <| jE <| jA (jI fo32_7 rfl) <| jK (jR 0 (v := .slice k.a3 k.seen.length k.c3) rfl rfl ka rfl) <| jA (jF (v := iv (szLS szEntryF (k.hist.map EX.t) (szDiskF k.dk.dat (szLS szTxF (k.txs.map TX.t) (szCellS k.store l))))) rfl) ?_
  refine jH rfl (jU [] Tryz.call31 rfl (E_szStringS k.a3 k.c3 k.seen (szLS szEntryF (k.hist.map EX.t) (szDiskF k.dk.dat (szLS szTxF (k.txs.map TX.t) (szCellS k.store l)))) (by omega) (by omega) hz.k6.1 hz.k6.2) rfl (fun w hw => hw.seeOutE hs_2 nM)) ?_
  rintro _ _ ⟨_, ⟨rfl, rfl⟩, rfl⟩
  have hle_21 := szStringS_le k.seen (szLS szEntryF (k.hist.map EX.t) (szDiskF k.dk.dat (szLS szTxF (k.txs.map TX.t) (szCellS k.store l)))) (by omega)
  refine jA (jG (v := iv (szStringS k.seen (szLS szEntryF (k.hist.map EX.t) (szDiskF k.dk.dat (szLS szTxF (k.txs.map TX.t) (szCellS k.store l)))))) rfl) <| jD <| jB <| jC <| jC <| jE <| jA (jF (v := iv (szStringS k.seen (szLS szEntryF (k.hist.map EX.t) (szDiskF k.dk.dat (szLS szTxF (k.txs.map TX.t) (szCellS k.store l)))))) rfl) <| jA (jc rfl rfl) <| jD <| jB ?_
  by_cases h_22 : (szStringS k.seen (szLS szEntryF (k.hist.map EX.t) (szDiskF k.dk.dat (szLS szTxF (k.txs.map TX.t) (szCellS k.store l))))) < 0
  · refine jS (cB (dT h_22)) <| jC <| jE <| jA (jG (v := iv (-1)) rfl) <| jD <| jB <| jJ <| jO <| jL (.inl rfl) rfl (jM (v := iv (-1)) rfl) (List.nil_sublist _) ?_
    refine ⟨congrArg (Value.int .i64) ?_, rfl⟩
    show _ = chk (szCellS k.store l) fun l => chk (szLS szTxF (k.txs.map TX.t) l) fun l => chk (szDiskF k.dk.dat l) fun l => chk (szLS szEntryF (k.hist.map EX.t) l) fun l => chk (szStringS k.seen l) id
    simp only [chk, id_eq]
    (repeat (first | rw [if_pos (by omega)] | rw [if_neg (by omega)]))
  refine jP (cB (dF h_22)) <| jQ <| jB <| jC <| jE <| jA (jF (v := iv (szStringS k.seen (szLS szEntryF (k.hist.map EX.t) (szDiskF k.dk.dat (szLS szTxF (k.txs.map TX.t) (szCellS k.store l)))))) rfl) <| jA (jG (v := iv (szStringS k.seen (szLS szEntryF (k.hist.map EX.t) (szDiskF k.dk.dat (szLS szTxF (k.txs.map TX.t) (szCellS k.store l)))))) rfl) <| jD <| jB <| jJ ?_
  refine jL (.inl rfl) rfl (jM (v := iv (szStringS k.seen (szLS szEntryF (k.hist.map EX.t) (szDiskF k.dk.dat (szLS szTxF (k.txs.map TX.t) (szCellS k.store l)))))) rfl) (List.nil_sublist _) ?_
  refine ⟨congrArg (Value.int .i64) ?_, rfl⟩
  show _ = chk (szCellS k.store l) fun l => chk (szLS szTxF (k.txs.map TX.t) l) fun l => chk (szDiskF k.dk.dat l) fun l => chk (szLS szEntryF (k.hist.map EX.t) l) fun l => chk (szStringS k.seen l) id
  simp only [chk, id_eq]
  (repeat (first | rw [if_pos (by omega)] | rw [if_neg (by omega)]))

theorem C_toKernel (k : KX) (hl : k.dat.lim 1048576) :
    Ct Tryz.prog 10 [.agg #[.slice k.a0 k.store.length k.c0, .slice k.a1 k.txs.length k.c1, .slice k.dk.a k.dk.l.length k.dk.c, str k.dk.jt, .int .i64 k.dk.js, .int .i64 k.seq, .int .i64 k.next, .int .i64 k.time, .slice k.a2 k.hist.length k.c2, .slice k.a3 k.seen.length k.c3, .bool k.room]] [] (fun w => SeesAE w (rdsN k)) (fun v A' => ∃ y : KX, y.dat = k.dat ∧ v = .agg #[.slice y.a0 y.store.length y.c0, .slice y.a1 y.txs.length y.c1, .slice y.dk.a y.dk.l.length y.dk.c, str y.dk.jt, .int .i64 y.dk.js, .int .i64 y.seq, .int .i64 y.next, .int .i64 y.time, .slice y.a2 y.hist.length y.c2, .slice y.a3 y.seen.length y.c3, .bool y.room] ∧ A' = [.rows (rdsN y)]) := by
  refine Ct.intro Tryz.func10 rfl Tryz.ntmps10 (lb rfl) fun w0 hpre => ?_
  obtain ⟨hs_1, hs_2, hs_3, hs_4, hs_5⟩ := seesNE hpre
  have hs_6 : SeesE w0 (.slice k.a1 k.txs.length k.c1) 10 k.txs.length (k.txs.flatMap encX) := (hs_3).head
  have hi_7 : SeesAE w0 (k.txs.flatMap rdsX) := (hs_3).tail
  have hs_8 : SeesE w0 (.slice k.dk.a k.dk.l.length k.dk.c) 3 k.dk.l.length (k.dk.l.flatMap encO) := (hs_4).head
  have hi_9 : SeesAE w0 (k.dk.l.flatMap rdsO) := (hs_4).tail
  have hs_10 : SeesE w0 (.slice k.a2 k.hist.length k.c2) 8 k.hist.length (k.hist.flatMap encE) := (hs_5).head
  have hi_11 : SeesAE w0 (k.hist.flatMap rdsE) := (hs_5).tail
  have hm0 : k.store.length ≤ 1048576 := hl.l0
  have hm6 : k.seen.length ≤ 1048576 := hl.l6
  have hm1 : k.txs.length ≤ 1048576 := by have := hl.l1; simpa only [KX.dat, List.length_map] using this
  have hm2 : ∀ q ∈ k.txs, q.t.lim 1048576 := fun q hq => hl.l2 _ (List.mem_map_of_mem hq)
  have hm4 : k.hist.length ≤ 1048576 := by have := hl.l4; simpa only [KX.dat, List.length_map] using this
  have hm5 : ∀ q ∈ k.hist, q.t.lim 1048576 := fun q hq => hl.l5 _ (List.mem_map_of_mem hq)
  refine jC <| jE ?_
  refine jH rfl (jm (cs := [.slice k.a0 k.store.length k.c0, .slice k.a1 k.txs.length k.c1, .slice k.dk.a k.dk.l.length k.dk.c, str k.dk.jt, iv k.dk.js, iv k.seq, iv k.next, iv k.time, .slice k.a2 k.hist.length k.c2, .slice k.a3 k.seen.length k.c3, .bool k.room]) rfl rfl) ?_
  rintro _ _ ⟨b_12, rfl, rfl⟩
  refine jH rfl (kB (z := .agg #[.slice none 0 0, .slice none 0 0, .slice none 0 0, str [], iv 0, iv 0, iv 0, iv 0, .slice none 0 0, .slice none 0 0, .bool false]) (cs := [.slice none 0 0, .slice none 0 0, .slice none 0 0, str [], iv 0, iv 0, iv 0, iv 0, .slice none 0 0, .slice none 0 0, .bool false]) Tryz.zeroValue42 rfl) ?_
  rintro _ _ ⟨b_13, rfl, rfl⟩
  refine jD <| jB <| jC <| jE ?_
  refine jH rfl (kB (z := .agg #[.slice none 0 0, .slice none 0 0, .slice none 0 0, str [], iv 0, iv 0, iv 0, iv 0, .slice none 0 0, .slice none 0 0, .bool false]) (cs := [.slice none 0 0, .slice none 0 0, .slice none 0 0, str [], iv 0, iv 0, iv 0, iv 0, .slice none 0 0, .slice none 0 0, .bool false]) Tryz.zeroValue42 rfl) ?_
  rintro _ _ ⟨b_14, rfl, rfl⟩
  refine jD <| jB <| jC <| jE <| jA (jI fo32_0 rfl) <| jK (jR 2 (v := .slice k.a0 k.store.length k.c0) rfl rfl Tryz.isAgg22 rfl) ?_
  refine jH rfl (jU [] Tryz.call33 rfl (E_toCellS k.a0 k.c0 k.store (by omega)) rfl (fun w hw => hw.seeOutE hs_1 nM)) ?_
  rintro _ _ ⟨_, ⟨a_15, c_16, rfl, rfl⟩, rfl⟩
  refine jA (jI fo42_0 rfl) ?_
  refine jH rfl (jd 1 (vs := [.slice a_15 k.store.length c_16]) (cs' := [.slice a_15 k.store.length c_16, .slice none 0 0, .slice none 0 0, str [], iv 0, iv 0, iv 0, iv 0, .slice none 0 0, .slice none 0 0, .bool false]) rfl rfl rfl rfl Tryz.sizeOf34 rfl rfl (lb rfl) rfl) ?_
  rintro _ _ rfl
  refine jD <| jB <| jC <| jE <| jA (jI fo32_1 rfl) <| jK (jR 3 (v := .slice k.a1 k.txs.length k.c1) rfl rfl Tryz.isAgg23 rfl) ?_
  refine jH rfl (jU [] Tryz.call34 rfl (C_toTxS k.a1 k.c1 k.txs (by omega) hm2) rfl (fun w hw => SeesAE.cons (hw.seeOutE hs_6 nM) (hw.seeOutAE hi_7 nMA))) ?_
  rintro _ _ ⟨_, ⟨a_17, c_18, y_19, hy_20, rfl, rfl⟩, rfl⟩
  refine jA (jI fo42_1 rfl) ?_
  refine jH rfl (jd 2 (vs := [.slice a_17 y_19.length c_18]) (cs' := [.slice a_15 k.store.length c_16, .slice a_17 y_19.length c_18, .slice none 0 0, str [], iv 0, iv 0, iv 0, iv 0, .slice none 0 0, .slice none 0 0, .bool false]) rfl rfl rfl rfl Tryz.sizeOf35 rfl rfl (lb rfl) rfl) ?_
  rintro _ _ rfl
  refine jD <| jB <| jC <| jE <| jA (jI fo32_2 rfl) <| jK (jg 4 (vs := [.slice k.dk.a k.dk.l.length k.dk.c, str k.dk.jt, iv k.dk.js]) rfl rfl Tryz.isAgg28 Tryz.sizeOf28 rfl rfl) ?_
  refine jH rfl (jU [] Tryz.call35 rfl (C_toDisk k.dk hl.l3) rfl (fun w hw => hw.seeOutAE hs_4 nMA)) ?_
  rintro _ _ ⟨_, ⟨y_21, hy_22, rfl, rfl⟩, rfl⟩
  refine jA (jI fo42_2 rfl) ?_
  refine jH rfl (jd 3 (vs := [.slice y_21.a y_21.l.length y_21.c, str y_21.jt, iv y_21.js]) (cs' := [.slice a_15 k.store.length c_16, .slice a_17 y_19.length c_18, .slice y_21.a y_21.l.length y_21.c, str y_21.jt, iv y_21.js, iv 0, iv 0, iv 0, .slice none 0 0, .slice none 0 0, .bool false]) rfl rfl rfl rfl kq rfl rfl (lb rfl) rfl) ?_
  rintro _ _ rfl
  refine jD <| jB <| jC <| jE <| jA (jI fo32_3 rfl) <| jK (jR 5 (v := iv k.seq) rfl rfl kR rfl) <| jA (jI fo42_3 rfl) ?_
  refine jH rfl (jd 3 (vs := [iv k.seq]) (cs' := [.slice a_15 k.store.length c_16, .slice a_17 y_19.length c_18, .slice y_21.a y_21.l.length y_21.c, str y_21.jt, iv y_21.js, iv k.seq, iv 0, iv 0, .slice none 0 0, .slice none 0 0, .bool false]) rfl rfl rfl rfl kW rfl rfl (lb rfl) rfl) ?_
  rintro _ _ rfl
  refine jD <| jB <| jC <| jE <| jA (jI fo32_4 rfl) <| jK (jR 5 (v := iv k.next) rfl rfl kR rfl) <| jA (jI fo42_4 rfl) ?_
  refine jH rfl (jd 3 (vs := [iv k.next]) (cs' := [.slice a_15 k.store.length c_16, .slice a_17 y_19.length c_18, .slice y_21.a y_21.l.length y_21.c, str y_21.jt, iv y_21.js, iv k.seq, iv k.next, iv 0, .slice none 0 0, .slice none 0 0, .bool false]) rfl rfl rfl rfl kW rfl rfl (lb rfl) rfl) ?_
  rintro _ _ rfl
  refine jD <| jB <| jC <| jE <| jA (jI fo32_5 rfl) <| jK (jR 5 (v := iv k.time) rfl rfl kR rfl) <| jA (jI fo42_5 rfl) ?_
  refine jH rfl (jd 3 (vs := [iv k.time]) (cs' := [.slice a_15 k.store.length c_16, .slice a_17 y_19.length c_18, .slice y_21.a y_21.l.length y_21.c, str y_21.jt, iv y_21.js, iv k.seq, iv k.next, iv k.time, .slice none 0 0, .slice none 0 0, .bool false]) rfl rfl rfl rfl kW rfl rfl (lb rfl) rfl) ?_
  rintro _ _ rfl
  refine jD <| jB <| jC <| jE <| jA (jI fo32_6 rfl) <| jK (jR 5 (v := .slice k.a2 k.hist.length k.c2) rfl rfl Tryz.isAgg29 rfl) ?_
  refine jH rfl (jU [] Tryz.call36 rfl (C_toEntryS k.a2 k.c2 k.hist (by omega) hm5) rfl (fun w hw => SeesAE.cons (hw.seeOutE hs_10 nM) (hw.seeOutAE hi_11 nMA))) ?_
  rintro _ _ ⟨_, ⟨a_23, c_24, y_25, hy_26, rfl, rfl⟩, rfl⟩
  refine jA (jI fo42_6 rfl) ?_
  refine jH rfl (jd 4 (vs := [.slice a_23 y_25.length c_24]) (cs' := [.slice a_15 k.store.length c_16, .slice a_17 y_19.length c_18, .slice y_21.a y_21.l.length y_21.c, str y_21.jt, iv y_21.js, iv k.seq, iv k.next, iv k.time, .slice a_23 y_25.length c_24, .slice none 0 0, .bool false]) rfl rfl rfl rfl Tryz.sizeOf40 rfl rfl (lb rfl) rfl) ?_
  rintro _ _ rfl
  refine jD <| jB <| jC <| jE <| jA (jI fo32_7 rfl) <| jK (jR 6 (v := .slice k.a3 k.seen.length k.c3) rfl rfl ka rfl) ?_
  refine jH rfl (jU [] Tryz.call37 rfl (E_toStringS k.a3 k.c3 k.seen (by omega)) rfl (fun w hw => hw.seeOutE hs_2 nM)) ?_
  rintro _ _ ⟨_, ⟨a_27, c_28, rfl, rfl⟩, rfl⟩
  refine jA (jI fo42_7 rfl) ?_
  refine jH rfl (jd 5 (vs := [.slice a_27 k.seen.length c_28]) (cs' := [.slice a_15 k.store.length c_16, .slice a_17 y_19.length c_18, .slice y_21.a y_21.l.length y_21.c, str y_21.jt, iv y_21.js, iv k.seq, iv k.next, iv k.time, .slice a_23 y_25.length c_24, .slice a_27 k.seen.length c_28, .bool false]) rfl rfl rfl rfl Tryz.sizeOf30 rfl rfl (lb rfl) rfl) ?_
  rintro _ _ rfl
  refine jD <| jB <| jC <| jE <| jA (jI fo32_8 rfl) <| jK (jR 7 (v := .bool k.room) rfl rfl ky rfl) <| jA (jI fo42_8 rfl) ?_
  refine jH rfl (jd 5 (vs := [.bool k.room]) (cs' := [.slice a_15 k.store.length c_16, .slice a_17 y_19.length c_18, .slice y_21.a y_21.l.length y_21.c, str y_21.jt, iv y_21.js, iv k.seq, iv k.next, iv k.time, .slice a_23 y_25.length c_24, .slice a_27 k.seen.length c_28, .bool k.room]) rfl rfl rfl rfl Tryz.sizeOf4 rfl rfl (lb rfl) rfl) ?_
  rintro _ _ rfl
  refine jD <| jB <| jC <| jE <| jK (jg 5 (vs := [.slice a_15 k.store.length c_16, .slice a_17 y_19.length c_18, .slice y_21.a y_21.l.length y_21.c, str y_21.jt, iv y_21.js, iv k.seq, iv k.next, iv k.time, .slice a_23 y_25.length c_24, .slice a_27 k.seen.length c_28, .bool k.room]) rfl rfl kj kX rfl rfl) ?_
  refine jH rfl (jd 6 (vs := [.slice a_15 k.store.length c_16, .slice a_17 y_19.length c_18, .slice y_21.a y_21.l.length y_21.c, str y_21.jt, iv y_21.js, iv k.seq, iv k.next, iv k.time, .slice a_23 y_25.length c_24, .slice a_27 k.seen.length c_28, .bool k.room]) (cs' := [.slice a_15 k.store.length c_16, .slice a_17 y_19.length c_18, .slice y_21.a y_21.l.length y_21.c, str y_21.jt, iv y_21.js, iv k.seq, iv k.next, iv k.time, .slice a_23 y_25.length c_24, .slice a_27 k.seen.length c_28, .bool k.room]) rfl rfl rfl rfl kX rfl rfl (lb rfl) rfl) ?_
  rintro _ _ rfl
  refine jD <| jB <| jJ <| jv (L' := [Res.rows (rdsN (⟨a_15, c_16, k.store, a_17, c_18, y_19, y_21, k.seq, k.next, k.time, a_23, c_24, y_25, a_27, c_28, k.seen, k.room⟩ : KX)), bk b_14 42 [.slice a_15 k.store.length c_16, .slice a_17 y_19.length c_18, .slice y_21.a y_21.l.length y_21.c, str y_21.jt, iv y_21.js, iv k.seq, iv k.next, iv k.time, .slice a_23 y_25.length c_24, .slice a_27 k.seen.length c_28, .bool k.room], bk b_13 42 [.slice a_15 k.store.length c_16, .slice a_17 y_19.length c_18, .slice y_21.a y_21.l.length y_21.c, str y_21.jt, iv y_21.js, iv k.seq, iv k.next, iv k.time, .slice a_23 y_25.length c_24, .slice a_27 k.seen.length c_28, .bool k.room], bk b_12 32 [.slice k.a0 k.store.length k.c0, .slice k.a1 k.txs.length k.c1, .slice k.dk.a k.dk.l.length k.dk.c, str k.dk.jt, iv k.dk.js, iv k.seq, iv k.next, iv k.time, .slice k.a2 k.hist.length k.c2, .slice k.a3 k.seen.length k.c3, .bool k.room]]) (fun w hw => hw.gathN [4, 0, 2, 1, 0] rfl) <| jL (.inl rfl) rfl (kI (jg 2 (vs := [.slice a_15 k.store.length c_16, .slice a_17 y_19.length c_18, .slice y_21.a y_21.l.length y_21.c, str y_21.jt, iv y_21.js, iv k.seq, iv k.next, iv k.time, .slice a_23 y_25.length c_24, .slice a_27 k.seen.length c_28, .bool k.room]) rfl rfl kj kX rfl rfl) ⟨_, rfl⟩) (tS 1 _) ?_
  exact ⟨(⟨a_15, c_16, k.store, a_17, c_18, y_19, y_21, k.seq, k.next, k.time, a_23, c_24, y_25, a_27, c_28, k.seen, k.room⟩ : KX), by simp only [KX.dat, hy_20, hy_22, hy_26], rfl, rfl⟩

end Go.Proofs.YtkmpmjficoohkaaGreat

set_option linter.unusedSimpArgs false
set_option linter.unusedVariables false
set_option linter.unnecessarySimpa false
namespace Go.Proofs.YtkmpmjficoohkaaGreat
open Go Go.RowKit
attribute [local irreducible] JL JC JQ JO LO PO JA JX Ct
theorem C_eqKernel (k r : KX) (hl : k.dat.lim 1000000000) :
    Ct Tryz.prog 12 [.agg #[.slice k.a0 k.store.length k.c0, .slice k.a1 k.txs.length k.c1, .slice k.dk.a k.dk.l.length k.dk.c, str k.dk.jt, .int .i64 k.dk.js, .int .i64 k.seq, .int .i64 k.next, .int .i64 k.time, .slice k.a2 k.hist.length k.c2, .slice k.a3 k.seen.length k.c3, .bool k.room], .agg #[.slice r.a0 r.store.length r.c0, .slice r.a1 r.txs.length r.c1, .slice r.dk.a r.dk.l.length r.dk.c, str r.dk.jt, .int .i64 r.dk.js, .int .i64 r.seq, .int .i64 r.next, .int .i64 r.time, .slice r.a2 r.hist.length r.c2, .slice r.a3 r.seen.length r.c3, .bool r.room]] [] (fun w => SeesA w (rdsN k) ∧ SeesA w (rdsN r)) (fun v A' => v = .bool (decide (k.dat = r.dat)) ∧ A' = []) := by
  refine Ct.intro Tryz.func12 rfl Tryz.ntmps12 (lb rfl) fun w0 hpre => ?_
  obtain ⟨hs_1, hs_2, hs_3, hs_4, hs_5⟩ := seesN hpre.1
  have hs_6 : Sees w0 (.slice k.a1 k.txs.length k.c1) 10 k.txs.length (k.txs.flatMap encX) := (hs_3).head
  have hi_7 : SeesA w0 (k.txs.flatMap rdsX) := (hs_3).tail
  have hs_8 : Sees w0 (.slice k.dk.a k.dk.l.length k.dk.c) 3 k.dk.l.length (k.dk.l.flatMap encO) := (hs_4).head
  have hi_9 : SeesA w0 (k.dk.l.flatMap rdsO) := (hs_4).tail
  have hs_10 : Sees w0 (.slice k.a2 k.hist.length k.c2) 8 k.hist.length (k.hist.flatMap encE) := (hs_5).head
  have hi_11 : SeesA w0 (k.hist.flatMap rdsE) := (hs_5).tail
  obtain ⟨hs_12, hs_13, hs_14, hs_15, hs_16⟩ := seesN hpre.2
  have hs_17 : Sees w0 (.slice r.a1 r.txs.length r.c1) 10 r.txs.length (r.txs.flatMap encX) := (hs_14).head
  have hi_18 : SeesA w0 (r.txs.flatMap rdsX) := (hs_14).tail
  have hs_19 : Sees w0 (.slice r.dk.a r.dk.l.length r.dk.c) 3 r.dk.l.length (r.dk.l.flatMap encO) := (hs_15).head
  have hi_20 : SeesA w0 (r.dk.l.flatMap rdsO) := (hs_15).tail
  have hs_21 : Sees w0 (.slice r.a2 r.hist.length r.c2) 8 r.hist.length (r.hist.flatMap encE) := (hs_16).head
  have hi_22 : SeesA w0 (r.hist.flatMap rdsE) := (hs_16).tail
  have hm0 : k.store.length ≤ 1000000000 := hl.l0
  have hm6 : k.seen.length ≤ 1000000000 := hl.l6
  have hm1 : k.txs.length ≤ 1000000000 := by have := hl.l1; simpa only [KX.dat, List.length_map] using this
  have hm2 : ∀ q ∈ k.txs, q.t.lim 1000000000 := fun q hq => hl.l2 _ (List.mem_map_of_mem hq)
  have hm4 : k.hist.length ≤ 1000000000 := by have := hl.l4; simpa only [KX.dat, List.length_map] using this
  have hm5 : ∀ q ∈ k.hist, q.t.lim 1000000000 := fun q hq => hl.l5 _ (List.mem_map_of_mem hq)
  refine jC <| jE ?_
  refine jH rfl (jm (cs := [.slice k.a0 k.store.length k.c0, .slice k.a1 k.txs.length k.c1, .slice k.dk.a k.dk.l.length k.dk.c, str k.dk.jt, iv k.dk.js, iv k.seq, iv k.next, iv k.time, .slice k.a2 k.hist.length k.c2, .slice k.a3 k.seen.length k.c3, .bool k.room]) rfl rfl) ?_
  rintro _ _ ⟨b_23, rfl, rfl⟩
  refine jH rfl (jm (cs := [.slice r.a0 r.store.length r.c0, .slice r.a1 r.txs.length r.c1, .slice r.dk.a r.dk.l.length r.dk.c, str r.dk.jt, iv r.dk.js, iv r.seq, iv r.next, iv r.time, .slice r.a2 r.hist.length r.c2, .slice r.a3 r.seen.length r.c3, .bool r.room]) rfl rfl) ?_
  rintro _ _ ⟨b_24, rfl, rfl⟩
  refine jA (jG (v := .bool false) rfl) <| jD <| jB <| jC <| jC <| jE <| jA (jI fo42_0 rfl) <| jK (jR 1 (v := .slice k.a0 k.store.length k.c0) rfl rfl kx rfl) <| jA (jI fo42_0 rfl) <| jK (jR 0 (v := .slice r.a0 r.store.length r.c0) rfl rfl kx rfl) ?_
  refine jH rfl (jU [] Tryz.call39 rfl (C_eqCellS k.a0 r.a0 k.c0 r.c0 k.store r.store (by omega)) rfl (fun w hw => ⟨hw.seeOut_ hs_1 nM, hw.seeOut_ hs_12 nM⟩)) ?_
  rintro _ _ ⟨_, ⟨rfl, rfl⟩, rfl⟩
  refine jA (kE rfl) <| jD <| jB ?_
  by_cases h_25 : k.store = r.store
  · refine jP (cB (cN (dT h_25))) <| jQ <| jB <| jC <| jC <| jE <| jA (jI fo42_1 rfl) <| jK (jR 1 (v := .slice k.a1 k.txs.length k.c1) rfl rfl kw rfl) <| jA (jI fo42_1 rfl) <| jK (jR 0 (v := .slice r.a1 r.txs.length r.c1) rfl rfl kw rfl) ?_
    refine jH rfl (jU [] Tryz.call40 rfl (C_eqTxS k.a1 r.a1 k.c1 r.c1 k.txs r.txs (by omega) hm2) rfl (fun w hw => ⟨SeesA.cons (hw.seeOut_ hs_6 nM) (hw.seeOutA hi_7 nMA), SeesA.cons (hw.seeOut_ hs_17 nM) (hw.seeOutA hi_18 nMA)⟩)) ?_
    rintro _ _ ⟨_, ⟨rfl, rfl⟩, rfl⟩
    refine jA (kE rfl) <| jD <| jB ?_
    by_cases h_26 : k.txs.map TX.t = r.txs.map TX.t
    · refine jP (cB (cN (dT h_26))) <| jQ <| jB <| jC <| jC <| jE <| jA (jI fo42_2 rfl) <| jK (jg 1 (vs := [.slice k.dk.a k.dk.l.length k.dk.c, str k.dk.jt, iv k.dk.js]) rfl rfl kz kq rfl rfl) <| jA (jI fo42_2 rfl) <| jK (jg 0 (vs := [.slice r.dk.a r.dk.l.length r.dk.c, str r.dk.jt, iv r.dk.js]) rfl rfl kz kq rfl rfl) ?_
      refine jH rfl (jU [] Tryz.call41 rfl (C_eqDisk k.dk r.dk hl.l3) rfl (fun w hw => ⟨hw.seeOutA hs_4 nMA, hw.seeOutA hs_15 nMA⟩)) ?_
      rintro _ _ ⟨_, ⟨rfl, rfl⟩, rfl⟩
      refine jA (kE rfl) <| jD <| jB ?_
      by_cases h_27 : k.dk.dat = r.dk.dat
      · refine jP (cB (cN (dT h_27))) <| jQ <| jB <| jC <| jC <| jE <| jA (jI fo42_3 rfl) <| jK (jR 1 (v := iv k.seq) rfl rfl kR rfl) <| jA (jI fo42_3 rfl) <| jK (jR 0 (v := iv r.seq) rfl rfl kR rfl) ?_
        refine jA (jz rfl rfl) <| jD <| jB ?_
        by_cases h_28 : k.seq = r.seq
        · refine jP (cB (cN (dT h_28))) <| jQ <| jB <| jC <| jC <| jE <| jA (jI fo42_4 rfl) <| jK (jR 1 (v := iv k.next) rfl rfl kR rfl) <| jA (jI fo42_4 rfl) <| jK (jR 0 (v := iv r.next) rfl rfl kR rfl) ?_
          refine jA (jz rfl rfl) <| jD <| jB ?_
          by_cases h_29 : k.next = r.next
          · refine jP (cB (cN (dT h_29))) <| jQ <| jB <| jC <| jC <| jE <| jA (jI fo42_5 rfl) <| jK (jR 1 (v := iv k.time) rfl rfl kR rfl) <| jA (jI fo42_5 rfl) <| jK (jR 0 (v := iv r.time) rfl rfl kR rfl) ?_
            refine jA (jz rfl rfl) <| jD <| jB ?_
            by_cases h_30 : k.time = r.time
            · refine jP (cB (cN (dT h_30))) <| jQ <| jB <| jC <| jC <| jE <| jA (jI fo42_6 rfl) <| jK (jR 1 (v := .slice k.a2 k.hist.length k.c2) rfl rfl Tryz.isAgg40 rfl) <| jA (jI fo42_6 rfl) <| jK (jR 0 (v := .slice r.a2 r.hist.length r.c2) rfl rfl Tryz.isAgg40 rfl) ?_
              refine jH rfl (jU [] Tryz.call42 rfl (C_eqEntryS k.a2 r.a2 k.c2 r.c2 k.hist r.hist (by omega) hm5) rfl (fun w hw => ⟨SeesA.cons (hw.seeOut_ hs_10 nM) (hw.seeOutA hi_11 nMA), SeesA.cons (hw.seeOut_ hs_21 nM) (hw.seeOutA hi_22 nMA)⟩)) ?_
              rintro _ _ ⟨_, ⟨rfl, rfl⟩, rfl⟩
              refine jA (kE rfl) <| jD <| jB ?_
              by_cases h_31 : k.hist.map EX.t = r.hist.map EX.t
              · refine jP (cB (cN (dT h_31))) <| jQ <| jB <| jC <| jC <| jE <| jA (jI fo42_7 rfl) <| jK (jR 1 (v := .slice k.a3 k.seen.length k.c3) rfl rfl ka rfl) <| jA (jI fo42_7 rfl) <| jK (jR 0 (v := .slice r.a3 r.seen.length r.c3) rfl rfl ka rfl) ?_
                refine jH rfl (jU [] Tryz.call43 rfl (C_eqStringS k.a3 r.a3 k.c3 r.c3 k.seen r.seen (by omega)) rfl (fun w hw => ⟨hw.seeOut_ hs_2 nM, hw.seeOut_ hs_13 nM⟩)) ?_
                rintro _ _ ⟨_, ⟨rfl, rfl⟩, rfl⟩
                refine jA (kE rfl) <| jD <| jB ?_
                by_cases h_32 : k.seen = r.seen
                · refine jP (cB (cN (dT h_32))) <| jQ <| jB <| jC <| jC <| jE <| jA (jI fo42_8 rfl) <| jK (jR 1 (v := .bool k.room) rfl rfl ky rfl) <| jA (jI fo42_8 rfl) <| jK (jR 0 (v := .bool r.room) rfl rfl ky rfl) ?_
                  refine jA (PO.neqB Tryz.underlying4 rfl rfl) <| jD <| jB ?_
                  by_cases h_33 : k.room = r.room
                  · refine jP (cB (cN (dT h_33))) <| jQ <| jB <| jC <| jE <| jA (jG (v := .bool true) rfl) <| jD <| jB <| jJ <| jL (.inl rfl) rfl (jM (v := .bool true) rfl) (List.nil_sublist _) ?_
                    exact ⟨cB (dT (KD.same.2 ⟨by assumption, by assumption, by assumption, by assumption, by assumption, by assumption, by assumption, by assumption, by assumption⟩)).symm, rfl⟩
                  refine jS (cB (cN (dF h_33))) <| jC <| jE <| jA (jG (v := .bool false) rfl) <| jD <| jB <| jJ <| jO <| jL (.inl rfl) rfl (jM (v := .bool false) rfl) (List.nil_sublist _) ?_
                  exact ⟨cB (dF (fun h_ => by obtain ⟨h_0, h_1, h_2, h_3, h_4, h_5, h_6, h_7, h_8⟩ := KD.same.1 h_; first | exact absurd (show k.store = r.store from h_0) (by assumption) | exact absurd (show k.txs.map TX.t = r.txs.map TX.t from h_1) (by assumption) | exact absurd (show k.dk.dat = r.dk.dat from h_2) (by assumption) | exact absurd (show k.seq = r.seq from h_3) (by assumption) | exact absurd (show k.next = r.next from h_4) (by assumption) | exact absurd (show k.time = r.time from h_5) (by assumption) | exact absurd (show k.hist.map EX.t = r.hist.map EX.t from h_6) (by assumption) | exact absurd (show k.seen = r.seen from h_7) (by assumption) | exact absurd (show k.room = r.room from h_8) (by assumption))).symm, rfl⟩
                refine jS (cB (cN (dF h_32))) <| jC <| jE <| jA (jG (v := .bool false) rfl) <| jD <| jB <| jJ <| jO <| jL (.inl rfl) rfl (jM (v := .bool false) rfl) (List.nil_sublist _) ?_
                exact ⟨cB (dF (fun h_ => by obtain ⟨h_0, h_1, h_2, h_3, h_4, h_5, h_6, h_7, h_8⟩ := KD.same.1 h_; first | exact absurd (show k.store = r.store from h_0) (by assumption) | exact absurd (show k.txs.map TX.t = r.txs.map TX.t from h_1) (by assumption) | exact absurd (show k.dk.dat = r.dk.dat from h_2) (by assumption) | exact absurd (show k.seq = r.seq from h_3) (by assumption) | exact absurd (show k.next = r.next from h_4) (by assumption) | exact absurd (show k.time = r.time from h_5) (by assumption) | exact absurd (show k.hist.map EX.t = r.hist.map EX.t from h_6) (by assumption) | exact absurd (show k.seen = r.seen from h_7) (by assumption) | exact absurd (show k.room = r.room from h_8) (by assumption))).symm, rfl⟩
              refine jS (cB (cN (dF h_31))) <| jC <| jE <| jA (jG (v := .bool false) rfl) <| jD <| jB <| jJ <| jO <| jL (.inl rfl) rfl (jM (v := .bool false) rfl) (List.nil_sublist _) ?_
              exact ⟨cB (dF (fun h_ => by obtain ⟨h_0, h_1, h_2, h_3, h_4, h_5, h_6, h_7, h_8⟩ := KD.same.1 h_; first | exact absurd (show k.store = r.store from h_0) (by assumption) | exact absurd (show k.txs.map TX.t = r.txs.map TX.t from h_1) (by assumption) | exact absurd (show k.dk.dat = r.dk.dat from h_2) (by assumption) | exact absurd (show k.seq = r.seq from h_3) (by assumption) | exact absurd (show k.next = r.next from h_4) (by assumption) | exact absurd (show k.time = r.time from h_5) (by assumption) | exact absurd (show k.hist.map EX.t = r.hist.map EX.t from h_6) (by assumption) | exact absurd (show k.seen = r.seen from h_7) (by assumption) | exact absurd (show k.room = r.room from h_8) (by assumption))).symm, rfl⟩
            refine jS (cB (cN (dF h_30))) <| jC <| jE <| jA (jG (v := .bool false) rfl) <| jD <| jB <| jJ <| jO <| jL (.inl rfl) rfl (jM (v := .bool false) rfl) (List.nil_sublist _) ?_
            exact ⟨cB (dF (fun h_ => by obtain ⟨h_0, h_1, h_2, h_3, h_4, h_5, h_6, h_7, h_8⟩ := KD.same.1 h_; first | exact absurd (show k.store = r.store from h_0) (by assumption) | exact absurd (show k.txs.map TX.t = r.txs.map TX.t from h_1) (by assumption) | exact absurd (show k.dk.dat = r.dk.dat from h_2) (by assumption) | exact absurd (show k.seq = r.seq from h_3) (by assumption) | exact absurd (show k.next = r.next from h_4) (by assumption) | exact absurd (show k.time = r.time from h_5) (by assumption) | exact absurd (show k.hist.map EX.t = r.hist.map EX.t from h_6) (by assumption) | exact absurd (show k.seen = r.seen from h_7) (by assumption) | exact absurd (show k.room = r.room from h_8) (by assumption))).symm, rfl⟩
          refine jS (cB (cN (dF h_29))) <| jC <| jE <| jA (jG (v := .bool false) rfl) <| jD <| jB <| jJ <| jO <| jL (.inl rfl) rfl (jM (v := .bool false) rfl) (List.nil_sublist _) ?_
          exact ⟨cB (dF (fun h_ => by obtain ⟨h_0, h_1, h_2, h_3, h_4, h_5, h_6, h_7, h_8⟩ := KD.same.1 h_; first | exact absurd (show k.store = r.store from h_0) (by assumption) | exact absurd (show k.txs.map TX.t = r.txs.map TX.t from h_1) (by assumption) | exact absurd (show k.dk.dat = r.dk.dat from h_2) (by assumption) | exact absurd (show k.seq = r.seq from h_3) (by assumption) | exact absurd (show k.next = r.next from h_4) (by assumption) | exact absurd (show k.time = r.time from h_5) (by assumption) | exact absurd (show k.hist.map EX.t = r.hist.map EX.t from h_6) (by assumption) | exact absurd (show k.seen = r.seen from h_7) (by assumption) | exact absurd (show k.room = r.room from h_8) (by assumption))).symm, rfl⟩
        refine jS (cB (cN (dF h_28))) <| jC <| jE <| jA (jG (v := .bool false) rfl) <| jD <| jB <| jJ <| jO <| jL (.inl rfl) rfl (jM (v := .bool false) rfl) (List.nil_sublist _) ?_
        exact ⟨cB (dF (fun h_ => by obtain ⟨h_0, h_1, h_2, h_3, h_4, h_5, h_6, h_7, h_8⟩ := KD.same.1 h_; first | exact absurd (show k.store = r.store from h_0) (by assumption) | exact absurd (show k.txs.map TX.t = r.txs.map TX.t from h_1) (by assumption) | exact absurd (show k.dk.dat = r.dk.dat from h_2) (by assumption) | exact absurd (show k.seq = r.seq from h_3) (by assumption) | exact absurd (show k.next = r.next from h_4) (by assumption) | exact absurd (show k.time = r.time from h_5) (by assumption) | exact absurd (show k.hist.map EX.t = r.hist.map EX.t from h_6) (by assumption) | exact absurd (show k.seen = r.seen from h_7) (by assumption) | exact absurd (show k.room = r.room from h_8) (by assumption))).symm, rfl⟩
      refine jS (cB (cN (dF h_27))) <| jC <| jE <| jA (jG (v := .bool false) rfl) <| jD <| jB <| jJ <| jO <| jL (.inl rfl) rfl (jM (v := .bool false) rfl) (List.nil_sublist _) ?_
      exact ⟨cB (dF (fun h_ => by obtain ⟨h_0, h_1, h_2, h_3, h_4, h_5, h_6, h_7, h_8⟩ := KD.same.1 h_; first | exact absurd (show k.store = r.store from h_0) (by assumption) | exact absurd (show k.txs.map TX.t = r.txs.map TX.t from h_1) (by assumption) | exact absurd (show k.dk.dat = r.dk.dat from h_2) (by assumption) | exact absurd (show k.seq = r.seq from h_3) (by assumption) | exact absurd (show k.next = r.next from h_4) (by assumption) | exact absurd (show k.time = r.time from h_5) (by assumption) | exact absurd (show k.hist.map EX.t = r.hist.map EX.t from h_6) (by assumption) | exact absurd (show k.seen = r.seen from h_7) (by assumption) | exact absurd (show k.room = r.room from h_8) (by assumption))).symm, rfl⟩
    refine jS (cB (cN (dF h_26))) <| jC <| jE <| jA (jG (v := .bool false) rfl) <| jD <| jB <| jJ <| jO <| jL (.inl rfl) rfl (jM (v := .bool false) rfl) (List.nil_sublist _) ?_
    exact ⟨cB (dF (fun h_ => by obtain ⟨h_0, h_1, h_2, h_3, h_4, h_5, h_6, h_7, h_8⟩ := KD.same.1 h_; first | exact absurd (show k.store = r.store from h_0) (by assumption) | exact absurd (show k.txs.map TX.t = r.txs.map TX.t from h_1) (by assumption) | exact absurd (show k.dk.dat = r.dk.dat from h_2) (by assumption) | exact absurd (show k.seq = r.seq from h_3) (by assumption) | exact absurd (show k.next = r.next from h_4) (by assumption) | exact absurd (show k.time = r.time from h_5) (by assumption) | exact absurd (show k.hist.map EX.t = r.hist.map EX.t from h_6) (by assumption) | exact absurd (show k.seen = r.seen from h_7) (by assumption) | exact absurd (show k.room = r.room from h_8) (by assumption))).symm, rfl⟩
  refine jS (cB (cN (dF h_25))) <| jC <| jE <| jA (jG (v := .bool false) rfl) <| jD <| jB <| jJ <| jO <| jL (.inl rfl) rfl (jM (v := .bool false) rfl) (List.nil_sublist _) ?_
  exact ⟨cB (dF (fun h_ => by obtain ⟨h_0, h_1, h_2, h_3, h_4, h_5, h_6, h_7, h_8⟩ := KD.same.1 h_; first | exact absurd (show k.store = r.store from h_0) (by assumption) | exact absurd (show k.txs.map TX.t = r.txs.map TX.t from h_1) (by assumption) | exact absurd (show k.dk.dat = r.dk.dat from h_2) (by assumption) | exact absurd (show k.seq = r.seq from h_3) (by assumption) | exact absurd (show k.next = r.next from h_4) (by assumption) | exact absurd (show k.time = r.time from h_5) (by assumption) | exact absurd (show k.hist.map EX.t = r.hist.map EX.t from h_6) (by assumption) | exact absurd (show k.seen = r.seen from h_7) (by assumption) | exact absurd (show k.room = r.room from h_8) (by assumption))).symm, rfl⟩

theorem C_markKernel (k : KX) (m : Nat) (h0 : 0 < m) (h1 : m + k.cnt ≤ 100000000) (hl : k.dat.lim 1000000000) :
    Ct Tryz.prog 13 [.agg #[.slice k.a0 k.store.length k.c0, .slice k.a1 k.txs.length k.c1, .slice k.dk.a k.dk.l.length k.dk.c, str k.dk.jt, .int .i64 k.dk.js, .int .i64 k.seq, .int .i64 k.next, .int .i64 k.time, .slice k.a2 k.hist.length k.c2, .slice k.a3 k.seen.length k.c3, .bool k.room], .int .i64 ((m : Nat) : Int)] [Res.rows (rdsN k)] (fun _ => True) (fun v A' => v = .int .i64 ((m + k.cnt : Nat) : Int) ∧ A' = [.rows (rdsN (mkN k m))]) := by
  refine Ct.intro Tryz.func13 rfl Tryz.ntmps13 (lb rfl) fun w0 hpre => ?_
  have hm0 : k.store.length ≤ 1000000000 := hl.l0
  have hm6 : k.seen.length ≤ 1000000000 := hl.l6
  have hm1 : k.txs.length ≤ 1000000000 := by have := hl.l1; simpa only [KX.dat, List.length_map] using this
  have hm2 : ∀ q ∈ k.txs, q.t.lim 1000000000 := fun q hq => hl.l2 _ (List.mem_map_of_mem hq)
  have hm4 : k.hist.length ≤ 1000000000 := by have := hl.l4; simpa only [KX.dat, List.length_map] using this
  have hm5 : ∀ q ∈ k.hist, q.t.lim 1000000000 := fun q hq => hl.l5 _ (List.mem_map_of_mem hq)
  have hm3 : k.dk.l.length ≤ 1000000000 := by have := hl.l3.l0; simpa only [KX.dat, DX.dat, List.length_map] using this
  have hcn : k.cnt = 2 * k.store.length + cntV cntX k.txs + cntV cntO k.dk.l + cntV cntE k.hist + k.seen.length := rfl
  refine kP (L' := [rC k.a0 k.c0 k.store, rS k.a3 k.c3 k.seen, Res.rows (rdsXS k.a1 k.c1 k.txs), Res.rows (rdsD k.dk), Res.rows (rdsES k.a2 k.c2 k.hist)]) (fun w hw => hw.openN) <| jC <| jE ?_
  refine jH rfl (jm (cs := [.slice k.a0 k.store.length k.c0, .slice k.a1 k.txs.length k.c1, .slice k.dk.a k.dk.l.length k.dk.c, str k.dk.jt, iv k.dk.js, iv k.seq, iv k.next, iv k.time, .slice k.a2 k.hist.length k.c2, .slice k.a3 k.seen.length k.c3, .bool k.room]) rfl rfl) ?_
  rintro _ _ ⟨b_1, rfl, rfl⟩
  refine jA (jG (v := iv 0) rfl) <| jD <| jB <| jC <| jE <| jA (jI fo42_0 rfl) <| jK (jR 0 (v := .slice k.a0 k.store.length k.c0) rfl rfl kx rfl) <| jA (jF (v := nv m) rfl) ?_
  refine jH rfl (jU [1] Tryz.call44 rfl (C_markCellS k.a0 k.c0 k.store m (by omega) (by omega)) rfl (fun _ _ => trivial)) ?_
  rintro _ _ ⟨_, ⟨rfl, rfl⟩, rfl⟩
  refine jA (jG (v := iv ((m + 2 * k.store.length : Nat) : Int)) rfl) <| jD <| jB <| jC <| jE <| jA (jI fo42_1 rfl) <| jK (jR 1 (v := .slice k.a1 k.txs.length k.c1) rfl rfl kw rfl) <| jA (jF (v := iv ((m + 2 * k.store.length : Nat) : Int)) rfl) ?_
  refine jH rfl (jU [3] Tryz.call45 rfl (C_markTxS k.a1 k.c1 k.txs (m + 2 * k.store.length) (by omega) (by omega) (by omega)) rfl (fun _ _ => trivial)) ?_
  rintro _ _ ⟨_, ⟨rfl, rfl⟩, rfl⟩
  refine jA (jG (v := iv ((m + 2 * k.store.length + cntV cntX k.txs : Nat) : Int)) rfl) <| jD <| jB <| jC <| jE <| jA (jI fo42_2 rfl) <| jK (jg 2 (vs := [.slice k.dk.a k.dk.l.length k.dk.c, str k.dk.jt, iv k.dk.js]) rfl rfl kz kq rfl rfl) <| jA (jF (v := iv ((m + 2 * k.store.length + cntV cntX k.txs : Nat) : Int)) rfl) ?_
  refine jH rfl (jU [4] Tryz.call46 rfl (C_markDisk k.dk (m + 2 * k.store.length + cntV cntX k.txs) (by omega) (by omega) (by omega)) rfl (fun _ _ => trivial)) ?_
  rintro _ _ ⟨_, ⟨rfl, rfl⟩, rfl⟩
  refine jA (jG (v := iv ((m + 2 * k.store.length + cntV cntX k.txs + cntV cntO k.dk.l : Nat) : Int)) rfl) <| jD <| jB <| jC <| jE <| jA (jI fo42_6 rfl) <| jK (jR 3 (v := .slice k.a2 k.hist.length k.c2) rfl rfl Tryz.isAgg40 rfl) <| jA (jF (v := iv ((m + 2 * k.store.length + cntV cntX k.txs + cntV cntO k.dk.l : Nat) : Int)) rfl) ?_
  refine jH rfl (jU [5] Tryz.call47 rfl (C_markEntryS k.a2 k.c2 k.hist (m + 2 * k.store.length + cntV cntX k.txs + cntV cntO k.dk.l) (by omega) (by omega) (by omega)) rfl (fun _ _ => trivial)) ?_
  rintro _ _ ⟨_, ⟨rfl, rfl⟩, rfl⟩
  refine jA (jG (v := iv ((m + 2 * k.store.length + cntV cntX k.txs + cntV cntO k.dk.l + cntV cntE k.hist : Nat) : Int)) rfl) <| jD <| jB <| jC <| jE <| jA (jI fo42_7 rfl) <| jK (jR 4 (v := .slice k.a3 k.seen.length k.c3) rfl rfl ka rfl) <| jA (jF (v := iv ((m + 2 * k.store.length + cntV cntX k.txs + cntV cntO k.dk.l + cntV cntE k.hist : Nat) : Int)) rfl) ?_
  refine jH rfl (jU [5] Tryz.call48 rfl (C_markStringS k.a3 k.c3 k.seen (m + 2 * k.store.length + cntV cntX k.txs + cntV cntO k.dk.l + cntV cntE k.hist) (by omega) (by omega)) rfl (fun _ _ => trivial)) ?_
  rintro _ _ ⟨_, ⟨rfl, rfl⟩, rfl⟩
  refine jA (jG (v := iv ((m + 2 * k.store.length + cntV cntX k.txs + cntV cntO k.dk.l + cntV cntE k.hist + k.seen.length : Nat) : Int)) rfl) <| jD <| jB <| jC <| jE <| jA (jF (v := iv ((m + 2 * k.store.length + cntV cntX k.txs + cntV cntO k.dk.l + cntV cntE k.hist + k.seen.length : Nat) : Int)) rfl) <| jA (jG (v := iv ((m + 2 * k.store.length + cntV cntX k.txs + cntV cntO k.dk.l + cntV cntE k.hist + k.seen.length : Nat) : Int)) rfl) <| jD <| jB <| jJ ?_
  refine kL [4, 0, 2, 1, 0] (A := [Res.row (.slice k.a0 k.store.length k.c0) 131 2 k.store.length ((markC k.store (m)).flatMap encC), Res.row (.slice k.a3 k.seen.length k.c3) 9 1 k.seen.length ((markS k.seen (m + 2 * k.store.length + cntV cntX k.txs + cntV cntO k.dk.l + cntV cntE k.hist)).map str), Res.rows (rdsXS k.a1 k.c1 (markV mkX cntX k.txs (m + 2 * k.store.length))), Res.rows (rdsOS k.dk.a k.dk.c (markV mkO cntO k.dk.l (m + 2 * k.store.length + cntV cntX k.txs))), Res.rows (rdsES k.a2 k.c2 (markV mkE cntE k.hist (m + 2 * k.store.length + cntV cntX k.txs + cntV cntO k.dk.l)))]) rfl <| jv (L' := [Res.rows (rdsN (mkN k m))]) (fun w hw => St.markN hw) <| jL (.inl rfl) rfl (jM (v := iv ((m + 2 * k.store.length + cntV cntX k.txs + cntV cntO k.dk.l + cntV cntE k.hist + k.seen.length : Nat) : Int)) rfl) (List.Sublist.refl _) ?_
  exact ⟨congrArg (Value.int .i64) (by omega), rfl⟩

theorem C_heldKernel (k : KX) (m : Nat) (h0 : 0 < m) (h1 : m + k.cnt ≤ 100000000) (hl : k.dat.lim 1000000000) :
    Ct Tryz.prog 14 [.agg #[.slice k.a0 k.store.length k.c0, .slice k.a1 k.txs.length k.c1, .slice k.dk.a k.dk.l.length k.dk.c, str k.dk.jt, .int .i64 k.dk.js, .int .i64 k.seq, .int .i64 k.next, .int .i64 k.time, .slice k.a2 k.hist.length k.c2, .slice k.a3 k.seen.length k.c3, .bool k.room], .int .i64 ((m : Nat) : Int)] [] (fun w => SeesA w (rdsN (mkN k m))) (fun v A' => v = .int .i64 ((m + k.cnt : Nat) : Int) ∧ A' = []) := by
  refine Ct.intro Tryz.func14 rfl Tryz.ntmps14 (lb rfl) fun w0 hpre => ?_
  have hm0 : k.store.length ≤ 1000000000 := hl.l0
  have hm6 : k.seen.length ≤ 1000000000 := hl.l6
  have hm1 : k.txs.length ≤ 1000000000 := by have := hl.l1; simpa only [KX.dat, List.length_map] using this
  have hm2 : ∀ q ∈ k.txs, q.t.lim 1000000000 := fun q hq => hl.l2 _ (List.mem_map_of_mem hq)
  have hm4 : k.hist.length ≤ 1000000000 := by have := hl.l4; simpa only [KX.dat, List.length_map] using this
  have hm5 : ∀ q ∈ k.hist, q.t.lim 1000000000 := fun q hq => hl.l5 _ (List.mem_map_of_mem hq)
  have hm3 : k.dk.l.length ≤ 1000000000 := by have := hl.l3.l0; simpa only [KX.dat, DX.dat, List.length_map] using this
  have hcn : k.cnt = 2 * k.store.length + cntV cntX k.txs + cntV cntO k.dk.l + cntV cntE k.hist + k.seen.length := rfl
  obtain ⟨hsa, hsb, hsc, hsd, hse⟩ := seesN_mk' hpre
  refine jC <| jE ?_
  refine jH rfl (jm (cs := [.slice k.a0 k.store.length k.c0, .slice k.a1 k.txs.length k.c1, .slice k.dk.a k.dk.l.length k.dk.c, str k.dk.jt, iv k.dk.js, iv k.seq, iv k.next, iv k.time, .slice k.a2 k.hist.length k.c2, .slice k.a3 k.seen.length k.c3, .bool k.room]) rfl rfl) ?_
  rintro _ _ ⟨b_1, rfl, rfl⟩
  refine jA (jG (v := iv 0) rfl) <| jD <| jB <| jC <| jE <| jA (jI fo42_0 rfl) <| jK (jR 0 (v := .slice k.a0 k.store.length k.c0) rfl rfl kx rfl) <| jA (jF (v := nv m) rfl) ?_
  refine jH rfl (jU [] Tryz.call49 rfl (Y_heldCellS k.a0 k.c0 k.store m (by omega) (by omega)) rfl (fun w hw => hw.seeOut_ hsa nM)) ?_
  rintro _ _ ⟨_, ⟨rfl, rfl⟩, rfl⟩
  refine jA (jG (v := iv ((m + 2 * k.store.length : Nat) : Int)) rfl) <| jD <| jB <| jC <| jC <| jE <| jA (jF (v := iv ((m + 2 * k.store.length : Nat) : Int)) rfl) <| jA (jc rfl rfl) <| jD <| jB ?_
  by_cases h_2 : ((m + 2 * k.store.length : Nat) : Int) < 0
  · refine jS (cB (dT h_2)) <| jC <| jE <| jA (jG (v := iv (-1)) rfl) <| jD <| jB <| jJ <| jO <| jL (.inl rfl) rfl (jM (v := iv (-1)) rfl) (List.nil_sublist _) ?_
    exfalso
    omega
  refine jP (cB (dF h_2)) <| jQ <| jB <| jC <| jE <| jA (jI fo42_1 rfl) <| jK (jR 0 (v := .slice k.a1 k.txs.length k.c1) rfl rfl kw rfl) <| jA (jF (v := iv ((m + 2 * k.store.length : Nat) : Int)) rfl) ?_
  refine jH rfl (jU [] Tryz.call50 rfl (C_heldTxS k.a1 k.c1 k.txs (m + 2 * k.store.length) (by omega) (by omega) (by omega)) rfl (fun w hw => hw.seeOutA hsc nMA)) ?_
  rintro _ _ ⟨_, ⟨rfl, rfl⟩, rfl⟩
  refine jA (jG (v := iv ((m + 2 * k.store.length + cntV cntX k.txs : Nat) : Int)) rfl) <| jD <| jB <| jC <| jC <| jE <| jA (jF (v := iv ((m + 2 * k.store.length + cntV cntX k.txs : Nat) : Int)) rfl) <| jA (jc rfl rfl) <| jD <| jB ?_
  by_cases h_3 : ((m + 2 * k.store.length + cntV cntX k.txs : Nat) : Int) < 0
  · refine jS (cB (dT h_3)) <| jC <| jE <| jA (jG (v := iv (-1)) rfl) <| jD <| jB <| jJ <| jO <| jL (.inl rfl) rfl (jM (v := iv (-1)) rfl) (List.nil_sublist _) ?_
    exfalso
    omega
  refine jP (cB (dF h_3)) <| jQ <| jB <| jC <| jE <| jA (jI fo42_2 rfl) <| jK (jg 0 (vs := [.slice k.dk.a k.dk.l.length k.dk.c, str k.dk.jt, iv k.dk.js]) rfl rfl kz kq rfl rfl) <| jA (jF (v := iv ((m + 2 * k.store.length + cntV cntX k.txs : Nat) : Int)) rfl) ?_
  refine jH rfl (jU [] Tryz.call51 rfl (C_heldDisk k.dk (m + 2 * k.store.length + cntV cntX k.txs) (by omega) (by omega) (by omega)) rfl (fun w hw => hw.seeOutA hsd nMA)) ?_
  rintro _ _ ⟨_, ⟨rfl, rfl⟩, rfl⟩
  refine jA (jG (v := iv ((m + 2 * k.store.length + cntV cntX k.txs + cntV cntO k.dk.l : Nat) : Int)) rfl) <| jD <| jB <| jC <| jC <| jE <| jA (jF (v := iv ((m + 2 * k.store.length + cntV cntX k.txs + cntV cntO k.dk.l : Nat) : Int)) rfl) <| jA (jc rfl rfl) <| jD <| jB ?_
  by_cases h_4 : ((m + 2 * k.store.length + cntV cntX k.txs + cntV cntO k.dk.l : Nat) : Int) < 0
  · refine jS (cB (dT h_4)) <| jC <| jE <| jA (jG (v := iv (-1)) rfl) <| jD <| jB <| jJ <| jO <| jL (.inl rfl) rfl (jM (v := iv (-1)) rfl) (List.nil_sublist _) ?_
    exfalso
    omega
  refine jP (cB (dF h_4)) <| jQ <| jB <| jC <| jE <| jA (jI fo42_6 rfl) <| jK (jR 0 (v := .slice k.a2 k.hist.length k.c2) rfl rfl Tryz.isAgg40 rfl) <| jA (jF (v := iv ((m + 2 * k.store.length + cntV cntX k.txs + cntV cntO k.dk.l : Nat) : Int)) rfl) ?_
  refine jH rfl (jU [] Tryz.call52 rfl (C_heldEntryS k.a2 k.c2 k.hist (m + 2 * k.store.length + cntV cntX k.txs + cntV cntO k.dk.l) (by omega) (by omega) (by omega)) rfl (fun w hw => hw.seeOutA hse nMA)) ?_
  rintro _ _ ⟨_, ⟨rfl, rfl⟩, rfl⟩
  refine jA (jG (v := iv ((m + 2 * k.store.length + cntV cntX k.txs + cntV cntO k.dk.l + cntV cntE k.hist : Nat) : Int)) rfl) <| jD <| jB <| jC <| jC <| jE <| jA (jF (v := iv ((m + 2 * k.store.length + cntV cntX k.txs + cntV cntO k.dk.l + cntV cntE k.hist : Nat) : Int)) rfl) <| jA (jc rfl rfl) <| jD <| jB ?_
  by_cases h_5 : ((m + 2 * k.store.length + cntV cntX k.txs + cntV cntO k.dk.l + cntV cntE k.hist : Nat) : Int) < 0
  · refine jS (cB (dT h_5)) <| jC <| jE <| jA (jG (v := iv (-1)) rfl) <| jD <| jB <| jJ <| jO <| jL (.inl rfl) rfl (jM (v := iv (-1)) rfl) (List.nil_sublist _) ?_
    exfalso
    omega
  refine jP (cB (dF h_5)) <| jQ <| jB <| jC <| jE <| jA (jI fo42_7 rfl) <| jK (jR 0 (v := .slice k.a3 k.seen.length k.c3) rfl rfl ka rfl) <| jA (jF (v := iv ((m + 2 * k.store.length + cntV cntX k.txs + cntV cntO k.dk.l + cntV cntE k.hist : Nat) : Int)) rfl) ?_
  refine jH rfl (jU [] Tryz.call53 rfl (Y_heldStringS k.a3 k.c3 k.seen (m + 2 * k.store.length + cntV cntX k.txs + cntV cntO k.dk.l + cntV cntE k.hist) (by omega) (by omega)) rfl (fun w hw => hw.seeOut_ hsb nM)) ?_
  rintro _ _ ⟨_, ⟨rfl, rfl⟩, rfl⟩
  refine jA (jG (v := iv ((m + 2 * k.store.length + cntV cntX k.txs + cntV cntO k.dk.l + cntV cntE k.hist + k.seen.length : Nat) : Int)) rfl) <| jD <| jB <| jC <| jC <| jE <| jA (jF (v := iv ((m + 2 * k.store.length + cntV cntX k.txs + cntV cntO k.dk.l + cntV cntE k.hist + k.seen.length : Nat) : Int)) rfl) <| jA (jc rfl rfl) <| jD <| jB ?_
  by_cases h_6 : ((m + 2 * k.store.length + cntV cntX k.txs + cntV cntO k.dk.l + cntV cntE k.hist + k.seen.length : Nat) : Int) < 0
  · refine jS (cB (dT h_6)) <| jC <| jE <| jA (jG (v := iv (-1)) rfl) <| jD <| jB <| jJ <| jO <| jL (.inl rfl) rfl (jM (v := iv (-1)) rfl) (List.nil_sublist _) ?_
    exfalso
    omega
  refine jP (cB (dF h_6)) <| jQ <| jB <| jC <| jE <| jA (jF (v := iv ((m + 2 * k.store.length + cntV cntX k.txs + cntV cntO k.dk.l + cntV cntE k.hist + k.seen.length : Nat) : Int)) rfl) <| jA (jG (v := iv ((m + 2 * k.store.length + cntV cntX k.txs + cntV cntO k.dk.l + cntV cntE k.hist + k.seen.length : Nat) : Int)) rfl) <| jD <| jB <| jJ ?_
  refine jL (.inl rfl) rfl (jM (v := iv ((m + 2 * k.store.length + cntV cntX k.txs + cntV cntO k.dk.l + cntV cntE k.hist + k.seen.length : Nat) : Int)) rfl) (List.nil_sublist _) ?_
  exact ⟨congrArg (Value.int .i64) (by omega), rfl⟩

end Go.Proofs.YtkmpmjficoohkaaGreat
