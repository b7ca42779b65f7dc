/-
Texts of the walk, joined: what each one proves stands at its theorems.
-/
import Derived.Test.YthlfmbbaomdciaaGreatDoorXTxAskS28HARN
set_option linter.unusedSimpArgs false
set_option linter.unusedVariables false
set_option linter.unnecessarySimpa false
set_option maxHeartbeats 4000000
set_option maxRecDepth 4000
namespace Go.Proofs.YthlfmbbaomdciaaGreatDoor
open Go Go.RowKit
theorem flatK (m : Nat) : (List.replicate m [Value.int .i64 0, str [], str [], .int .i64 0, .int .i64 0, str []]).flatten = (List.replicate m k0).flatMap encK := flat_make (enc := encK) k0 m
theorem flatA (m : Nat) : (List.replicate m [Value.int .i64 0, .int .i64 0, str []]).flatten = (List.replicate m a0_).flatMap encA := flat_make (enc := encA) a0_ m
attribute [local irreducible] JL JC JQ JO LO PO JA JX Ct

theorem C_szAnswer (a : AN) (l : Int) (h0 : 0 ≤ l) (h1 : l ≤ 1048576) (ha : a.text.length ≤ 9223372036854775807) :
   Ct Tryz.prog 269 [.agg #[.int .i64 a.code, .int .i64 a.n, str a.text], .int .i64 l] [] (fun _ => True) (fun r A' => r = .int .i64 (szAnsF a l) ∧ A' = []) := by
 refine Ct.intro Tryz.func269 rfl Tryz.ntmps269 (lb rfl) fun w0 hpre => ?_
 refine go ?_
 refine jM [iv a.code, iv a.n, str a.text] fun b_1 => ?_
 refine go ?_
 refine jK (jg (c := l - (a.text.length : Int)) rfl rfl (wr (by omega))) ?_
 refine go ?_
 by_cases h_2 : (l - (a.text.length : Int)) < 0
 · refine go ?_
   refine jE (.inl rfl) rfl (jC (v := iv (-1)) rfl) (List.nil_sublist _) ?_
   refine ⟨congrArg (Value.int .i64) ?_, rfl⟩
   unfold szAnsF
   first | rw [if_pos (by omega)] | rw [if_neg (by omega)]
 refine go ?_
 refine jE (.inl rfl) rfl (jC (v := iv (l - (a.text.length : Int))) rfl) (List.nil_sublist _) ?_
 refine ⟨congrArg (Value.int .i64) ?_, rfl⟩
 unfold szAnsF
 first | rw [if_pos (by omega)] | rw [if_neg (by omega)]

theorem C_eqCall (a b : CL) :
   Ct Tryz.prog 273 [.agg #[.int .i64 a.kind, str a.name, str a.to_, .int .i64 a.a, .int .i64 a.b, str a.text], .agg #[.int .i64 b.kind, str b.name, str b.to_, .int .i64 b.a, .int .i64 b.b, str b.text]] [] (fun _ => True) (fun v A' => v = .bool (decide (a = b)) ∧ A' = []) := by
 refine Ct.intro Tryz.func273 rfl Tryz.ntmps273 (lb rfl) fun w0 hpre => ?_
 refine go ?_
 refine jM [iv a.kind, str a.name, str a.to_, iv a.a, iv a.b, str a.text] fun b_1 => ?_
 refine jM [iv b.kind, str b.name, str b.to_, iv b.a, iv b.b, str b.text] fun b_2 => ?_
 refine go ?_
 by_cases h_3 : a.kind = b.kind
 · refine go ?_
   by_cases h_4 : a.name = b.name
   · refine go ?_
     by_cases h_5 : a.to_ = b.to_
     · refine go ?_
       by_cases h_6 : a.a = b.a
       · refine go ?_
         by_cases h_7 : a.b = b.b
         · refine go ?_
           by_cases h_8 : a.text = b.text
           · refine go ?_
             refine jE (.inl rfl) rfl (jC (v := .bool true) rfl) (List.nil_sublist _) ?_
             refine ⟨cB ?_, rfl⟩
             exact (dT (by cases a; cases b; simp_all)).symm
           refine go ?_
           refine jE (.inl rfl) rfl (jC (v := .bool false) rfl) (List.nil_sublist _) ?_
           refine ⟨cB ?_, rfl⟩
           exact (dF (fun h_ => by subst h_; simp_all)).symm
         refine go ?_
         refine jE (.inl rfl) rfl (jC (v := .bool false) rfl) (List.nil_sublist _) ?_
         refine ⟨cB ?_, rfl⟩
         exact (dF (fun h_ => by subst h_; simp_all)).symm
       refine go ?_
       refine jE (.inl rfl) rfl (jC (v := .bool false) rfl) (List.nil_sublist _) ?_
       refine ⟨cB ?_, rfl⟩
       exact (dF (fun h_ => by subst h_; simp_all)).symm
     refine go ?_
     refine jE (.inl rfl) rfl (jC (v := .bool false) rfl) (List.nil_sublist _) ?_
     refine ⟨cB ?_, rfl⟩
     exact (dF (fun h_ => by subst h_; simp_all)).symm
   refine go ?_
   refine jE (.inl rfl) rfl (jC (v := .bool false) rfl) (List.nil_sublist _) ?_
   refine ⟨cB ?_, rfl⟩
   exact (dF (fun h_ => by subst h_; simp_all)).symm
 refine go ?_
 refine jE (.inl rfl) rfl (jC (v := .bool false) rfl) (List.nil_sublist _) ?_
 refine ⟨cB ?_, rfl⟩
 exact (dF (fun h_ => by subst h_; simp_all)).symm

theorem C_eqCallS (a b : Option Addr) (c c' : Nat) (s t : List CL) (hn : s.length ≤ 9223372036854775807) :
   Ct Tryz.prog 175 [.slice a s.length c, .slice b t.length c'] [] (fun w => Sees w (.slice a s.length c) 6 s.length (s.flatMap encK) ∧ Sees w (.slice b t.length c') 6 t.length (t.flatMap encK)) (fun r A' => r = .bool (decide (s = t)) ∧ A' = []) := by
 refine Ct.intro Tryz.func175 rfl Tryz.ntmps175 (lb rfl) fun w0 hpre => ?_
 have hs_a : Sees w0 _ _ _ _ := hpre.1
 have hs_b : Sees w0 _ _ _ _ := hpre.2
 refine go ?_
 by_cases h_1 : ((s.length : Nat) : Int) = ((t.length : Nat) : Int)
 · have hlen := h_1
   refine go ?_
   refine jL (fun k_ e_ L_ => ∃ j : Nat, (j ≤ s.length) ∧ (s.take j = t.take j) ∧ (s.length = t.length) ∧ EL e_ [(0, .slice a s.length c), (1, .slice b t.length c'), (5, nv j)] ∧ L_ = [] ∧ k_ = s.length - j) _ ⟨0, by omega, rfl, by omega, EL.go, rfl, rfl⟩ ?_
   rintro _ _ _ ⟨j, hj, hE, hln, ⟨_, rfl⟩, rfl, rfl⟩
   refine go ?_
   by_cases h_2 : ((j : Nat) : Int) < ((s.length : Nat) : Int)
   · have hlt : j < s.length := by omega
     refine go ?_
     refine jH [] 1000 ?_
     refine go ?_
     obtain ⟨hr_3, hr_3b, -⟩ := sees_some hs_a (by omega)
     refine go ?_
     refine jk 3 rfl (jj (vs := [iv ((s.getD j k0).kind), str ((s.getD j k0).name), str ((s.getD j k0).to_), iv ((s.getD j k0).a), iv ((s.getD j k0).b), str ((s.getD j k0).text)]) hs_a nM rfl ki kX (flat_take encK_len k0 s j (by omega)) rfl (by decide)) ?_
     refine go ?_
     obtain ⟨hr_4, hr_4b, -⟩ := sees_some hs_b (by omega)
     refine go ?_
     refine jk 7 rfl (jj (vs := [iv ((t.getD j k0).kind), str ((t.getD j k0).name), str ((t.getD j k0).to_), iv ((t.getD j k0).a), iv ((t.getD j k0).b), str ((t.getD j k0).text)]) hs_b nM rfl ki kX (flat_take encK_len k0 t j (by omega)) rfl (by decide)) ?_
     refine jB (i := 8) ?_
     refine jI [] (C_eqCall (s.getD j k0) (t.getD j k0)) ?_
     rintro _ _ ⟨rfl, rfl⟩
     refine go ?_
     by_cases h_5 : (s.getD j k0) = (t.getD j k0)
     · have heq := h_5
       refine go ?_
       refine jV (s.length - (j + 1)) (by omega) ⟨j + 1, by omega, take_succ_eq k0 hE hlt hln heq, hln, EL.go, rfl, rfl⟩
     have hne := h_5
     refine go ?_
     refine jE (.inl rfl) rfl (jC (v := .bool false) rfl) (List.nil_sublist _) ?_
     refine ⟨?_, rfl⟩
     rw [dF (fun h => hne (by rw [h]))]
   refine go ?_
   refine jE (.inl rfl) rfl (jC (v := .bool true) rfl) (List.nil_sublist _) ?_
   refine ⟨?_, rfl⟩
   rw [dT (take_all_eq hE (by omega) (by omega))]
 have hlen := h_1
 refine go ?_
 refine jE (.inl rfl) rfl (jC (v := .bool false) rfl) (List.nil_sublist _) ?_
 refine ⟨?_, rfl⟩
 rw [dF (fun h => by rw [h] at hlen; omega)]

theorem C_markCallS (a : Option Addr) (c : Nat) (l : List CL) (k : Nat) (h0 : 0 < k) (h1 : k + 6 * l.length ≤ 10000000000) :
   Ct Tryz.prog 181 [.slice a l.length c, .int .i64 ((k : Nat) : Int)] [Res.row (.slice a l.length c) 43 6 l.length (l.flatMap encK)] (fun _ => True) (fun v A' => v = .int .i64 ((k + 6 * l.length : Nat) : Int) ∧ A' = [.row (.slice a l.length c) 43 6 l.length ((markG mkK 6 l k).flatMap encK)]) := by
 refine Ct.intro Tryz.func181 rfl Tryz.ntmps181 (lb rfl) fun w0 hpre => ?_
 refine go ?_
 refine jL (fun k_ e_ L_ => ∃ j : Nat, (j ≤ l.length) ∧ EL e_ [(0, .slice a l.length c), (1, iv ((k + 6 * j : Nat) : Int)), (4, iv 0), (5, nv j)] ∧ L_ = [Res.row (.slice a l.length c) 43 6 l.length (((markG mkK 6 l k).take j ++ l.drop j).flatMap encK)] ∧ k_ = l.length - j) _ ⟨0, by omega, EL.go, rfl, rfl⟩ ?_
 rintro _ _ _ ⟨j, hj, ⟨_, rfl⟩, rfl, rfl⟩
 refine go ?_
 by_cases h_1 : ((j : Nat) : Int) < ((l.length : Nat) : Int)
 · have hlt : j < l.length := by omega
   refine go ?_
   refine jo fun hst => ?_
   obtain ⟨hr_2, hr_2b, -⟩ := row_some 0 rfl (by omega) hst
   refine go ?_
   refine jF rfl (jx 0 (vs := [iv ((k + 6 * j : Nat) : Int)]) (cs' := (((markG mkK 6 l k).take j ++ l.drop j).set j (⟨((k + 6 * j : Nat) : Int), (((markG mkK 6 l k).take j ++ l.drop j).getD j k0).name, (((markG mkK 6 l k).take j ++ l.drop j).getD j k0).to_, (((markG mkK 6 l k).take j ++ l.drop j).getD j k0).a, (((markG mkK 6 l k).take j ++ l.drop j).getD j k0).b, (((markG mkK 6 l k).take j ++ l.drop j).getD j k0).text⟩ : CL)).flatMap encK) rfl rfl rfl rfl kS rfl rfl (by decide) (by rw [flat_length encK_len]; (try rw [List.length_set]); rw [markG_lenj mkK 6 hj]; omega) (flat_set1 encK_len k0 (f := 0) (y := (⟨((k + 6 * j : Nat) : Int), (((markG mkK 6 l k).take j ++ l.drop j).getD j k0).name, (((markG mkK 6 l k).take j ++ l.drop j).getD j k0).to_, (((markG mkK 6 l k).take j ++ l.drop j).getD j k0).a, (((markG mkK 6 l k).take j ++ l.drop j).getD j k0).b, (((markG mkK 6 l k).take j ++ l.drop j).getD j k0).text⟩ : CL)) (by rw [markG_lenj mkK 6 hj]; omega) (by decide) rfl)) ?_
   rintro _ _ rfl
   refine go ?_
   refine jN [] (C_markText ((k + 6 * j) + 1) (by omega) (by omega)) ?_
   refine go ?_
   refine jF rfl (jx 0 (vs := [str (mt ((k + 6 * j) + 1))]) (cs' := (((markG mkK 6 l k).take j ++ l.drop j).set j (⟨((k + 6 * j : Nat) : Int), mt ((k + 6 * j) + 1), (((markG mkK 6 l k).take j ++ l.drop j).getD j k0).to_, (((markG mkK 6 l k).take j ++ l.drop j).getD j k0).a, (((markG mkK 6 l k).take j ++ l.drop j).getD j k0).b, (((markG mkK 6 l k).take j ++ l.drop j).getD j k0).text⟩ : CL)).flatMap encK) rfl rfl rfl rfl kM rfl rfl (by decide) (by rw [flat_length encK_len]; (try rw [List.length_set]); rw [markG_lenj mkK 6 hj]; omega) (flat_set1s encK_len k0 (f := 1) (x := (⟨((k + 6 * j : Nat) : Int), (((markG mkK 6 l k).take j ++ l.drop j).getD j k0).name, (((markG mkK 6 l k).take j ++ l.drop j).getD j k0).to_, (((markG mkK 6 l k).take j ++ l.drop j).getD j k0).a, (((markG mkK 6 l k).take j ++ l.drop j).getD j k0).b, (((markG mkK 6 l k).take j ++ l.drop j).getD j k0).text⟩ : CL)) (y := (⟨((k + 6 * j : Nat) : Int), mt ((k + 6 * j) + 1), (((markG mkK 6 l k).take j ++ l.drop j).getD j k0).to_, (((markG mkK 6 l k).take j ++ l.drop j).getD j k0).a, (((markG mkK 6 l k).take j ++ l.drop j).getD j k0).b, (((markG mkK 6 l k).take j ++ l.drop j).getD j k0).text⟩ : CL)) (by rw [markG_lenj mkK 6 hj]; omega) (by decide) rfl)) ?_
   rintro _ _ rfl
   refine go ?_
   refine jN [] (C_markText (((k + 6 * j) + 1) + 1) (by omega) (by omega)) ?_
   refine go ?_
   refine jF rfl (jx 0 (vs := [str (mt (((k + 6 * j) + 1) + 1))]) (cs' := (((markG mkK 6 l k).take j ++ l.drop j).set j (⟨((k + 6 * j : Nat) : Int), mt ((k + 6 * j) + 1), mt (((k + 6 * j) + 1) + 1), (((markG mkK 6 l k).take j ++ l.drop j).getD j k0).a, (((markG mkK 6 l k).take j ++ l.drop j).getD j k0).b, (((markG mkK 6 l k).take j ++ l.drop j).getD j k0).text⟩ : CL)).flatMap encK) rfl rfl rfl rfl kM rfl rfl (by decide) (by rw [flat_length encK_len]; (try rw [List.length_set]); rw [markG_lenj mkK 6 hj]; omega) (flat_set1s encK_len k0 (f := 2) (x := (⟨((k + 6 * j : Nat) : Int), mt ((k + 6 * j) + 1), (((markG mkK 6 l k).take j ++ l.drop j).getD j k0).to_, (((markG mkK 6 l k).take j ++ l.drop j).getD j k0).a, (((markG mkK 6 l k).take j ++ l.drop j).getD j k0).b, (((markG mkK 6 l k).take j ++ l.drop j).getD j k0).text⟩ : CL)) (y := (⟨((k + 6 * j : Nat) : Int), mt ((k + 6 * j) + 1), mt (((k + 6 * j) + 1) + 1), (((markG mkK 6 l k).take j ++ l.drop j).getD j k0).a, (((markG mkK 6 l k).take j ++ l.drop j).getD j k0).b, (((markG mkK 6 l k).take j ++ l.drop j).getD j k0).text⟩ : CL)) (by rw [markG_lenj mkK 6 hj]; omega) (by decide) rfl)) ?_
   rintro _ _ rfl
   refine go ?_
   refine jF rfl (jx 0 (vs := [iv (((((k + 6 * j) + 1) + 1) + 1 : Nat) : Int)]) (cs' := (((markG mkK 6 l k).take j ++ l.drop j).set j (⟨((k + 6 * j : Nat) : Int), mt ((k + 6 * j) + 1), mt (((k + 6 * j) + 1) + 1), (((((k + 6 * j) + 1) + 1) + 1 : Nat) : Int), (((markG mkK 6 l k).take j ++ l.drop j).getD j k0).b, (((markG mkK 6 l k).take j ++ l.drop j).getD j k0).text⟩ : CL)).flatMap encK) rfl rfl rfl rfl kS rfl rfl (by decide) (by rw [flat_length encK_len]; (try rw [List.length_set]); rw [markG_lenj mkK 6 hj]; omega) (flat_set1s encK_len k0 (f := 3) (x := (⟨((k + 6 * j : Nat) : Int), mt ((k + 6 * j) + 1), mt (((k + 6 * j) + 1) + 1), (((markG mkK 6 l k).take j ++ l.drop j).getD j k0).a, (((markG mkK 6 l k).take j ++ l.drop j).getD j k0).b, (((markG mkK 6 l k).take j ++ l.drop j).getD j k0).text⟩ : CL)) (y := (⟨((k + 6 * j : Nat) : Int), mt ((k + 6 * j) + 1), mt (((k + 6 * j) + 1) + 1), (((((k + 6 * j) + 1) + 1) + 1 : Nat) : Int), (((markG mkK 6 l k).take j ++ l.drop j).getD j k0).b, (((markG mkK 6 l k).take j ++ l.drop j).getD j k0).text⟩ : CL)) (by rw [markG_lenj mkK 6 hj]; omega) (by decide) rfl)) ?_
   rintro _ _ rfl
   refine go ?_
   refine jF rfl (jx 0 (vs := [iv ((((((k + 6 * j) + 1) + 1) + 1) + 1 : Nat) : Int)]) (cs' := (((markG mkK 6 l k).take j ++ l.drop j).set j (⟨((k + 6 * j : Nat) : Int), mt ((k + 6 * j) + 1), mt (((k + 6 * j) + 1) + 1), (((((k + 6 * j) + 1) + 1) + 1 : Nat) : Int), ((((((k + 6 * j) + 1) + 1) + 1) + 1 : Nat) : Int), (((markG mkK 6 l k).take j ++ l.drop j).getD j k0).text⟩ : CL)).flatMap encK) rfl rfl rfl rfl kS rfl rfl (by decide) (by rw [flat_length encK_len]; (try rw [List.length_set]); rw [markG_lenj mkK 6 hj]; omega) (flat_set1s encK_len k0 (f := 4) (x := (⟨((k + 6 * j : Nat) : Int), mt ((k + 6 * j) + 1), mt (((k + 6 * j) + 1) + 1), (((((k + 6 * j) + 1) + 1) + 1 : Nat) : Int), (((markG mkK 6 l k).take j ++ l.drop j).getD j k0).b, (((markG mkK 6 l k).take j ++ l.drop j).getD j k0).text⟩ : CL)) (y := (⟨((k + 6 * j : Nat) : Int), mt ((k + 6 * j) + 1), mt (((k + 6 * j) + 1) + 1), (((((k + 6 * j) + 1) + 1) + 1 : Nat) : Int), ((((((k + 6 * j) + 1) + 1) + 1) + 1 : Nat) : Int), (((markG mkK 6 l k).take j ++ l.drop j).getD j k0).text⟩ : CL)) (by rw [markG_lenj mkK 6 hj]; omega) (by decide) rfl)) ?_
   rintro _ _ rfl
   refine go ?_
   refine jN [] (C_markText ((((((k + 6 * j) + 1) + 1) + 1) + 1) + 1) (by omega) (by omega)) ?_
   refine go ?_
   refine jF rfl (jx 0 (vs := [str (mt ((((((k + 6 * j) + 1) + 1) + 1) + 1) + 1))]) (cs' := (((markG mkK 6 l k).take j ++ l.drop j).set j (⟨((k + 6 * j : Nat) : Int), mt ((k + 6 * j) + 1), mt (((k + 6 * j) + 1) + 1), (((((k + 6 * j) + 1) + 1) + 1 : Nat) : Int), ((((((k + 6 * j) + 1) + 1) + 1) + 1 : Nat) : Int), mt ((((((k + 6 * j) + 1) + 1) + 1) + 1) + 1)⟩ : CL)).flatMap encK) rfl rfl rfl rfl kM rfl rfl (by decide) (by rw [flat_length encK_len]; (try rw [List.length_set]); rw [markG_lenj mkK 6 hj]; omega) (flat_set1s encK_len k0 (f := 5) (x := (⟨((k + 6 * j : Nat) : Int), mt ((k + 6 * j) + 1), mt (((k + 6 * j) + 1) + 1), (((((k + 6 * j) + 1) + 1) + 1 : Nat) : Int), ((((((k + 6 * j) + 1) + 1) + 1) + 1 : Nat) : Int), (((markG mkK 6 l k).take j ++ l.drop j).getD j k0).text⟩ : CL)) (y := (⟨((k + 6 * j : Nat) : Int), mt ((k + 6 * j) + 1), mt (((k + 6 * j) + 1) + 1), (((((k + 6 * j) + 1) + 1) + 1 : Nat) : Int), ((((((k + 6 * j) + 1) + 1) + 1) + 1 : Nat) : Int), mt ((((((k + 6 * j) + 1) + 1) + 1) + 1) + 1)⟩ : CL)) (by rw [markG_lenj mkK 6 hj]; omega) (by decide) rfl)) ?_
   rintro _ _ rfl
   refine go ?_
   refine jV (l.length - (j + 1)) (by omega) ⟨j + 1, by omega, EL.go, (by rw [← markG_step mkK 6 hlt]; rfl), rfl⟩
 refine go ?_
 refine jE (.inl rfl) rfl (jC (v := iv ((k + 6 * j : Nat) : Int)) rfl) (List.Sublist.refl _) ?_
 exact ⟨by rw [show j = l.length by omega], by rw [show j = l.length by omega, List.drop_of_length_le (Nat.le_refl _), List.append_nil, List.take_of_length_le (by rw [markG_len]; exact Nat.le_refl _)]⟩

theorem C_heldCallS (a : Option Addr) (c : Nat) (l : List CL) (k : Nat) (h0 : 0 < k) (h1 : k + 6 * l.length ≤ 10000000000) :
   Ct Tryz.prog 185 [.slice a l.length c, .int .i64 ((k : Nat) : Int)] [] (fun w => Sees w (.slice a l.length c) 6 l.length ((markG mkK 6 l k).flatMap encK)) (fun v A' => v = .int .i64 ((k + 6 * l.length : Nat) : Int) ∧ A' = []) := by
 refine Ct.intro Tryz.func185 rfl Tryz.ntmps185 (lb rfl) fun w0 hpre => ?_
 have hs_a : Sees w0 _ _ _ _ := hpre
 refine go ?_
 refine jL (fun k_ e_ L_ => ∃ j : Nat, (j ≤ l.length) ∧ EL e_ [(0, .slice a l.length c), (1, iv ((k + 6 * j : Nat) : Int)), (5, nv j)] ∧ L_ = [] ∧ k_ = l.length - j) _ ⟨0, by omega, EL.go, rfl, rfl⟩ ?_
 rintro _ _ _ ⟨j, hj, ⟨_, rfl⟩, rfl, rfl⟩
 refine go ?_
 by_cases h_1 : ((j : Nat) : Int) < ((l.length : Nat) : Int)
 · have hlt : j < l.length := by omega
   refine go ?_
   obtain ⟨hr_2, hr_2b, -⟩ := sees_some hs_a (by omega)
   refine go ?_
   refine jU (jY (v := iv (((markG mkK 6 l k).getD j k0).kind)) hs_a nM rfl kR (flat_at encK_len k0 (markG mkK 6 l k) j 0 (by rw [markG_len]; omega) (by decide))) ?_
   refine go ?_
   by_cases h_3 : (((markG mkK 6 l k).getD j k0).kind) = ((k + 6 * j : Nat) : Int)
   · refine go ?_
     refine jH [] 7 ?_
     refine go ?_
     refine jk 4 rfl (jY (v := str (((markG mkK 6 l k).getD j k0).name)) hs_a nM rfl kJ (flat_at encK_len k0 (markG mkK 6 l k) j 1 (by rw [markG_len]; omega) (by decide))) ?_
     refine go ?_
     refine jB (i := 6) ?_
     refine jI [] (C_markText ((k + 6 * j) + 1) (by omega) (by omega)) ?_
     rintro _ _ ⟨rfl, rfl⟩
     refine go ?_
     by_cases h_4 : (((markG mkK 6 l k).getD j k0).name) = (mt ((k + 6 * j) + 1))
     · refine go ?_
       refine jH [] 7 ?_
       refine go ?_
       refine jk 4 rfl (jY (v := str (((markG mkK 6 l k).getD j k0).to_)) hs_a nM rfl kJ (flat_at encK_len k0 (markG mkK 6 l k) j 2 (by rw [markG_len]; omega) (by decide))) ?_
       refine go ?_
       refine jB (i := 6) ?_
       refine jI [] (C_markText (((k + 6 * j) + 1) + 1) (by omega) (by omega)) ?_
       rintro _ _ ⟨rfl, rfl⟩
       refine go ?_
       by_cases h_5 : (((markG mkK 6 l k).getD j k0).to_) = (mt (((k + 6 * j) + 1) + 1))
       · refine go ?_
         refine jU (jY (v := iv (((markG mkK 6 l k).getD j k0).a)) hs_a nM rfl kR (flat_at encK_len k0 (markG mkK 6 l k) j 3 (by rw [markG_len]; omega) (by decide))) ?_
         refine go ?_
         by_cases h_6 : (((markG mkK 6 l k).getD j k0).a) = (((((k + 6 * j) + 1) + 1) + 1 : Nat) : Int)
         · refine go ?_
           refine jU (jY (v := iv (((markG mkK 6 l k).getD j k0).b)) hs_a nM rfl kR (flat_at encK_len k0 (markG mkK 6 l k) j 4 (by rw [markG_len]; omega) (by decide))) ?_
           refine go ?_
           by_cases h_7 : (((markG mkK 6 l k).getD j k0).b) = ((((((k + 6 * j) + 1) + 1) + 1) + 1 : Nat) : Int)
           · refine go ?_
             refine jH [] 7 ?_
             refine go ?_
             refine jk 4 rfl (jY (v := str (((markG mkK 6 l k).getD j k0).text)) hs_a nM rfl kJ (flat_at encK_len k0 (markG mkK 6 l k) j 5 (by rw [markG_len]; omega) (by decide))) ?_
             refine go ?_
             refine jB (i := 6) ?_
             refine jI [] (C_markText ((((((k + 6 * j) + 1) + 1) + 1) + 1) + 1) (by omega) (by omega)) ?_
             rintro _ _ ⟨rfl, rfl⟩
             refine go ?_
             by_cases h_8 : (((markG mkK 6 l k).getD j k0).text) = (mt ((((((k + 6 * j) + 1) + 1) + 1) + 1) + 1))
             · refine go ?_
               refine jV (l.length - (j + 1)) (by omega) ⟨j + 1, by omega, EL.go, rfl, rfl⟩
             exfalso; rw [markG_get mkK 6 k0 l k j hlt] at h_8; first | omega | exact h_8 rfl
           exfalso; rw [markG_get mkK 6 k0 l k j hlt] at h_7; first | omega | exact h_7 rfl
         exfalso; rw [markG_get mkK 6 k0 l k j hlt] at h_6; first | omega | exact h_6 rfl
       exfalso; rw [markG_get mkK 6 k0 l k j hlt] at h_5; first | omega | exact h_5 rfl
     exfalso; rw [markG_get mkK 6 k0 l k j hlt] at h_4; first | omega | exact h_4 rfl
   exfalso; rw [markG_get mkK 6 k0 l k j hlt] at h_3; first | omega | exact h_3 rfl
 refine go ?_
 refine jE (.inl rfl) rfl (jC (v := iv ((k + 6 * j : Nat) : Int)) rfl) (List.nil_sublist _) ?_
 exact ⟨by rw [show j = l.length by omega], rfl⟩

theorem N_toAnswer (c : AN) :
   Ct Tryz.prog 271 [.agg #[.int .i64 c.code, .int .i64 c.n, str c.text]] [] (fun _ => True) (fun v A' => v = .agg #[.int .i64 c.code, .int .i64 c.n, str c.text] ∧ A' = []) := by
 refine Ct.intro Tryz.func271 rfl Tryz.ntmps271 (lb rfl) fun w0 hpre => ?_
 refine go ?_
 refine jM [iv c.code, iv c.n, str c.text] fun b_1 => ?_
 refine jG [iv 0, iv 0, str []] fun b_2 => ?_
 refine go ?_
 refine jG [iv 0, iv 0, str []] fun b_3 => ?_
 refine go ?_
 refine jD 0 [iv c.code, iv 0, str []] ?_
 refine go ?_
 refine jD 0 [iv c.code, iv c.n, str []] ?_
 refine go ?_
 refine jD 0 [iv c.code, iv c.n, str c.text] ?_
 refine go ?_
 refine jD 1 [iv c.code, iv c.n, str c.text] ?_
 refine go ?_
 exact jJ [] ⟨rfl, rfl⟩

theorem C_eqAnswer (a b : AN) :
   Ct Tryz.prog 90 [.agg #[.int .i64 a.code, .int .i64 a.n, str a.text], .agg #[.int .i64 b.code, .int .i64 b.n, str b.text]] [] (fun _ => True) (fun v A' => v = .bool (decide (a = b)) ∧ A' = []) := by
 refine Ct.intro Tryz.func90 rfl Tryz.ntmps90 (lb rfl) fun w0 hpre => ?_
 refine go ?_
 refine jM [iv a.code, iv a.n, str a.text] fun b_1 => ?_
 refine jM [iv b.code, iv b.n, str b.text] fun b_2 => ?_
 refine go ?_
 by_cases h_3 : a.code = b.code
 · refine go ?_
   by_cases h_4 : a.n = b.n
   · refine go ?_
     by_cases h_5 : a.text = b.text
     · refine go ?_
       refine jE (.inl rfl) rfl (jC (v := .bool true) rfl) (List.nil_sublist _) ?_
       refine ⟨cB ?_, rfl⟩
       exact (dT (by cases a; cases b; simp_all)).symm
     refine go ?_
     refine jE (.inl rfl) rfl (jC (v := .bool false) rfl) (List.nil_sublist _) ?_
     refine ⟨cB ?_, rfl⟩
     exact (dF (fun h_ => by subst h_; simp_all)).symm
   refine go ?_
   refine jE (.inl rfl) rfl (jC (v := .bool false) rfl) (List.nil_sublist _) ?_
   refine ⟨cB ?_, rfl⟩
   exact (dF (fun h_ => by subst h_; simp_all)).symm
 refine go ?_
 refine jE (.inl rfl) rfl (jC (v := .bool false) rfl) (List.nil_sublist _) ?_
 refine ⟨cB ?_, rfl⟩
 exact (dF (fun h_ => by subst h_; simp_all)).symm

theorem C_eqAnswerS (a b : Option Addr) (c c' : Nat) (s t : List AN) (hn : s.length ≤ 9223372036854775807) :
   Ct Tryz.prog 176 [.slice a s.length c, .slice b t.length c'] [] (fun w => Sees w (.slice a s.length c) 3 s.length (s.flatMap encA) ∧ Sees w (.slice b t.length c') 3 t.length (t.flatMap encA)) (fun r A' => r = .bool (decide (s = t)) ∧ A' = []) := by
 refine Ct.intro Tryz.func176 rfl Tryz.ntmps176 (lb rfl) fun w0 hpre => ?_
 have hs_a : Sees w0 _ _ _ _ := hpre.1
 have hs_b : Sees w0 _ _ _ _ := hpre.2
 refine go ?_
 by_cases h_1 : ((s.length : Nat) : Int) = ((t.length : Nat) : Int)
 · have hlen := h_1
   refine go ?_
   refine jL (fun k_ e_ L_ => ∃ j : Nat, (j ≤ s.length) ∧ (s.take j = t.take j) ∧ (s.length = t.length) ∧ EL e_ [(0, .slice a s.length c), (1, .slice b t.length c'), (5, nv j)] ∧ L_ = [] ∧ k_ = s.length - j) _ ⟨0, by omega, rfl, by omega, EL.go, rfl, rfl⟩ ?_
   rintro _ _ _ ⟨j, hj, hE, hln, ⟨_, rfl⟩, rfl, rfl⟩
   refine go ?_
   by_cases h_2 : ((j : Nat) : Int) < ((s.length : Nat) : Int)
   · have hlt : j < s.length := by omega
     refine go ?_
     refine jH [] 1000 ?_
     refine go ?_
     obtain ⟨hr_3, hr_3b, -⟩ := sees_some hs_a (by omega)
     refine go ?_
     refine jk 3 rfl (jj (vs := [iv ((s.getD j a0_).code), iv ((s.getD j a0_).n), str ((s.getD j a0_).text)]) hs_a nM rfl kp kY (flat_take encA_len a0_ s j (by omega)) rfl (by decide)) ?_
     refine go ?_
     obtain ⟨hr_4, hr_4b, -⟩ := sees_some hs_b (by omega)
     refine go ?_
     refine jk 7 rfl (jj (vs := [iv ((t.getD j a0_).code), iv ((t.getD j a0_).n), str ((t.getD j a0_).text)]) hs_b nM rfl kp kY (flat_take encA_len a0_ t j (by omega)) rfl (by decide)) ?_
     refine jB (i := 8) ?_
     refine jI [] (C_eqAnswer (s.getD j a0_) (t.getD j a0_)) ?_
     rintro _ _ ⟨rfl, rfl⟩
     refine go ?_
     by_cases h_5 : (s.getD j a0_) = (t.getD j a0_)
     · have heq := h_5
       refine go ?_
       refine jV (s.length - (j + 1)) (by omega) ⟨j + 1, by omega, take_succ_eq a0_ hE hlt hln heq, hln, EL.go, rfl, rfl⟩
     have hne := h_5
     refine go ?_
     refine jE (.inl rfl) rfl (jC (v := .bool false) rfl) (List.nil_sublist _) ?_
     refine ⟨?_, rfl⟩
     rw [dF (fun h => hne (by rw [h]))]
   refine go ?_
   refine jE (.inl rfl) rfl (jC (v := .bool true) rfl) (List.nil_sublist _) ?_
   refine ⟨?_, rfl⟩
   rw [dT (take_all_eq hE (by omega) (by omega))]
 have hlen := h_1
 refine go ?_
 refine jE (.inl rfl) rfl (jC (v := .bool false) rfl) (List.nil_sublist _) ?_
 refine ⟨?_, rfl⟩
 rw [dF (fun h => by rw [h] at hlen; omega)]

theorem C_markAnswerS (a : Option Addr) (c : Nat) (l : List AN) (k : Nat) (h0 : 0 < k) (h1 : k + 3 * l.length ≤ 10000000000) :
   Ct Tryz.prog 182 [.slice a l.length c, .int .i64 ((k : Nat) : Int)] [Res.row (.slice a l.length c) 39 3 l.length (l.flatMap encA)] (fun _ => True) (fun v A' => v = .int .i64 ((k + 3 * l.length : Nat) : Int) ∧ A' = [.row (.slice a l.length c) 39 3 l.length ((markG mkA 3 l k).flatMap encA)]) := by
 refine Ct.intro Tryz.func182 rfl Tryz.ntmps182 (lb rfl) fun w0 hpre => ?_
 refine go ?_
 refine jL (fun k_ e_ L_ => ∃ j : Nat, (j ≤ l.length) ∧ EL e_ [(0, .slice a l.length c), (1, iv ((k + 3 * j : Nat) : Int)), (4, iv 0), (5, nv j)] ∧ L_ = [Res.row (.slice a l.length c) 39 3 l.length (((markG mkA 3 l k).take j ++ l.drop j).flatMap encA)] ∧ k_ = l.length - j) _ ⟨0, by omega, EL.go, rfl, rfl⟩ ?_
 rintro _ _ _ ⟨j, hj, ⟨_, rfl⟩, rfl, rfl⟩
 refine go ?_
 by_cases h_1 : ((j : Nat) : Int) < ((l.length : Nat) : Int)
 · have hlt : j < l.length := by omega
   refine go ?_
   refine jo fun hst => ?_
   obtain ⟨hr_2, hr_2b, -⟩ := row_some 0 rfl (by omega) hst
   refine go ?_
   refine jF rfl (jx 0 (vs := [iv ((k + 3 * j : Nat) : Int)]) (cs' := (((markG mkA 3 l k).take j ++ l.drop j).set j (⟨((k + 3 * j : Nat) : Int), (((markG mkA 3 l k).take j ++ l.drop j).getD j a0_).n, (((markG mkA 3 l k).take j ++ l.drop j).getD j a0_).text⟩ : AN)).flatMap encA) rfl rfl rfl rfl kS rfl rfl (by decide) (by rw [flat_length encA_len]; (try rw [List.length_set]); rw [markG_lenj mkA 3 hj]; omega) (flat_set1 encA_len a0_ (f := 0) (y := (⟨((k + 3 * j : Nat) : Int), (((markG mkA 3 l k).take j ++ l.drop j).getD j a0_).n, (((markG mkA 3 l k).take j ++ l.drop j).getD j a0_).text⟩ : AN)) (by rw [markG_lenj mkA 3 hj]; omega) (by decide) rfl)) ?_
   rintro _ _ rfl
   refine go ?_
   refine jF rfl (jx 0 (vs := [iv (((k + 3 * j) + 1 : Nat) : Int)]) (cs' := (((markG mkA 3 l k).take j ++ l.drop j).set j (⟨((k + 3 * j : Nat) : Int), (((k + 3 * j) + 1 : Nat) : Int), (((markG mkA 3 l k).take j ++ l.drop j).getD j a0_).text⟩ : AN)).flatMap encA) rfl rfl rfl rfl kS rfl rfl (by decide) (by rw [flat_length encA_len]; (try rw [List.length_set]); rw [markG_lenj mkA 3 hj]; omega) (flat_set1s encA_len a0_ (f := 1) (x := (⟨((k + 3 * j : Nat) : Int), (((markG mkA 3 l k).take j ++ l.drop j).getD j a0_).n, (((markG mkA 3 l k).take j ++ l.drop j).getD j a0_).text⟩ : AN)) (y := (⟨((k + 3 * j : Nat) : Int), (((k + 3 * j) + 1 : Nat) : Int), (((markG mkA 3 l k).take j ++ l.drop j).getD j a0_).text⟩ : AN)) (by rw [markG_lenj mkA 3 hj]; omega) (by decide) rfl)) ?_
   rintro _ _ rfl
   refine go ?_
   refine jN [] (C_markText (((k + 3 * j) + 1) + 1) (by omega) (by omega)) ?_
   refine go ?_
   refine jF rfl (jx 0 (vs := [str (mt (((k + 3 * j) + 1) + 1))]) (cs' := (((markG mkA 3 l k).take j ++ l.drop j).set j (⟨((k + 3 * j : Nat) : Int), (((k + 3 * j) + 1 : Nat) : Int), mt (((k + 3 * j) + 1) + 1)⟩ : AN)).flatMap encA) rfl rfl rfl rfl kM rfl rfl (by decide) (by rw [flat_length encA_len]; (try rw [List.length_set]); rw [markG_lenj mkA 3 hj]; omega) (flat_set1s encA_len a0_ (f := 2) (x := (⟨((k + 3 * j : Nat) : Int), (((k + 3 * j) + 1 : Nat) : Int), (((markG mkA 3 l k).take j ++ l.drop j).getD j a0_).text⟩ : AN)) (y := (⟨((k + 3 * j : Nat) : Int), (((k + 3 * j) + 1 : Nat) : Int), mt (((k + 3 * j) + 1) + 1)⟩ : AN)) (by rw [markG_lenj mkA 3 hj]; omega) (by decide) rfl)) ?_
   rintro _ _ rfl
   refine go ?_
   refine jV (l.length - (j + 1)) (by omega) ⟨j + 1, by omega, EL.go, (by rw [← markG_step mkA 3 hlt]; rfl), rfl⟩
 refine go ?_
 refine jE (.inl rfl) rfl (jC (v := iv ((k + 3 * j : Nat) : Int)) rfl) (List.Sublist.refl _) ?_
 exact ⟨by rw [show j = l.length by omega], by rw [show j = l.length by omega, List.drop_of_length_le (Nat.le_refl _), List.append_nil, List.take_of_length_le (by rw [markG_len]; exact Nat.le_refl _)]⟩

theorem C_heldAnswerS (a : Option Addr) (c : Nat) (l : List AN) (k : Nat) (h0 : 0 < k) (h1 : k + 3 * l.length ≤ 10000000000) :
   Ct Tryz.prog 186 [.slice a l.length c, .int .i64 ((k : Nat) : Int)] [] (fun w => Sees w (.slice a l.length c) 3 l.length ((markG mkA 3 l k).flatMap encA)) (fun v A' => v = .int .i64 ((k + 3 * l.length : Nat) : Int) ∧ A' = []) := by
 refine Ct.intro Tryz.func186 rfl Tryz.ntmps186 (lb rfl) fun w0 hpre => ?_
 have hs_a : Sees w0 _ _ _ _ := hpre
 refine go ?_
 refine jL (fun k_ e_ L_ => ∃ j : Nat, (j ≤ l.length) ∧ EL e_ [(0, .slice a l.length c), (1, iv ((k + 3 * j : Nat) : Int)), (5, nv j)] ∧ L_ = [] ∧ k_ = l.length - j) _ ⟨0, by omega, EL.go, rfl, rfl⟩ ?_
 rintro _ _ _ ⟨j, hj, ⟨_, rfl⟩, rfl, rfl⟩
 refine go ?_
 by_cases h_1 : ((j : Nat) : Int) < ((l.length : Nat) : Int)
 · have hlt : j < l.length := by omega
   refine go ?_
   obtain ⟨hr_2, hr_2b, -⟩ := sees_some hs_a (by omega)
   refine go ?_
   refine jU (jY (v := iv (((markG mkA 3 l k).getD j a0_).code)) hs_a nM rfl kR (flat_at encA_len a0_ (markG mkA 3 l k) j 0 (by rw [markG_len]; omega) (by decide))) ?_
   refine go ?_
   by_cases h_3 : (((markG mkA 3 l k).getD j a0_).code) = ((k + 3 * j : Nat) : Int)
   · refine go ?_
     refine jU (jY (v := iv (((markG mkA 3 l k).getD j a0_).n)) hs_a nM rfl kR (flat_at encA_len a0_ (markG mkA 3 l k) j 1 (by rw [markG_len]; omega) (by decide))) ?_
     refine go ?_
     by_cases h_4 : (((markG mkA 3 l k).getD j a0_).n) = (((k + 3 * j) + 1 : Nat) : Int)
     · refine go ?_
       refine jH [] 7 ?_
       refine go ?_
       refine jk 4 rfl (jY (v := str (((markG mkA 3 l k).getD j a0_).text)) hs_a nM rfl kJ (flat_at encA_len a0_ (markG mkA 3 l k) j 2 (by rw [markG_len]; omega) (by decide))) ?_
       refine go ?_
       refine jB (i := 6) ?_
       refine jI [] (C_markText (((k + 3 * j) + 1) + 1) (by omega) (by omega)) ?_
       rintro _ _ ⟨rfl, rfl⟩
       refine go ?_
       by_cases h_5 : (((markG mkA 3 l k).getD j a0_).text) = (mt (((k + 3 * j) + 1) + 1))
       · refine go ?_
         refine jV (l.length - (j + 1)) (by omega) ⟨j + 1, by omega, EL.go, rfl, rfl⟩
       exfalso; rw [markG_get mkA 3 a0_ l k j hlt] at h_5; first | omega | exact h_5 rfl
     exfalso; rw [markG_get mkA 3 a0_ l k j hlt] at h_4; first | omega | exact h_4 rfl
   exfalso; rw [markG_get mkA 3 a0_ l k j hlt] at h_3; first | omega | exact h_3 rfl
 refine go ?_
 refine jE (.inl rfl) rfl (jC (v := iv ((k + 3 * j : Nat) : Int)) rfl) (List.nil_sublist _) ?_
 exact ⟨by rw [show j = l.length by omega], rfl⟩
end Go.Proofs.YthlfmbbaomdciaaGreatDoor
namespace Go.Proofs.YthlfmbbaomdciaaGreatDoor
open Go Go.RowKit
attribute [local irreducible] JL JC JQ JO LO PO JA JX Ct
theorem C_eqTouch (a1 a2 b1 b2 : Option Addr) (c1 c2 d1 d2 : Nat) (r w r' w' : List Str) (h1 : r.length ≤ 9223372036854775807) (h2 : w.length ≤ 9223372036854775807) :
   Ct Tryz.prog 177 [.agg #[.slice a1 r.length c1, .slice a2 w.length c2], .agg #[.slice b1 r'.length d1, .slice b2 w'.length d2]] [] (fun w_ => Sees w_ (.slice a1 r.length c1) 1 r.length (r.map str) ∧ Sees w_ (.slice a2 w.length c2) 1 w.length (w.map str) ∧ Sees w_ (.slice b1 r'.length d1) 1 r'.length (r'.map str) ∧ Sees w_ (.slice b2 w'.length d2) 1 w'.length (w'.map str)) (fun v A' => v = .bool (decide (r = r') && decide (w = w')) ∧ A' = []) := by
 refine Ct.intro Tryz.func177 rfl Tryz.ntmps177 (lb rfl) fun w0 hpre => ?_
 have hs_a1 : Sees w0 _ _ _ _ := hpre.1
 have hs_a2 : Sees w0 _ _ _ _ := hpre.2.1
 have hs_b1 : Sees w0 _ _ _ _ := hpre.2.2.1
 have hs_b2 : Sees w0 _ _ _ _ := hpre.2.2.2
 refine go ?_
 refine jM [.slice a1 r.length c1, .slice a2 w.length c2] fun b_1 => ?_
 refine jM [.slice b1 r'.length d1, .slice b2 w'.length d2] fun b_2 => ?_
 refine go ?_
 refine jN [] (C_eqStringS a1 b1 c1 d1 r r' (by omega)) (hpre := fun w hw => ⟨hw.seeOut_ hs_a1 nM, hw.seeOut_ hs_b1 nM⟩) ?_
 refine go ?_
 by_cases h_3 : r = r'
 · refine go ?_
   refine jN [] (C_eqStringS a2 b2 c2 d2 w w' (by omega)) (hpre := fun w hw => ⟨hw.seeOut_ hs_a2 nM, hw.seeOut_ hs_b2 nM⟩) ?_
   refine go ?_
   by_cases h_4 : w = w'
   · refine go ?_
     refine jE (.inl rfl) rfl (jC (v := .bool true) rfl) (List.nil_sublist _) ?_
     refine ⟨?_, rfl⟩
     simp_all
   refine go ?_
   refine jE (.inl rfl) rfl (jC (v := .bool false) rfl) (List.nil_sublist _) ?_
   refine ⟨?_, rfl⟩
   simp_all
 refine go ?_
 refine jE (.inl rfl) rfl (jC (v := .bool false) rfl) (List.nil_sublist _) ?_
 refine ⟨?_, rfl⟩
 simp_all
end Go.Proofs.YthlfmbbaomdciaaGreatDoor
