/-
  Texts of the walk, joined: what each one proves stands at its theorems.
-/
import Derived.Test.YtjncpgcccgdeiaaGreatDoorS52SPLIT
import Derived.Test.YtjncpgcccgdeiaaGreatDoorAu
import Derived.Test.YtjncpgcccgdeiaaGreatDoorDatM
import Derived.Test.YtjncpgcccgdeiaaGreatDoorDatA
import Derived.RangeFuncRecord
import Derived.TacticsIn
set_option linter.unusedSimpArgs false
set_option linter.unusedVariables false
set_option linter.unnecessarySimpa false
namespace Go.Proofs.YtjncpgcccgdeiaaGreatDoor
open Go Go.RowKit
attribute [local irreducible] JL JC JQ JO LO PO JA JX Ct

set_option maxRecDepth 4000 in
set_option maxHeartbeats 1000000 in
theorem Y_bstr (b g cap : Nat) (u : Option Addr) (a : Option Addr) (cur : Array Value) (fz : Nat × Nat) (ha : a = some ⟨g, 0, none⟩) (l : Str) (hl0 : l ≠ []) (hcap : l.length ≤ cap) (hm : cap ≤ maxLen) (hsz : cap ≤ cur.size) (hcur : cur.toList.take l.length = l.map encB) :
    Ct Tryz.prog 81 [.pointer (some ⟨b, 0, none⟩)] [bk b 93 [.pointer u, .slice a l.length cap], .blk g (.cells cur TB fz)] (fun _ => True) (fun v A' => ∃ fz', v = str l ∧ A' = [bk b 93 [.pointer u, .slice a l.length cap], .blk g (.cells cur TB fz')]) := by
  have hm63 : cap ≤ 9223372036854775807 := by unfold maxLen at hm; omega
  have hlp : 0 < l.length := List.length_pos_iff.2 hl0
  refine Ct.intro Tryz.func81 rfl Tryz.ntmps81 (lb rfl) fun w0 hpre => ?_
  refine jC <| jF <| jA (jG (v := str []) rfl) <| jE <| jB <| jC <| kJ [bk b 93 [.pointer u, .slice a l.length cap]] 11 mixed (by simp) <| jL 0 rfl (jD (v := .pointer (some ⟨b, 0, none⟩)) rfl) <| jL 1 rfl (PO.nilCheck rfl) <| jL 2 rfl (jQ fo93_1 rfl) ?_
  refine jw 3 rfl (jZ 0 (v := .slice a l.length cap) rfl rfl Tryz.isAgg39 rfl) <| jL 4 rfl (PO.unsafeData ha rfl (by omega)) <| jL 5 rfl (jD (v := .pointer (some ⟨b, 0, none⟩)) rfl) <| jL 6 rfl (PO.nilCheck rfl) <| jL 7 rfl (jQ fo93_1 rfl) <| jw 8 rfl (jZ 0 (v := .slice a l.length cap) rfl rfl Tryz.isAgg39 rfl) <| jL 9 rfl (jr kr rfl) <| jj (i := 10) ?_
  refine jz rfl rfl (JO.unsafeStr 1 (l := l) rfl Tryz.underlying135 rfl rfl rfl hl0 (by omega) (by omega) hcur) ?_
  rintro _ _ ⟨fz_2, rfl, rfl⟩
  refine ⟨by simp, ?_⟩
  refine jL 11 rfl (jG (v := str l) rfl) <| kI (by kernel_rfl) <| jB <| jN <| jV (.inl rfl) rfl (jJ (v := str l) rfl) (List.Sublist.refl _) ?_
  exact ⟨_, rfl, rfl⟩

theorem Y_iHex (s : Str) (hs : s.length ≤ 20000) : Ct Tryz.prog 80 [str s] [] (fun _ => True) (fun v A' => v = str (hexB s) ∧ A' = []) :=
  (N_hexOf s (by omega)).weak (fun _ h => h) fun v A' ⟨u, e, _, hv, hA⟩ => ⟨by rw [hv, ← e, hexS, if_neg (by omega)], hA⟩

set_option maxRecDepth 4000 in
set_option maxHeartbeats 1000000 in
theorem Y_iRec (seq : Int) (a : Option Addr) (c : Nat) (l : List Cell) (hl : okC l) :
    Ct Tryz.prog 28 [.int .i64 seq, .slice a l.length c] [] (fun w => Sees w (.slice a l.length c) 2 l.length (l.flatMap encC)) (fun v A' => v = str (recText seq l) ∧ A' = []) := by
  refine Ct.intro Tryz.func28 rfl Tryz.ntmps28 (lb rfl) fun w0 hpre => ?_
  have hs_a : Sees w0 _ _ _ _ := hpre
  have hll := hl.1
  refine jC <| jF <| jA (jG (v := str []) rfl) <| jE <| jB <| jC <| jC <| jF <| jA (jD (v := iv seq) rfl) ?_
  refine jH rfl (jI [] Tryz.call76 rfl (Y_within seq 1 100000) rfl (fun _ _ => trivial)) ?_
  rintro _ _ ⟨_, ⟨rfl, rfl⟩, rfl⟩
  refine jA (jp rfl) <| jE <| jB ?_
  rcases Bool.eq_false_or_eq_true (within 1 seq 100000) with h_1 | h_1
  · refine jR (cB (cN h_1)) <| jT <| jB <| jC <| jF ?_
    refine jH rfl (jo (z := .agg #[.pointer none, .slice none 0 0]) (cs := [.pointer none, .slice none 0 0]) Tryz.zeroValue93 rfl) ?_
    rintro _ _ ⟨b_2, rfl, rfl⟩
    refine jE <| jB <| jC ?_
    have hwi := (show 1 ≤ seq ∧ seq ≤ 100000 by simpa only [within, Bool.and_eq_true, decide_eq_true_eq] using h_1)
    have hdl := dec_len (n := seq) (by omega) (by omega)
    have hdp := dec_pos seq
    refine jF <| jA (jD (v := iv seq) rfl) ?_
    refine jH rfl (jI [] Tryz.call29 rfl (C_decimal seq (by omega) (by omega)) rfl (fun _ _ => trivial)) ?_
    rintro _ _ ⟨_, ⟨rfl, rfl⟩, rfl⟩
    have hdl_3 := dec_len (n := seq) (by omega) (by omega)
    refine JL.nilRow 5 1 ?_
    refine jH rfl (jI [1, 0] Tryz.call77 rfl (Y_ws0 b_2 none 0 ([] : Str) (dec seq) (by first | omega | ((try simp only [List.length_append, List.length_cons, List.length_nil]); omega)) (by first | omega | ((try simp only [List.length_append, List.length_cons, List.length_nil]); omega))) rfl (fun _ _ => trivial)) ?_
    rintro _ _ ⟨_, ⟨a_4, c_5, rfl, rfl⟩, rfl⟩
    refine jE <| jB <| jC <| jC <| jF <| jA (jD (v := .slice a l.length c) rfl) <| jA (jr kf rfl) <| jA (jD (v := iv 0) rfl) <| jE <| jB ?_
    refine jf <| kD (fun k_ e_ L_ => ∃ j : Nat, ∃ oa : Option Addr, ∃ oc : Nat, ∃ b : Str, (j ≤ l.length) ∧ (0 < b.length ∧ b.length ≤ 5000) ∧ (recGo b (l.drop j) = recGo (dec seq) l) ∧ e_ 5 = .pointer (some ⟨b_2, 0, none⟩) ∧ e_ 15 = .slice a l.length c ∧ e_ 16 = nv l.length ∧ e_ 17 = nv j ∧ L_ = [bk b_2 93 [.pointer (some ⟨b_2, 0, none⟩), .slice oa b.length oc], Res.row (.slice oa b.length oc) 5 1 b.length (b.map encB)] ∧ k_ = l.length - j) _ ⟨0, a_4, c_5, dec seq, by omega, by omega, rfl, rfl, rfl, rfl, rfl, rfl, rfl⟩ ?_
    rintro _ e_6 _ ⟨j, oa, oc, b, hj, hb, hR, he_7, he_8, he_9, he_10, rfl, rfl⟩
    refine jC <| jF <| jA (jl he_10 he_9) <| jE <| jB <| jC ?_
    by_cases h_11 : ((j : Nat) : Int) < ((l.length : Nat) : Int)
    · have hlt : j < l.length := by omega
      refine jW (cB (dT h_11)) <| jT <| jB <| jC <| jf <| jC <| jF ?_
      obtain ⟨hr_12, hr_12b, -⟩ := sees_some hs_a (by omega)
      refine jA (jk (i := j) kf kh hr_12 hr_12b he_8 he_10 (by omega)) <| jK (kX (vs := [str ((l.getD j c0).1), str ((l.getD j c0).2)]) hs_a nM rfl gG kh (atC (by omega)) rfl (by decide)) ?_
      refine jH rfl (jo (z := .agg #[str [], str []]) (cs := [str [], str []]) kw rfl) ?_
      rintro _ _ ⟨b_13, rfl, rfl⟩
      refine jH rfl (ja 0 (vs := [str ((l.getD j c0).1), str ((l.getD j c0).2)]) (cs' := [str ((l.getD j c0).1), str ((l.getD j c0).2)]) rfl rfl rfl rfl kh rfl rfl (lb rfl) rfl) ?_
      rintro _ _ rfl
      refine jE <| jB <| jC <| jC <| jF <| jA (jQ fo48_0 rfl) <| jK (jZ 0 (v := str ((l.getD j c0).1)) rfl rfl ki rfl) ?_
      refine jH rfl (jI [] Tryz.call78 rfl (Y_implKeyOk ((l.getD j c0).1) (hl.2 j hlt).1) rfl (fun _ _ => trivial)) ?_
      rintro _ _ ⟨_, ⟨rfl, rfl⟩, rfl⟩
      refine jA (jp rfl) <| jA (jD (v := .bool (!(keyOk ((l.getD j c0).1)))) rfl) ?_
      rcases Bool.eq_false_or_eq_true (keyOk ((l.getD j c0).1)) with h_14 | h_14
      · have hk40 := keyOk_len h_14
        refine jM rfl rfl rfl (cB (cN h_14)) (jP (jU (jQ fo48_1 rfl))) ?_
        rintro _ _ ⟨rfl, rfl⟩
        refine jM rfl rfl rfl (cB (cN h_14)) (jP (jZ 0 (v := str ((l.getD j c0).2)) rfl rfl ki rfl)) ?_
        rintro _ _ ⟨rfl, rfl⟩
        refine jM rfl rfl rfl (cB (cN h_14)) (jP (jU (kF kg rfl))) ?_
        rintro _ _ ⟨rfl, rfl⟩
        refine jM rfl rfl rfl (cB (cN h_14)) (jP (jU (kR rfl rfl))) ?_
        rintro _ _ ⟨rfl, rfl⟩
        refine jA (ji (v := .bool (decide (60 < (((l.getD j c0).2).length : Int)))) (cB (cN h_14)) rfl) <| jA (jD (v := .bool (decide (60 < (((l.getD j c0).2).length : Int)))) rfl) ?_
        by_cases h_15 : 60 < (((l.getD j c0).2).length : Int)
        · refine jS (b := true) rfl rfl rfl (cB (dT h_15)) <| jS (b := true) rfl rfl rfl (cB (dT h_15)) <| jA (jh (v := .bool true) (cB (dT h_15)) rfl) <| jE <| jB <| jW (cB rfl) <| jC <| jF <| jA (jG (v := str []) rfl) <| jE ?_
          refine jB <| jN <| jX <| jv <| jX <| jX <| jv <| jX <| jV (.inl rfl) rfl (jJ (v := str []) rfl) (List.nil_sublist _) ?_
          refine ⟨congrArg str ?_, rfl⟩
          have hrt : recText seq l = recGo (dec seq) l := by unfold recText; rw [if_pos h_1]
          rw [hrt, ← hR, recGo_step hlt, if_pos (by simp only [recBad, Bool.and_true, Bool.true_and, Bool.and_false, Bool.false_and, Bool.or_true, Bool.true_or, Bool.or_false, Bool.false_or, Bool.not_true, Bool.not_false, (h_1), ((dT h_11)), (h_14), ((dT h_15))])]
        refine jM rfl rfl rfl (cB (dF h_15)) (jI [1] Tryz.call79 rfl (Y_blen b_2 (some ⟨b_2, 0, none⟩) oa b.length oc) (congr (congrArg List.cons he_7) rfl) (fun _ _ => trivial)) ?_
        rintro _ _ ⟨_, ⟨rfl, rfl⟩, rfl⟩
        refine jM rfl rfl rfl (cB (dF h_15)) (jP (jU (kR rfl rfl))) ?_
        rintro _ _ ⟨rfl, rfl⟩
        refine jA (ji (v := .bool (decide (4000 < ((b.length : Nat) : Int)))) (cB (dF h_15)) rfl) <| jE <| jB ?_
        by_cases h_16 : 4000 < ((b.length : Nat) : Int)
        · refine jW (cB (dT h_16)) <| jC <| jF <| jA (jG (v := str []) rfl) <| jE <| jB <| jN <| jX <| jv <| jX ?_
          refine jX <| jv <| jX <| jV (.inl rfl) rfl (jJ (v := str []) rfl) (List.nil_sublist _) ?_
          refine ⟨congrArg str ?_, rfl⟩
          have hrt : recText seq l = recGo (dec seq) l := by unfold recText; rw [if_pos h_1]
          rw [hrt, ← hR, recGo_step hlt, if_pos (by simp only [recBad, Bool.and_true, Bool.true_and, Bool.and_false, Bool.false_and, Bool.or_true, Bool.true_or, Bool.or_false, Bool.false_or, Bool.not_true, Bool.not_false, (h_1), ((dT h_11)), (h_14), ((dF h_15)), ((dT h_16))])]
        refine jR (cB (dF h_16)) <| jT <| jB <| kJ [bk b_13 48 [str ((l.getD j c0).1), str ((l.getD j c0).2)]] 1000 mixed (by simp) <| jL 0 rfl (jQ fo48_0 rfl) <| jw 1 rfl (jZ 0 (v := str ((l.getD j c0).1)) rfl rfl ki rfl) <| jL 5 rfl (jQ fo48_1 rfl) <| jw 6 rfl (jZ 0 (v := str ((l.getD j c0).2)) rfl rfl ki rfl) <| jj (i := 2) ?_
        refine jz rfl rfl (jI [] Tryz.call80 rfl (Y_iHex ((l.getD j c0).1) (by omega)) rfl (fun _ _ => trivial)) ?_
        rintro _ _ ⟨_, ⟨rfl, rfl⟩, rfl⟩
        have hxl_20 := hexB_len ((l.getD j c0).1)
        refine ⟨by simp, ?_⟩
        refine jL 3 rfl (kc rfl rfl (by (try simp only [List.length_append, List.length_cons, List.length_nil, List.length_drop, List.length_take]); omega)) <| jL 4 rfl (kc rfl rfl (by (try simp only [List.length_append, List.length_cons, List.length_nil, List.length_drop, List.length_take]); omega)) <| jj (i := 7) ?_
        refine jz rfl rfl (jI [] Tryz.call80 rfl (Y_iHex ((l.getD j c0).2) (by omega)) rfl (fun _ _ => trivial)) ?_
        rintro _ _ ⟨_, ⟨rfl, rfl⟩, rfl⟩
        have hxl_22 := hexB_len ((l.getD j c0).2)
        refine ⟨by simp, ?_⟩
        refine jL 8 rfl (kc rfl rfl (by (try simp only [List.length_append, List.length_cons, List.length_nil, List.length_drop, List.length_take]); omega)) <| jj (i := 9) ?_
        refine jz rfl rfl (jI [0, 1] Tryz.call77 rfl (Y_ws1 b_2 oa oc b ((([32] ++ (hexB ((l.getD j c0).1))) ++ [61]) ++ (hexB ((l.getD j c0).2))) (by first | omega | ((try simp only [List.length_append, List.length_cons, List.length_nil]); omega)) (by first | omega | ((try simp only [List.length_append, List.length_cons, List.length_nil]); omega))) (congr (congrArg List.cons he_7) (congr (congrArg List.cons rfl) rfl)) (fun _ _ => trivial)) ?_
        rintro _ _ ⟨_, ⟨a_25, c_26, rfl, rfl⟩, rfl⟩
        refine ⟨by simp, ?_⟩
        refine kI (by kernel_rfl) <| jm <| jB <| jF <| jA (jc (c := ((j + 1 : Nat) : Int)) he_10 rfl (wr (by omega))) <| jA (jD (v := iv ((j + 1 : Nat) : Int)) rfl) <| jE <| kB [0, 0] (A := [bk b_2 93 [.pointer (some ⟨b_2, 0, none⟩), .slice a_25 ((b ++ ((([32] ++ (hexB ((l.getD j c0).1))) ++ [61]) ++ (hexB ((l.getD j c0).2)))).length) c_26], Res.row (.slice a_25 ((b ++ ((([32] ++ (hexB ((l.getD j c0).1))) ++ [61]) ++ (hexB ((l.getD j c0).2)))).length) c_26) 5 1 ((b ++ ((([32] ++ (hexB ((l.getD j c0).1))) ++ [61]) ++ (hexB ((l.getD j c0).2)))).length) ((b ++ ((([32] ++ (hexB ((l.getD j c0).1))) ++ [61]) ++ (hexB ((l.getD j c0).2)))).map encB)]) rfl ?_
        refine jq (l.length - (j + 1)) (by omega) ⟨j + 1, a_25, c_26, (b ++ ((([32] ++ (hexB ((l.getD j c0).1))) ++ [61]) ++ (hexB ((l.getD j c0).2)))), by omega, (by simp only [List.length_append, List.length_cons, List.length_nil]; omega), (by rw [recGo_step hlt, if_neg (by simp only [recBad, Bool.and_true, Bool.true_and, Bool.and_false, Bool.false_and, Bool.or_true, Bool.true_or, Bool.or_false, Bool.false_or, Bool.not_true, Bool.not_false, (h_1), ((dT h_11)), (h_14), ((dF h_15)), ((dF h_16))]; exact Bool.false_ne_true)] at hR; simp only [recRow] at hR; exact hR), he_7, he_8, he_9, rfl, rfl, rfl⟩
      refine jS (b := true) rfl rfl rfl (cB (cN h_14)) <| jS (b := true) rfl rfl rfl (cB (cN h_14)) <| jS (b := true) rfl rfl rfl (cB (cN h_14)) <| jS (b := true) rfl rfl rfl (cB (cN h_14)) <| jA (jh (v := .bool true) (cB (cN h_14)) rfl) <| jA (jD (v := .bool true) rfl) <| jS (b := true) rfl rfl rfl (cB rfl) <| jS (b := true) rfl rfl rfl (cB rfl) <| jA (jh (v := .bool true) (cB rfl) rfl) <| jE ?_
      refine jB <| jW (cB rfl) <| jC <| jF <| jA (jG (v := str []) rfl) <| jE <| jB <| jN <| jX <| jv ?_
      refine jX <| jX <| jv <| jX <| jV (.inl rfl) rfl (jJ (v := str []) rfl) (List.nil_sublist _) ?_
      refine ⟨congrArg str ?_, rfl⟩
      have hrt : recText seq l = recGo (dec seq) l := by unfold recText; rw [if_pos h_1]
      rw [hrt, ← hR, recGo_step hlt, if_pos (by simp only [recBad, Bool.and_true, Bool.true_and, Bool.and_false, Bool.false_and, Bool.or_true, Bool.true_or, Bool.or_false, Bool.false_or, Bool.not_true, Bool.not_false, (h_1), ((dT h_11)), (h_14)])]
    refine jR (cB (dF h_11)) <| jx <| jb <| jb <| jy <| jB <| jC <| JC.rowBlk 1 rfl (by omega) ?_
    intro g_ cur_ fz_ ha_ hm1_ hm2_ hm3_ hm4_
    have hm63_ : oc ≤ 9223372036854775807 := by unfold maxLen at hm2_; omega
    have hl0_ : b ≠ [] := List.length_pos_iff.1 (by omega)
    refine jF ?_
    refine jH rfl (jI [0, 0] Tryz.call81 rfl (Y_bstr b_2 g_ oc (some ⟨b_2, 0, none⟩) oa cur_ fz_ ha_ b hl0_ (by omega) (by omega) (by omega) (by rw [Nat.mul_one] at hm4_; exact hm4_)) (congr (congrArg List.cons he_7) rfl) (fun _ _ => trivial)) ?_
    rintro _ _ ⟨_, ⟨fz_27, rfl, rfl⟩, rfl⟩
    refine jA (kc rfl rfl (by (try simp only [List.length_append, List.length_cons, List.length_nil, List.length_drop, List.length_take]); omega)) ?_
    refine jH rfl (jI [0, 0] Tryz.call81 rfl (Y_bstr b_2 g_ oc (some ⟨b_2, 0, none⟩) oa cur_ fz_27 ha_ b hl0_ (by omega) (by omega) (by omega) (by rw [Nat.mul_one] at hm4_; exact hm4_)) (congr (congrArg List.cons he_7) rfl) (fun _ _ => trivial)) ?_
    rintro _ _ ⟨_, ⟨fz_28, rfl, rfl⟩, rfl⟩
    refine jH rfl (jI [] Tryz.call82 rfl (Y_implSum b (by (try simp only [List.length_append, List.length_cons, List.length_nil]); omega)) rfl (fun _ _ => trivial)) ?_
    rintro _ _ ⟨_, ⟨rfl, rfl⟩, rfl⟩
    have hbs_29 := byteSum_lo b
    refine jH rfl (jI [] Tryz.call29 rfl (C_decimal ((byteSum b : Nat) : Int) (by omega) (by omega)) rfl (fun _ _ => trivial)) ?_
    rintro _ _ ⟨_, ⟨rfl, rfl⟩, rfl⟩
    have hdl_30 := dec_len (n := ((byteSum b : Nat) : Int)) (by omega) (by omega)
    refine jA (kc rfl rfl (by (try simp only [List.length_append, List.length_cons, List.length_nil, List.length_drop, List.length_take]); omega)) <| jA (kc rfl rfl (by (try simp only [List.length_append, List.length_cons, List.length_nil, List.length_drop, List.length_take]); omega)) <| jA (jG (v := str (((b ++ [32, 35]) ++ (dec ((byteSum b : Nat) : Int))) ++ [10])) rfl) <| jE <| jB <| jC <| jC <| jF <| jA (jD (v := str (((b ++ [32, 35]) ++ (dec ((byteSum b : Nat) : Int))) ++ [10])) rfl) <| jA (kF kg rfl) ?_
    refine jA (kR rfl rfl) <| jE <| jB ?_
    by_cases h_31 : 4000 < ((((b ++ [32, 35]) ++ (dec ((byteSum b : Nat) : Int))) ++ [10]).length : Int)
    · refine jW (cB (dT h_31)) <| jC <| jF <| jA (jG (v := str []) rfl) <| jE <| jB <| jN <| jX <| jV (.inl rfl) rfl (jJ (v := str []) rfl) (List.nil_sublist _) ?_
      refine ⟨congrArg str ?_, rfl⟩
      have hrt : recText seq l = recGo (dec seq) l := by unfold recText; rw [if_pos h_1]
      rw [hrt, ← hR, List.drop_of_length_le (by omega), recGo, recEnd]
      first | rw [if_pos (by assumption)] | rw [if_neg (by assumption)]
    refine jR (cB (dF h_31)) <| jT <| jB <| jC <| jF <| jA (jD (v := str (((b ++ [32, 35]) ++ (dec ((byteSum b : Nat) : Int))) ++ [10])) rfl) <| jA (jG (v := str (((b ++ [32, 35]) ++ (dec ((byteSum b : Nat) : Int))) ++ [10])) rfl) <| jE <| jB <| jN ?_
    refine jV (.inl rfl) rfl (jJ (v := str (((b ++ [32, 35]) ++ (dec ((byteSum b : Nat) : Int))) ++ [10])) rfl) (List.nil_sublist _) ?_
    refine ⟨congrArg str ?_, rfl⟩
    have hrt : recText seq l = recGo (dec seq) l := by unfold recText; rw [if_pos h_1]
    rw [hrt, ← hR, List.drop_of_length_le (by omega), recGo, recEnd]
    first | rw [if_pos (by assumption)] | rw [if_neg (by assumption)]
  refine jW (cB (cN h_1)) <| jC <| jF <| jA (jG (v := str []) rfl) <| jE <| jB <| jN <| jX <| jV (.inl rfl) rfl (jJ (v := str []) rfl) (List.nil_sublist _) ?_
  refine ⟨congrArg str ?_, rfl⟩
  unfold recText
  rw [h_1]
  rfl

theorem Y_iUnhex (t : Str) (ht : t.length ≤ 100000000) : Ct Tryz.prog 115 [str t] [] (fun w => HexOk w) (fun v A' => v = .tuple #[str (unhex t).1, .bool (unhex t).2] ∧ A' = []) :=
  (N_unhex t (by omega)).weak (fun _ h => h) fun v A' ⟨u, b, e, _, hv, hA⟩ => ⟨by rw [hv, e], hA⟩
theorem cutB_len (c : UInt8) : ∀ s : Str, (cutB c s).1.length ≤ s.length ∧ (cutB c s).2.length ≤ s.length
  | [] => ⟨Nat.le_refl _, Nat.le_refl _⟩
  | x :: s => by
    have h := cutB_len c s
    unfold cutB
    split
    · exact ⟨Nat.zero_le _, by simp⟩
    · simp only [List.length_cons]; omega

set_option maxRecDepth 4000 in
set_option maxHeartbeats 1000000 in
theorem Y_iRead (t : Str) (ht : t.length ≤ 100000000) :
    Ct Tryz.prog 64 [str t] [] (fun w => HexOk w) (fun v A' => ∃ a c, v = .tuple #[.int .i64 (readI t).1, .slice a (readI t).2.1.length c, .bool (readI t).2.2] ∧ A' = [.row (.slice a (readI t).2.1.length c) 48 2 (readI t).2.1.length ((readI t).2.1.flatMap encC)]) := by
  refine Ct.introL Tryz.func64 rfl Tryz.ntmps64 (lb rfl) fun w0 hpre hlow => ?_
  refine jC <| jF <| jA (jG (v := iv 0) rfl) <| jA (jG (v := .slice none 0 0) rfl) <| jA (jG (v := .bool false) rfl) <| jE <| jB <| jC <| jC <| jF ?_
  refine jA (jD (v := str t) rfl) <| jA (kF kg rfl) <| jA (kR rfl rfl) <| jE <| jB ?_
  by_cases h_1 : 4000 < (t.length : Int)
  · refine jW (cB (dT h_1)) <| jC <| jF <| jA (jG (v := iv 0) rfl) <| jA (jG (v := .slice none 0 0) rfl) <| jA (jG (v := .bool false) rfl) <| jE <| jB <| jN <| jX ?_
    refine JQ.nilRow 48 2 <| Done.three (.inl rfl) rfl (jJ (v := iv 0) rfl) (jJ (v := .slice none 0 0) rfl) (jJ (v := .bool false) rfl) (List.Sublist.refl _) ?_
    have he : readI t = (0, [], false) := if_pos h_1
    exact ⟨none, 0, by rw [he] <;> rfl, by rw [he] <;> rfl⟩
  refine jR (cB (dF h_1)) <| jT <| jB <| jC <| jF <| jA (jD (v := str t) rfl) ?_
  refine jH rfl (jI [] Tryz.call112 rfl (Y_split t 32 (by omega)) rfl (fun _ _ => trivial)) ?_
  rintro _ _ ⟨_, ⟨a_2, c_3, rfl, rfl⟩, rfl⟩
  have hsp_4 := splitB_len 32 t
  refine jA (jG (v := .slice a_2 ((splitB 32 t).length) c_3) rfl) <| jE <| jB <| jC <| jF <| jA (jD (v := .slice a_2 ((splitB 32 t).length) c_3) rfl) ?_
  refine kN fun hst => ?_
  obtain ⟨hr_5, hr_5b, -⟩ := row_some 0 rfl (by omega) hst
  refine jA (jk (i := 0) ku kt hr_5 hr_5b rfl rfl (by omega)) <| jK (ka 0 (v := str ((splitB 32 t).getD 0 [])) rfl rfl ki (atS (by omega))) ?_
  refine jH rfl (jI [] Tryz.call113 rfl (C_readDecimal ((splitB 32 t).getD 0 []) (by have h_2 := splitB_get 32 t 0; omega)) rfl (fun _ _ => trivial)) ?_
  rintro _ _ ⟨_, ⟨rfl, rfl⟩, rfl⟩
  refine jA (jD (v := .tuple #[iv ((readDec ((splitB 32 t).getD 0 [])).1), .bool ((readDec ((splitB 32 t).getD 0 [])).2)]) rfl) <| jA (je (v := iv ((readDec ((splitB 32 t).getD 0 [])).1)) rfl rfl) <| jA (je (v := .bool ((readDec ((splitB 32 t).getD 0 [])).2)) rfl rfl) <| jA (jG (v := iv ((readDec ((splitB 32 t).getD 0 [])).1)) rfl) <| jA (jG (v := .bool ((readDec ((splitB 32 t).getD 0 [])).2)) rfl) <| jE <| jB <| jC <| jF <| jA (jG (v := .slice none 0 0) rfl) ?_
  refine jE <| jB <| jC <| jC <| jF <| jA (jD (v := .slice a_2 ((splitB 32 t).length) c_3) rfl) <| jA (jD (v := .slice a_2 ((splitB 32 t).length) c_3) rfl) <| jA (jr ku rfl) <| jA (PO.max2D (c := ((max (splitB 32 t).length 2 : Nat) : Int)) rfl rfl (by omega)) <| jA (kZ (c := (((max (splitB 32 t).length 2) - 1 : Nat) : Int)) rfl rfl (wr (by omega))) ?_
  refine kN fun hst => ?_
  obtain ⟨hf_6m, hf_6x, hf_6s, hf_6l⟩ := fits_of hst (i := 0) rfl
  refine jA (PO.sliceVlh (i := 1) (j := ((max (splitB 32 t).length 2) - 1)) ku kt hf_6s rfl rfl rfl (by omega) (by omega)) <| jA (jr ku rfl) <| jA (jD (v := iv 0) rfl) <| jE <| jB <| jf <| JC.nilRow 48 2 <| kD (fun k_ e_ L_ => ∃ j : Nat, ∃ oa : Option Addr, ∃ oc : Nat, ∃ o_ : List Cell, (j ≤ max (splitB 32 t).length 2 - 1 - 1) ∧ (o_.length ≤ j) ∧ (o_ = (((splitB 32 t).drop 1).take j).map readWord) ∧ e_ 0 = str t ∧ e_ 2 = iv 0 ∧ e_ 3 = .slice none 0 0 ∧ e_ 4 = .bool false ∧ e_ 6 = iv ((readDec ((splitB 32 t).getD 0 [])).1) ∧ e_ 8 = .slice oa o_.length oc ∧ e_ 35 = .slice (subA 1 a_2 c_3 1) (((max (splitB 32 t).length 2) - 1) - 1) (c_3 - 1) ∧ e_ 36 = iv ((((max (splitB 32 t).length 2) - 1) - 1 : Nat) : Int) ∧ e_ 37 = nv j ∧ L_ = [rC oa oc o_, rS a_2 c_3 (splitB 32 t)] ∧ k_ = (max (splitB 32 t).length 2 - 1 - 1) - j) _ ⟨0, none, 0, [], by omega, (by simp), (by simp), rfl, rfl, rfl, rfl, rfl, rfl, rfl, rfl, rfl, rfl, rfl⟩ ?_
  rintro _ e_7 _ ⟨j, oa, oc, o_, hj, hol, ho, he_8, he_9, he_10, he_11, he_12, he_13, he_14, he_15, he_16, rfl, rfl⟩
  refine jC <| jF <| jA (jl he_16 he_15) <| jE <| jB <| jC ?_
  by_cases h_17 : ((j : Nat) : Int) < ((((max (splitB 32 t).length 2) - 1) - 1 : Nat) : Int)
  · have hlt : j < (splitB 32 t).length := by omega
    refine jW (cB (dT h_17)) <| jT <| jB <| jC <| jf <| jC <| jF <| jA (PO.indexSub (lo := 1) (i := j) ku kt hr_5 hr_5b he_14 he_16 (by omega) (by omega)) <| jK (ka 1 (v := str ((splitB 32 t).getD (1 + j) [])) rfl rfl ki (atS (by omega))) <| jA (jG (v := str ((splitB 32 t).getD (1 + j) [])) rfl) ?_
    refine jE <| jB <| jC <| jF <| jA (jD (v := str ((splitB 32 t).getD (1 + j) [])) rfl) ?_
    refine jH rfl (jI [] Tryz.call114 rfl (Y_cut ((splitB 32 t).getD (1 + j) []) 61 (by have h_1 := splitB_get 32 t (1 + j); omega)) rfl (fun _ _ => trivial)) ?_
    rintro _ _ ⟨_, ⟨b_18, rfl, rfl⟩, rfl⟩
    refine jA (jD (v := .tuple #[str ((cutB 61 ((splitB 32 t).getD (1 + j) [])).1), str ((cutB 61 ((splitB 32 t).getD (1 + j) [])).2), .bool b_18]) rfl) <| jA (je (v := str ((cutB 61 ((splitB 32 t).getD (1 + j) [])).1)) rfl rfl) <| jA (je (v := str ((cutB 61 ((splitB 32 t).getD (1 + j) [])).2)) rfl rfl) <| jA (je (v := .bool b_18) rfl rfl) <| jA (jG (v := str ((cutB 61 ((splitB 32 t).getD (1 + j) [])).1)) rfl) <| jA (jG (v := str ((cutB 61 ((splitB 32 t).getD (1 + j) [])).2)) rfl) <| jA (jG (v := .bool b_18) rfl) <| jE <| jB <| jC ?_
    refine jF <| jA (jD (v := str ((cutB 61 ((splitB 32 t).getD (1 + j) [])).1)) rfl) ?_
    refine jH rfl (jI [] Tryz.call115 rfl (Y_iUnhex ((cutB 61 ((splitB 32 t).getD (1 + j) [])).1) (by have h_1 := splitB_get 32 t (1 + j); have h_2 := cutB_len 61 ((splitB 32 t).getD (1 + j) []); omega)) rfl (fun w hw => hw.hex hlow hpre)) ?_
    rintro _ _ ⟨_, ⟨rfl, rfl⟩, rfl⟩
    refine jA (jD (v := .tuple #[str ((unhex ((cutB 61 ((splitB 32 t).getD (1 + j) [])).1)).1), .bool ((unhex ((cutB 61 ((splitB 32 t).getD (1 + j) [])).1)).2)]) rfl) <| jA (je (v := str ((unhex ((cutB 61 ((splitB 32 t).getD (1 + j) [])).1)).1)) rfl rfl) <| jA (je (v := .bool ((unhex ((cutB 61 ((splitB 32 t).getD (1 + j) [])).1)).2)) rfl rfl) <| jA (jG (v := str ((unhex ((cutB 61 ((splitB 32 t).getD (1 + j) [])).1)).1)) rfl) <| jA (jG (v := .bool ((unhex ((cutB 61 ((splitB 32 t).getD (1 + j) [])).1)).2)) rfl) <| jE <| jB <| jC <| jF <| jA (jD (v := str ((cutB 61 ((splitB 32 t).getD (1 + j) [])).2)) rfl) ?_
    refine jH rfl (jI [] Tryz.call115 rfl (Y_iUnhex ((cutB 61 ((splitB 32 t).getD (1 + j) [])).2) (by have h_1 := splitB_get 32 t (1 + j); have h_2 := cutB_len 61 ((splitB 32 t).getD (1 + j) []); omega)) rfl (fun w hw => hw.hex hlow hpre)) ?_
    rintro _ _ ⟨_, ⟨rfl, rfl⟩, rfl⟩
    refine jA (jD (v := .tuple #[str ((unhex ((cutB 61 ((splitB 32 t).getD (1 + j) [])).2)).1), .bool ((unhex ((cutB 61 ((splitB 32 t).getD (1 + j) [])).2)).2)]) rfl) <| jA (je (v := str ((unhex ((cutB 61 ((splitB 32 t).getD (1 + j) [])).2)).1)) rfl rfl) <| jA (je (v := .bool ((unhex ((cutB 61 ((splitB 32 t).getD (1 + j) [])).2)).2)) rfl rfl) <| jA (jG (v := str ((unhex ((cutB 61 ((splitB 32 t).getD (1 + j) [])).2)).1)) rfl) <| jA (jG (v := .bool ((unhex ((cutB 61 ((splitB 32 t).getD (1 + j) [])).2)).2)) rfl) <| jE <| jB <| jF <| jA (jD (v := .slice oa o_.length oc) he_13) <| jA (jD (v := str ((unhex ((cutB 61 ((splitB 32 t).getD (1 + j) [])).1)).1)) rfl) ?_
    refine jA (jD (v := str ((unhex ((cutB 61 ((splitB 32 t).getD (1 + j) [])).2)).1)) rfl) <| jA (kW (ps := [(0, str ((unhex ((cutB 61 ((splitB 32 t).getD (1 + j) [])).1)).1)), (1, str ((unhex ((cutB 61 ((splitB 32 t).getD (1 + j) [])).2)).1))]) (cs := [str ((unhex ((cutB 61 ((splitB 32 t).getD (1 + j) [])).1)).1), str ((unhex ((cutB 61 ((splitB 32 t).getD (1 + j) [])).2)).1)]) rfl (by kernel_rfl)) ?_
    refine jH rfl (kH (ps := [(0, .agg #[str ((unhex ((cutB 61 ((splitB 32 t).getD (1 + j) [])).1)).1), str ((unhex ((cutB 61 ((splitB 32 t).getD (1 + j) [])).2)).1)])]) (cur := #[str ((unhex ((cutB 61 ((splitB 32 t).getD (1 + j) [])).1)).1), str ((unhex ((cutB 61 ((splitB 32 t).getD (1 + j) [])).2)).1)]) kf kh kw rfl (by kernel_rfl) (by decide) (by decide)) ?_
    rintro _ _ ⟨a_19, rfl, rfl⟩
    refine jH rfl (kU 1 (q := 1) (news := ([((unhex ((cutB 61 ((splitB 32 t).getD (1 + j) [])).1)).1, (unhex ((cutB 61 ((splitB 32 t).getD (1 + j) [])).2)).1)] : List Cell).flatMap encC) (n' := (o_ ++ ([((unhex ((cutB 61 ((splitB 32 t).getD (1 + j) [])).1)).1, (unhex ((cutB 61 ((splitB 32 t).getD (1 + j) [])).2)).1)] : List Cell)).length) (cs' := (o_ ++ ([((unhex ((cutB 61 ((splitB 32 t).getD (1 + j) [])).1)).1, (unhex ((cutB 61 ((splitB 32 t).getD (1 + j) [])).2)).1)] : List Cell)).flatMap encC) rfl kf kf ky rfl (by' := 32) rfl rfl rfl rfl rfl (fun w hw => Src.sees (hw.see (i := 0) rfl) (oneC _)) (by (try simp only [LE]); omega) (by (try simp only [LE]); omega) (by simp only [List.length_append, List.length_take, List.length_drop, List.length_cons, List.length_nil] <;> first | rfl | omega) (by simp only [List.flatMap_append])) ?_
    rintro _ _ ⟨a_20, c_21, rfl, rfl⟩
    refine jA (jG (v := .slice a_20 ((o_ ++ ([((unhex ((cutB 61 ((splitB 32 t).getD (1 + j) [])).1)).1, (unhex ((cutB 61 ((splitB 32 t).getD (1 + j) [])).2)).1)] : List Cell)).length) c_21) rfl) <| jE <| jm <| jB <| jF <| jA (jc (c := ((j + 1 : Nat) : Int)) he_16 rfl (wr (by omega))) <| jA (jD (v := iv ((j + 1 : Nat) : Int)) rfl) <| jE <| kB [1, 1] (A := [rC a_20 c_21 (o_ ++ ([((unhex ((cutB 61 ((splitB 32 t).getD (1 + j) [])).1)).1, (unhex ((cutB 61 ((splitB 32 t).getD (1 + j) [])).2)).1)] : List Cell)), rS a_2 c_3 (splitB 32 t)]) rfl ?_
    refine jq ((max (splitB 32 t).length 2 - 1 - 1) - (j + 1)) (by omega) ⟨j + 1, a_20, c_21, (o_ ++ ([((unhex ((cutB 61 ((splitB 32 t).getD (1 + j) [])).1)).1, (unhex ((cutB 61 ((splitB 32 t).getD (1 + j) [])).2)).1)] : List Cell)), by omega, (by (try simp only [List.length_append, List.length_cons, List.length_nil]); omega), (by have h_ := mids_step (p := splitB 32 t) (i := j + 1) (by omega) (by omega); simp only [Nat.add_sub_cancel] at h_; rw [h_, ← ho, Nat.add_comm 1 j]; rfl), he_8, he_9, he_10, he_11, he_12, rfl, he_14, he_15, rfl, rfl, rfl⟩
  refine jR (cB (dF h_17)) <| jx <| jb <| jb <| jy <| jB <| jC <| jC ?_
  have hokl : okC o_ := by rw [ho]; exact okC_read (by rw [List.length_take, List.length_drop]; omega)
  refine jF <| jA (jD (v := str t) he_8) <| jA (PO.eqlS rfl rfl) <| jA (jD (v := .bool (decide (t = []))) rfl) ?_
  by_cases h_22 : t = []
  · refine jS (b := true) rfl rfl rfl (cB (dT h_22)) <| jS (b := true) rfl rfl rfl (cB (dT h_22)) <| jS (b := true) rfl rfl rfl (cB (dT h_22)) <| jS (b := true) rfl rfl rfl (cB (dT h_22)) <| jS (b := true) rfl rfl rfl (cB (dT h_22)) <| jA (jh (v := .bool true) (cB (dT h_22)) rfl) <| jE <| jB <| jW (cB rfl) <| jC ?_
    refine jF <| jA (jG (v := iv 0) rfl) <| jA (jG (v := .slice none 0 0) rfl) <| jA (jG (v := .bool false) rfl) <| jE <| jB <| jN <| jX <| JQ.nilRow 48 2 <| Done.three (.inl rfl) rfl (jJ (v := iv 0) rfl) (jJ (v := .slice none 0 0) rfl) (jJ (v := .bool false) rfl) (tS 1 _) ?_
    have hmi : (midsOf (splitB 32 t)).map readWord = o_ := by rw [ho, midsOf, show j = (splitB 32 t).length - 2 by omega]
    have he : readI t = (0, [], false) := by unfold readI; rw [if_neg h_1, hmi, if_pos (by first | exact .inl (by assumption) | exact .inr (by assumption))]
    exact ⟨none, 0, by rw [he] <;> rfl, by rw [he] <;> rfl⟩
  refine jM rfl rfl rfl (cB (dF h_22)) (jP (jU (jD (v := iv ((readDec ((splitB 32 t).getD 0 [])).1)) he_12))) ?_
  rintro _ _ ⟨rfl, rfl⟩
  refine jM rfl rfl rfl (cB (dF h_22)) (jP (jU (jD (v := .slice oa o_.length oc) he_13))) ?_
  rintro _ _ ⟨rfl, rfl⟩
  refine jM rfl rfl rfl (cB (dF h_22)) (jI [] Tryz.call28 rfl (Y_iRec ((readDec ((splitB 32 t).getD 0 [])).1) oa oc o_ hokl) rfl (fun w hw => hw.see (i := 0) rfl)) ?_
  rintro _ _ ⟨_, ⟨rfl, rfl⟩, rfl⟩
  refine jM rfl rfl rfl (cB (dF h_22)) (jP (jU (jD (v := str t) he_8))) ?_
  rintro _ _ ⟨rfl, rfl⟩
  refine jM rfl rfl rfl (cB (dF h_22)) (jP (jU (PO.neqS rfl rfl))) ?_
  rintro _ _ ⟨rfl, rfl⟩
  refine jA (ji (v := .bool (!(decide ((recText ((readDec ((splitB 32 t).getD 0 [])).1) o_) = t)))) (cB (dF h_22)) rfl) <| jE <| jB ?_
  by_cases h_23 : (recText ((readDec ((splitB 32 t).getD 0 [])).1) o_) = t
  · refine jR (cB (cN (dT h_23))) <| jT <| jB <| jC <| jF <| jA (jD (v := iv ((readDec ((splitB 32 t).getD 0 [])).1)) he_12) <| jA (jD (v := .slice oa o_.length oc) he_13) <| jA (jG (v := iv ((readDec ((splitB 32 t).getD 0 [])).1)) rfl) <| jA (jG (v := .slice oa o_.length oc) rfl) <| jA (jG (v := .bool true) rfl) ?_
    refine jE <| jB <| jN <| Done.three (.inl rfl) rfl (jJ (v := iv ((readDec ((splitB 32 t).getD 0 [])).1)) rfl) (jJ (v := .slice oa o_.length oc) rfl) (jJ (v := .bool true) rfl) (tS 1 _) ?_
    have hmi : (midsOf (splitB 32 t)).map readWord = o_ := by rw [ho, midsOf, show j = (splitB 32 t).length - 2 by omega]
    have he : readI t = ((readDec ((splitB 32 t).getD 0 [])).1, o_, true) := by unfold readI; rw [if_neg h_1, hmi, if_neg (by rintro (h_ | h_) <;> simp_all)]
    exact ⟨oa, oc, by rw [he] <;> rfl, by rw [he] <;> rfl⟩
  refine jW (cB (cN (dF h_23))) <| jC <| jF <| jA (jG (v := iv 0) rfl) <| jA (jG (v := .slice none 0 0) rfl) <| jA (jG (v := .bool false) rfl) <| jE <| jB <| jN <| jX ?_
  refine JQ.nilRow 48 2 <| Done.three (.inl rfl) rfl (jJ (v := iv 0) rfl) (jJ (v := .slice none 0 0) rfl) (jJ (v := .bool false) rfl) (tS 1 _) ?_
  have hmi : (midsOf (splitB 32 t)).map readWord = o_ := by rw [ho, midsOf, show j = (splitB 32 t).length - 2 by omega]
  have he : readI t = (0, [], false) := by unfold readI; rw [if_neg h_1, hmi, if_pos (by first | exact .inl (by assumption) | exact .inr (by assumption))]
  exact ⟨none, 0, by rw [he] <;> rfl, by rw [he] <;> rfl⟩

end Go.Proofs.YtjncpgcccgdeiaaGreatDoor

set_option linter.unusedSimpArgs false
set_option linter.unusedVariables false
set_option linter.unnecessarySimpa false
namespace Go.Proofs.YtjncpgcccgdeiaaGreatDoor
open Go Go.RowKit
def sumLen (l : List Str) : Nat := l.foldr (fun x n => x.length + n) 0
theorem linesG_sum : ∀ (t b : Str), sumLen (linesG b t) ≤ b.length + t.length
  | [], b => Nat.zero_le _
  | c :: t, b => by
    unfold linesG
    split
    · have := linesG_sum t []
      simp only [sumLen, List.foldr_cons, List.length_append, List.length_cons, List.length_nil] at *
      omega
    · have := linesG_sum t (b ++ [c])
      simp only [List.length_append, List.length_cons, List.length_nil] at *
      omega
theorem linesG_mem : ∀ (t b x : Str), x ∈ linesG b t → x.length ≤ b.length + t.length
  | [], b, x, h => by cases h
  | c :: t, b, x, h => by
    unfold linesG at h
    split at h
    · rcases List.mem_cons.1 h with rfl | h
      · simp only [List.length_append, List.length_cons, List.length_nil]; omega
      · have := linesG_mem t [] x h; simp only [List.length_cons, List.length_nil] at *; omega
    · have := linesG_mem t (b ++ [c]) x h; simp only [List.length_append, List.length_cons, List.length_nil] at *; omega
theorem linesG_len : ∀ (t b : Str), (linesG b t).length ≤ t.length
  | [], b => Nat.le_refl _
  | c :: t, b => by
    unfold linesG
    split
    · have := linesG_len t []; simp only [List.length_cons]; omega
    · have := linesG_len t (b ++ [c]); simp only [List.length_cons]; omega
/-- How much of the journal a checkpoint's slot already holds. -/
def trimN (most : Int) : List Str → Nat
  | [] => 0
  | x :: l => if (readI x).2.2 = false ∨ most < (readI x).1 then 0 else x.length + trimN most l
theorem trimN_sum (most : Int) : ∀ l, trimN most l ≤ sumLen l
  | [] => Nat.le_refl _
  | x :: l => by
    have := trimN_sum most l
    unfold trimN
    simp only [sumLen, List.foldr_cons] at *
    split <;> omega
theorem trimN_le (most : Int) (t : Str) : trimN most (linesOf t) ≤ t.length := by
  have h1 := trimN_sum most (linesOf t)
  have h2 := linesG_sum t []
  simp only [List.length_nil] at h2
  unfold linesOf at *
  omega
theorem trimN_step {most : Int} {l : List Str} {i : Nat} (h : i < l.length) : trimN most (l.drop i) = if (readI (l.getD i [])).2.2 = false ∨ most < (readI (l.getD i [])).1 then 0 else (l.getD i []).length + trimN most (l.drop (i + 1)) := by
  rw [drop_at (getD_some (d := []) h), trimN]
/-- The records of a journal from f on: their cells, and how many bytes they take with those before them; m are there already. -/
def recsG (f : Int) : Nat → List Str → List (List Cell) × Nat
  | _, [] => ([], 0)
  | m, x :: l =>
    if (readI x).2.2 = false then ([], 0)
    else if m = 0 ∧ (readI x).1 < f then ((recsG f m l).1, x.length + (recsG f m l).2)
    else if (readI x).1 = f + ((m : Nat) : Int) then ((readI x).2.1 :: (recsG f (m + 1) l).1, x.length + (recsG f (m + 1) l).2)
    else ([], 0)
def recsOf (t : Str) (f : Int) : List (List Cell) × Nat := if within 1 f 100000 = true then recsG f 0 (linesOf t) else ([], 0)
theorem recsG_sum (f : Int) : ∀ (l : List Str) (m : Nat), (recsG f m l).2 ≤ sumLen l ∧ (recsG f m l).1.length ≤ l.length
  | [], m => ⟨Nat.le_refl _, Nat.le_refl _⟩
  | x :: l, m => by
    have h1 := recsG_sum f l m
    have h2 := recsG_sum f l (m + 1)
    unfold recsG
    simp only [sumLen, List.foldr_cons, List.length_cons] at *
    split
    · exact ⟨Nat.zero_le _, Nat.zero_le _⟩
    · split
      · dsimp only; exact ⟨by omega, by omega⟩
      · split
        · dsimp only; simp only [List.length_cons]; exact ⟨by omega, by omega⟩
        · exact ⟨Nat.zero_le _, Nat.zero_le _⟩
theorem recsOf_le (t : Str) (f : Int) : (recsOf t f).2 ≤ t.length := by
  unfold recsOf
  split
  · have h1 := (recsG_sum f (linesOf t) 0).1
    have h2 := linesG_sum t []
    simp only [List.length_nil] at h2
    unfold linesOf at *
    omega
  · exact Nat.zero_le _
def mostOf (d : DD) : Int := (d.slots.getD (bestD d).toNat o0.t).seq
def trimL (d : DD) : Nat := trimN (mostOf d) (linesOf d.jt)
def DD.trim (d : DD) : DD := if diskOk d = true then ⟨d.slots, d.jt.drop (trimL d), ((bro (d.js - ((trimL d : Nat) : Int)) (d.jt.drop (trimL d)).length : Nat) : Int)⟩ else d
theorem diskOk_best {d : DD} (h : diskOk d = true) : ∃ q : Nat, bestD d = ((q : Nat) : Int) ∧ q < d.slots.length := by
  unfold diskOk diskOkF at h
  simp only [Bool.and_eq_true] at h
  obtain ⟨h1, h2, _⟩ := h
  rw [← bestF_any] at h2
  have h3 := of_decide_eq_true h2
  have h4 := bestF_lo (fun i => d.slots.getD i o0.t) d.slots.length
  exact ⟨(bestD d).toNat, by unfold bestD at *; omega, by unfold bestD at *; omega⟩
theorem diskOk_jour {d : DD} (h : diskOk d = true) : jourOk d.jt d.js = true := by
  unfold diskOk diskOkF at h
  simp only [Bool.and_eq_true] at h
  exact h.2.2.2
end Go.Proofs.YtjncpgcccgdeiaaGreatDoor

set_option linter.unusedSimpArgs false
set_option linter.unusedVariables false
set_option linter.unnecessarySimpa false
namespace Go.Proofs.YtjncpgcccgdeiaaGreatDoor
open Go Go.RowKit
section
variable {P : Program} {ops : Array Oper} {Q : Exit → Act → World → Prop} {n : Nat} {w0 : World} {D : List Nat} {L : List Res} {e : Env} {ro : Option Nat} {ds : List Deferred}
def fenceR (ro : Option Nat) : Fence := { Fence.wide with round := ro }
def actD (n : Nat) (e : Env) (ds : List Deferred) : Act := { tmps := Array.ofFn (n := n) (fun i => e i.val), defers := ds }
theorem actD_eval (n : Nat) (e : Env) (ds : List Deferred) : (actD n e ds).eval = rd n e := act_eval' n e
theorem actD_put (n : Nat) (e : Env) (ds : List Deferred) (d : Option Nat) (v : Value) : (actD n e ds).put d v = actD n (updO e d v) ds := by
  have h := act_put n e d v
  cases d with
  | none => rfl
  | some d => simp only [Act.put, act, actD, updO, Act.mk.injEq, and_true] at *; exact h
def JLi (ro : Option Nat) (ds : List Deferred) (P : Program) (ops : Array Oper) (Q : Exit → Act → World → Prop) (n : Nat) (w0 : World) (D : List Nat) (L : List Res) (l : List Oper) (e : Env) : Prop :=
  ∀ w, St w0 D L w → wpListIn (fenceR ro) 0 P ops Q l (actD n e ds) w
def JCi (ro : Option Nat) (ds : List Deferred) (P : Program) (Q : Exit → Act → World → Prop) (n : Nat) (w0 : World) (D : List Nat) (L : List Res) (c : Code) (e : Env) : Prop :=
  ∀ w, St w0 D L w → c.wpIn (fenceR ro) 0 P Q (actD n e ds) w
def JQi (ds : List Deferred) (Q : Exit → Act → World → Prop) (x : Exit) (n : Nat) (w0 : World) (D : List Nat) (L : List Res) (e : Env) : Prop :=
  ∀ w, St w0 D L w → Q x (actD n e ds) w
def plainO (o : Oper) : Bool := o.guard.isNone && (match o.op with | .defer _ => false | _ => true)
theorem JO.into {o : Oper} {Φ : Value → List Res → Prop} (hp : plainO o = true) (h : JO P n w0 D L e o Φ) {w : World} (hw : St w0 D L w) {K : Act → World → Prop} {Q : Exit → Act → World → Prop}
    (hK : ∀ v L' w', Φ v L' → St w0 D L' w' → K (actD n (updO e o.dst v) ds) w') : o.wpIn (fenceR ro) 0 P (actD n e ds) w K Q := by
  have h1 := h w hw (fun a w' => a.defers = [] ∧ K { a with defers := ds } w') (fun _ _ _ => False) (fun v L' w' hΦ hw' => ⟨rfl, hK v L' w' hΦ hw'⟩)
  have hsem : o.semAt (fenceR ro).round (actD n e ds).eval = execOp (act n e).eval o := by
    rw [actD_eval, act_eval', Oper.semAt_eq _ _ _ (fun c hc => by simp [plainO, hc] at hp)]
  unfold Oper.wp at h1
  unfold Oper.wpIn
  rw [hsem]
  refine ⟨fun _ _ => trivial, ?_⟩
  have hput : ∀ (u : Value), ({ (act n e).put o.dst u with defers := ds } : Act) = (actD n e ds).put o.dst u := fun u => by rw [act_put, actD_put]; rfl
  generalize (execOp (act n e).eval o).run P w = r at h1 ⊢
  cases r with
  | halt h w' => cases h <;> exact absurd h1 (by simp [Oper.upon])
  | ok v w' =>
    cases v with
    | value v => have := h1.2; rw [hput] at this; exact this
    | skip => have := h1.2; rw [hput] at this; exact this
    | defer d => exact absurd h1.1 (by cases o.dst <;> simp [Act.put])
    | enter f args =>
      refine ⟨fun h => by simp [fenceR, Fence.wide] at h, ?_⟩
      have h2 : CallsIn Fence.wide 0 P f args w' _ := callsIn_wide.2 h1
      refine CallsIn.mono (F := fenceR ro) (n := 0) h2 fun en w'' hen => ?_
      cases en with
      | returned v => have := hen.2; rw [hput] at this; exact this
      | panicked ch => exact hen.elim
      | outgrown => obtain ⟨_, _, h⟩ := hen; exact h.elim
    | row rw_ args =>
      refine ⟨fun h => by simp [fenceR, Fence.wide] at h, ?_⟩
      intro c cs _
      obtain ⟨v, w'', hR, hs⟩ := h1 c cs
      have := hR.2
      rw [hput] at this
      exact ⟨v, w'', this, stepsIn_wide.2 hs⟩
    | _ => exact h1.elim
theorem JLi.nil (h : JQi ds Q .normal n w0 D L e) : JLi ro ds P ops Q n w0 D L [] e := fun w hw => h w hw
theorem plainO_guard {o : Oper} (h : plainO o = true) : o.guard = none := by
  simp only [plainO, Bool.and_eq_true, Option.isNone_iff_eq_none] at h
  exact h.1
theorem JLi.op {o : Oper} {rest : List Oper} {Φ : Value → List Res → Prop} (hg : plainO o = true) (ho : JO P n w0 D L e o Φ)
    (h : ∀ v L', Φ v L' → JLi ro ds P ops Q n w0 D L' rest (updO e o.dst v)) : JLi ro ds P ops Q n w0 D L (o :: rest) e := fun w hw =>
  wpListIn_plain (plainO_guard hg) fun K hK => JO.into hg ho hw fun v L' w' hΦ hw' => hK _ _ (h v L' hΦ w' hw')
theorem JLi.pure {o : Oper} {rest : List Oper} {v : Value} (hg : plainO o = true) (ho : PO P n e o v)
    (h : JLi ro ds P ops Q n w0 D L rest (updO e o.dst v)) : JLi ro ds P ops Q n w0 D L (o :: rest) e :=
  JLi.op hg (JO.pure fun _ => ho) fun _ _ ⟨hv, hL⟩ => by subst hv; subst hL; exact h
theorem JLi.ld {o : Oper} {rest : List Oper} {v : Value} (hg : plainO o = true) (ho : LO P n w0 D L e o v)
    (h : JLi ro ds P ops Q n w0 D L rest (updO e o.dst v)) : JLi ro ds P ops Q n w0 D L (o :: rest) e :=
  JLi.op hg (jP ho) fun _ _ ⟨hv, hL⟩ => by subst hv; subst hL; exact h
theorem JLi.facts {l : List Oper} (h : (∃ w, St w0 D L w) → JLi ro ds P ops Q n w0 D L l e) : JLi ro ds P ops Q n w0 D L l e := fun w hw => h ⟨w, hw⟩ w hw
theorem JCi.region {id : Nat} {l : List Oper} (h : JLi ro ds P l.toArray Q n w0 D L l e) : JCi ro ds P Q n w0 D L (.region id l.toArray false) e := fun w hw => wpIn_region_lit (h w hw)
theorem JCi.seq {x y : Code} (h : JCi ro ds P (Exit.then (y.wpIn (fenceR ro) 0 P Q) Q) n w0 D L x e) : JCi ro ds P Q n w0 D L (.seq x y) e := fun w hw => wpIn_seq (h w hw)
theorem JQi.seq {y : Code} (h : JCi ro ds P Q n w0 D L y e) : JQi ds (Exit.then (y.wpIn (fenceR ro) 0 P Q) Q) .normal n w0 D L e := fun w hw => h w hw
theorem JCi.skip (h : JQi ds Q .normal n w0 D L e) : JCi ro ds P Q n w0 D L .skip e := fun w hw => wpIn_skip (h w hw)
theorem JCi.ret (h : JQi ds Q .ret n w0 D L e) : JCi ro ds P Q n w0 D L .ret e := fun w hw => wpIn_ret (h w hw)
theorem JCi.block {id : Nat} {c : Code} (h : JCi ro ds P (Exit.inBlock id Q) n w0 D L c e) : JCi ro ds P Q n w0 D L (.block id c) e := fun w hw => wpIn_block (h w hw)
theorem JQi.blockN {id : Nat} (h : JQi ds Q .normal n w0 D L e) : JQi ds (Exit.inBlock id Q) .normal n w0 D L e := fun w hw => h w hw
theorem JCi.condT {c : Operand} {x y : Code} (hc : rd n e c = .bool true) (h : JCi ro ds P Q n w0 D L x e) : JCi ro ds P Q n w0 D L (.cond c x y) e := fun w hw => wpIn_cond_true (by rw [actD_eval]; exact hc) (h w hw)
theorem JCi.condF {c : Operand} {x y : Code} (hc : rd n e c = .bool false) (h : JCi ro ds P Q n w0 D L y e) : JCi ro ds P Q n w0 D L (.cond c x y) e := fun w hw => wpIn_cond_false (by rw [actD_eval]; exact hc) (h w hw)
/-- A region with a call of yield, in the plain walk. -/
theorem JC.regionI {id : Nat} {l : List Oper} (h : JLi none [] P l.toArray Q n w0 D L l e) : JC P Q n w0 D L (.region id l.toArray false) e := fun w hw => (wpIn_wide (n := 0)).1 (wpIn_region_lit (h w hw))
/-- One block turned for another. -/
theorem St.putObj {i b : Nat} {o : Obj} {w : World} (h : St w0 D L w) (hL : L[i]? = some (.blk b o)) (o' : Obj) : St w0 D (L.set i (.blk b o')) (w.putObj b o') := by
  have hb : w.heap[b]? = some o := h.get hL
  have hlt := (Array.getElem?_eq_some_iff.1 hb).1
  refine h.turn1 hL rfl rfl rfl (by simp) (fun k _ hk => ?_) (World.putObj_heap_same hlt) (by simp [Res.ids]) (fun i hi => .inl hi)
  simp only [Res.ids, List.mem_singleton] at hk
  exact World.putObj_heap_other hk
/-- What a round is told: it hands back 'go on' and leaves such resources. -/
def Round (P : Program) (l : Nat) (v : Value) (w0 : World) (D : List Nat) (L : List Res) (Ψ : List Res → Prop) : Prop :=
  ∀ w, St w0 D L w → ∃ fn tmps assign body, (Instr.yield l #[v]).run P w = .ok (.round l fn tmps assign body) w ∧
    RoundIn Fence.wide 0 P l fn tmps assign body w (fun en w' => en = .returned (.bool true) ∧ ∃ L', Ψ L' ∧ St w0 D L' w')
theorem JLi.yield {l : Nat} {v : Value} {x y : Operand} {ats : Array TypeId} {d : Option Tmp} {ty : TypeId} {pos : String} {aft : Array Edge} {rest : List Oper} {Ψ : List Res → Prop} (hx : rd n e x = .func (.yield l) #[] #[]) (hy : rd n e y = v)
    (hr : Round P l v w0 D L Ψ) (h : ∀ L', Ψ L' → JLi none ds P ops Q n w0 D L' rest (updO e d (.bool true))) :
    JLi none ds P ops Q n w0 D L (⟨d, .call ⟨.value x, #[y], ats⟩, ty, pos, aft, none⟩ :: rest) e := fun w hw => by
  refine wpListIn_plain rfl fun K hK => ?_
  obtain ⟨fn, tmps, assign, body, hyl, hR⟩ := hr w hw
  have hrun : (execOp (rd n e) ⟨d, .call ⟨.value x, #[y], ats⟩, ty, pos, aft, none⟩).run P w = .ok (.round l fn tmps assign body) w := by
    simp [execOp, resolve, Deferred.ofValue, hx, hy, invoke, hyl]
  unfold Oper.wpIn
  refine ⟨fun _ _ => trivial, ?_⟩
  rw [show (fenceR none).round = none from rfl, Oper.semAt_none, actD_eval, hrun]
  refine ⟨fun h => by simp [fenceR, Fence.wide] at h, RoundIn.mono (F := Fence.wide) (n := 0) hR fun en w' hen => ?_⟩
  obtain ⟨rfl, L', hΨ, hw'⟩ := hen
  show K _ _
  rw [actD_put]
  exact hK _ _ (h L' hΨ w' hw')
/-- The left side is set, the record is ready: the round begins; at its end the record is ready anew. -/
theorem JQi.begin {i l : Nat} {r : Loop} {R : Ending → World → Prop} {body : Code} {ff : Exit → Act → World → Prop} (hL : L[i]? = some (.blk l (.loop r))) (hs : r.state = .ready)
    (h : JCi (some l) [] P (roundPost P l R) n w0 D (L.set i (.blk l (.loop { r with state := .busy }))) body e) :
    JQi [] (Exit.then (fun a₁ w₁ => ∃ w₂, (Instr.beginRound l).run P w₁ = .ok () w₂ ∧ body.wpIn (Fence.wide.inRound l) 0 P (roundPost P l R) a₁ w₂) ff) .normal n w0 D L e := fun w hw =>
  ⟨_, run_beginRound (hw.get hL) hs, h _ (hw.putObj hL _)⟩
theorem loop_back {r : Loop} (hs : r.state = .ready) (hp : r.pending = none) : ({ ({ r with state := .busy } : Loop) with state := .ready, pending := none } : Loop) = r := by
  cases r
  simp_all
theorem JQi.endr {i l : Nat} {r : Loop} {Ψ : List Res → Prop} (hL : L[i]? = some (.blk l (.loop { r with state := .busy }))) (hs : r.state = .ready) (hp : r.pending = none) (h : Ψ (L.set i (.blk l (.loop r)))) :
    JQi [] (roundPost P l (fun en w' => en = .returned (.bool true) ∧ ∃ L', Ψ L' ∧ St w0 D L' w')) .normal n w0 D L e := fun w hw => by
  have h1 := hw.putObj hL (.loop r)
  have h2 := run_endRound (P := P) none (hw.get hL)
  refine ⟨_, _, h2, rfl, _, h, ?_⟩
  have e2 := loop_back hs hp
  simp only [Option.isNone_none, if_true]
  rw [e2]
  exact h1
theorem Round.of {i l t : Nat} {r : Loop} {v : Value} {Ψ : List Res → Prop} {assign body : Code} (hL : L[i]? = some (.blk l (.loop r))) (hp : r.params = #[t]) (ht : r.tmps = (act n e).tmps) (ha : r.assign = assign) (hb : r.body = body)
    (h : JCi (some l) [] P (Exit.then (fun a₁ w₁ => ∃ w₂, (Instr.beginRound l).run P w₁ = .ok () w₂ ∧ body.wpIn (Fence.wide.inRound l) 0 P (roundPost P l (fun en w' => en = .returned (.bool true) ∧ ∃ L', Ψ L' ∧ St w0 D L' w')) a₁ w₂) (fun _ _ _ => False)) n w0 D L assign (updO e (some t) v)) :
    Round P l v w0 D L Ψ := fun w hw => by
  refine ⟨r.fn, _, r.assign, r.body, run_yield (hw.get hL) (by rw [hp]; rfl), roundIn_of_wpIn trivial ?_⟩
  have e1 : (r.params.zip #[v]).foldl (fun tmps (t, a) => tmps.setIfInBounds t a) r.tmps = (actD n (updO e (some t) v) []).tmps := by
    have := congrArg Act.tmps (act_put n e (some t) v)
    rw [hp, ht]
    have h2 : (act n (updO e (some t) v)).tmps = (actD n (updO e (some t) v) []).tmps := rfl
    rw [← h2]
    simpa [Act.put] using this
  rw [e1, ha, hb]
  exact h w hw
theorem Round.swap {l : Nat} {v : Value} {B : List Res} {R : List Res → Prop} (h : Round P l v w0 D (L ++ B) (fun L' => ∃ L1, R L1 ∧ L' = L1 ++ B)) : Round P l v w0 D (B ++ L) (fun L' => ∃ L1, R L1 ∧ L' = B ++ L1) := fun w hw => by
  obtain ⟨fn, tmps, assign, body, hy, hR⟩ := h w (hw.perm List.perm_append_comm)
  refine ⟨fn, tmps, assign, body, hy, RoundIn.mono hR fun en w' hen => ?_⟩
  obtain ⟨rfl, L', ⟨L1, h1, rfl⟩, hw'⟩ := hen
  exact ⟨rfl, _, ⟨L1, h1, rfl⟩, hw'.perm List.perm_append_comm⟩
/-- Behind the statement, in what was begun as a plain walk. -/
theorem JQi.seqW {y : Code} (h : JCi none ds P Q n w0 D L y e) : JQi ds (Exit.then (y.wp P Q) Q) .normal n w0 D L e := fun w hw => (wpIn_wide (n := 0)).1 (h w hw)
theorem JQi.ofQ {x : Exit} (h : JQ Q x n w0 D L e) : JQi [] Q x n w0 D L e := h
theorem JQi.sub {x : Exit} {L' : List Res} (hL : L'.Sublist L) (h : JQi ds Q x n w0 D L' e) : JQi ds Q x n w0 D L e := fun w hw => h w (hw.sub hL)
/-- The statement. -/
def recOf (fn : FuncId) (tmps : Array Value) (ps : Array Tmp) (assign body : Code) (bd : Nat) : Loop := { state := .ready, pending := none, fn := fn, tmps := tmps, params := ps, assign := assign, body := body, defers := bd }
def markOf (bd : Nat) : Deferred := { target := .collected bd, args := #[] }
theorem rangeFuncC {g : Operand} {ps : Array Tmp} {assign body : Code} {gf : FuncId} {lb : List Value} (hg : rd n e g = .func (.func gf) #[] lb.toArray) (hc : ∀ args w, (callFunc gf args).run P w = .ok (.enter gf args) w)
    (h : ∀ (bd l : Nat) (rc : Loop), rc.state = .ready → rc.pending = none → rc.params = ps → rc.tmps = (act n e).tmps → rc.assign = assign → rc.body = body → ∃ (is : List Nat) (A F : List Res) (Pre : World → Prop) (Post : Value → List Res → Prop),
      pick is (.blk l (.loop rc) :: .blk bd (.deferred (some [])) :: L) = some (A, F) ∧ Ct P gf (.func (.yield l) #[] #[] :: lb) A Pre Post ∧
      (∀ w, St w0 D (.blk l (.loop rc) :: .blk bd (.deferred (some [])) :: L) w → Pre w) ∧
      ∀ v A', Post v A' → ∃ (j : Nat) (r : Loop), (A' ++ F)[j]? = some (.blk l (.loop r)) ∧ r.state = .ready ∧ r.pending = none ∧ JQi [markOf bd] Q .normal n w0 D ((A' ++ F).set j (.blk l (.loop { r with state := .exhausted }))) e) :
    JC P Q n w0 D L (.rangeFunc g ps assign body) e := fun w hw => (wpIn_wide (n := 0)).1 <| by
  refine wpIn_rangeFunc fun fn _ => ?_
  obtain ⟨is, A, F, Pre, Post, hp, hct, hpre, hpost⟩ := h w.heap.size (w.heap.size + 1) (recOf fn (act n e).tmps ps assign body w.heap.size) rfl rfl rfl rfl rfl rfl
  have s1 := hw.alloc (.deferred (some []))
  have s2 := s1.alloc (.loop (recOf fn (act n e).tmps ps assign body w.heap.size))
  rw [World.size_alloc] at s2
  have hperm := pick_perm is hp
  have hA : Has A _ := ((s2.perm hperm.symm).sub (List.sublist_append_left _ _)).toHas
  refine ⟨w.heap.size + 1, [markOf w.heap.size], (w.alloc (.deferred (some []))).alloc (.loop (recOf fn (act n e).tmps ps assign body w.heap.size)), { target := .fn (.func gf) lb.toArray, args := #[.func (.yield (w.heap.size + 1)) #[] #[]] }, (w.alloc (.deferred (some []))).alloc (.loop (recOf fn (act n e).tmps ps assign body w.heap.size)), gf,
    #[.func (.yield (w.heap.size + 1)) #[] #[]] ++ lb.toArray, (w.alloc (.deferred (some []))).alloc (.loop (recOf fn (act n e).tmps ps assign body w.heap.size)), ?_, ?_, fun _ _ => trivial, ?_, fun h => by simp [Fence.wide] at h, ?_⟩
  · exact run_enterLoop_outer _ _ _ _ _
  · have he : (act n e).eval g = .func (.func gf) #[] lb.toArray := by rw [act_eval]; exact hg
    simp only [resolve, rangeCall, Deferred.ofValue]
    rw [he]
    simp [go_sem]
  · simp [invoke, hc]
  · refine callsIn_wide.2 ?_
    have := hct _ hA (hpre _ s2)
    rw [show ((Value.func (.yield (w.heap.size + 1)) #[] #[] :: lb).toArray) = #[.func (.yield (w.heap.size + 1)) #[] #[]] ++ lb.toArray by simp] at this
    refine this.mono fun en w' hen => ?_
    obtain ⟨v, A', rfl, hq, hst⟩ := hen
    have s3 := s2.turn hperm hst.os hst.tape hst.output hst.size hst.keep hst.holds hst.nodup hst.fresh
    obtain ⟨j, r, hj, hs, hpd, hQ⟩ := hpost v A' hq
    refine ⟨none, _, (run_endLoop (s3.get hj) (by rw [hs]; simp)).trans (by rw [hpd]), hQ _ (s3.putObj hj _)⟩
/-- A function that holds one. -/
theorem Ct.introM {f : FuncId} {fn : Func} {c : Code} {args : List Value} {A : List Res} {Pre : World → Prop} {Post : Value → List Res → Prop}
    (hf : P.funcs[f]? = some fn) (hb : fn.body = some c) (hn : fn.ntmps = n) (hle : args.length ≤ n)
    (h : ∀ w0, Pre w0 → JC P (bodyPostM Fence.wide 0 P fn (Done w0 (idsOf A) Post)) n w0 (idsOf A) A c (argEnv args)) : Ct P f args A Pre Post := fun w hA hpre => by
  refine callsIn_wide.1 (callsIn_of_wp_marks (n := 0) hf hb trivial ((wpIn_wide (n := 0)).2 ?_))
  rw [hn, act_args n args hle]
  exact h w hpre w (St.start hA)
theorem JQi.retM {fn : Func} {Post : Value → List Res → Prop} {j bd : Nat} (hL : L[j]? = some (.blk bd (.deferred (some [])))) (h : JQ (bodyPost P fn (Done w0 D Post)) .ret n w0 D (L.set j (.blk bd (.deferred none))) e) :
    JQi [markOf bd] (bodyPostM Fence.wide 0 P fn (Done w0 D Post)) .ret n w0 D L e := fun w hw => by
  obtain ⟨_, v, hv, hd⟩ := h _ (hw.putObj hL (.deferred none))
  exact ⟨by simp, .inl ⟨bd, _, rfl, run_takeDeferred (hw.get hL), v, hv, hd⟩⟩
end
end Go.Proofs.YtjncpgcccgdeiaaGreatDoor

set_option linter.unusedSimpArgs false
set_option linter.unusedVariables false
set_option linter.unnecessarySimpa false
namespace Go.Proofs.YtjncpgcccgdeiaaGreatDoor
open Go Go.RowKit
attribute [local irreducible] JL JC JQ JO LO PO JA JX Ct JLi JCi JQi

set_option maxRecDepth 4000 in
set_option maxHeartbeats 1000000 in
theorem Y_iter (l : Nat) (J : List Str → List Res → Prop) (s : Str) (hs : s.length ≤ 100000000) (b1 b2 b3 : Nat) (L0 : List Res) (hround : ∀ (w0 : World) (D : List Nat) (B : List Res) (pre : List Str) (x : Str) (L : List Res), J pre L → Lib.hasSuffix x [10] = true → x.length ≤ 100000000 → pre.length ≤ 100000000 → Round Tryz.prog l (str x) w0 D (L ++ B) (fun L' => ∃ L1, J (pre ++ [x]) L1 ∧ L' = L1 ++ B)) (hlast : ∀ (w0 : World) (D : List Nat) (B : List Res) (pre : List Str) (x : Str) (L : List Res), J pre L → Lib.hasSuffix x [10] = false → x.length ≤ 100000000 → pre.length ≤ 100000000 → Round Tryz.prog l (str x) w0 D (L ++ B) (fun L' => ∃ L1, J pre L1 ∧ L' = L1 ++ B)) (h0 : J [] L0) :
    Ct Tryz.prog 162 [.func (.yield l) #[] #[], .pointer (some ⟨b1, 0, none⟩), .pointer (some ⟨b2, 0, none⟩), .pointer (some ⟨b3, 0, none⟩)] ([bk b1 9 [str [10]], bk b2 9 [str s], bk b3 3 [.int .i64 1]] ++ L0) (fun _ => True) (fun v A' => ∃ L1, J (linesOf s) L1 ∧ A' = L1) := by
  refine Ct.intro Tryz.func162 rfl Tryz.ntmps162 (lb rfl) fun w0 hpre => ?_
  refine jC <| jC <| jF <| jK (jZ 0 (v := str [10]) rfl rfl ki rfl) <| jA (show PO _ _ _ _ (nv 1) from kF (a := [10]) kg rfl) <| jA (kO rfl rfl) <| jE <| jB ?_
  have h_1 : ¬ (((1 : Nat) : Int) = 0) := (by decide)
  refine jR (cB (dF h_1)) <| jT <| jB <| jC <| jf <| kD (fun k_ e_ L_ => ∃ pre : List Str, ∃ s_ : Str, ∃ LJ : List Res, (pre ++ linesOf s_ = linesOf s) ∧ (s_.length ≤ s.length) ∧ (J pre LJ) ∧ e_ 0 = .func (.yield l) #[] #[] ∧ e_ 1 = .pointer (some ⟨b1, 0, none⟩) ∧ e_ 2 = .pointer (some ⟨b2, 0, none⟩) ∧ e_ 3 = .pointer (some ⟨b3, 0, none⟩) ∧ L_ = ([bk b1 9 [str [10]], bk b2 9 [str s_], bk b3 3 [iv 1]] ++ LJ) ∧ k_ = s_.length) _ ⟨[], s, L0, rfl, by omega, h0, rfl, rfl, rfl, rfl, rfl, rfl⟩ ?_
  rintro _ e_2 _ ⟨pre, s_, LJ, hR, hl_, hJ, he_3, he_4, he_5, he_6, rfl, rfl⟩
  refine jf <| jC <| jF <| jK (jZ 1 (v := str s_) rfl he_5 ki rfl) <| jK (jZ 0 (v := str [10]) rfl he_4 ki rfl) ?_
  refine jH rfl (jI [] Tryz.call164 rfl (C_ix s_ 10) rfl (fun _ _ => trivial)) ?_
  rintro _ _ ⟨_, ⟨rfl, (⟨rfl, hn_11⟩ | ⟨i_7, rfl, hi_8, hf_9, hc_10⟩)⟩, rfl⟩
  · refine jA (jG (v := iv (-1)) rfl) <| jE <| jB <| jC <| jC <| jF <| jA (jD (v := iv (-1)) rfl) <| jA (jl rfl rfl) <| jE <| jB ?_
    have h_12 : (-1) < 0 := (by decide)
    refine jW (cB (dT h_12)) <| jx <| jb <| JQ.blockO rfl <| jb <| jy <| jB <| JC.regionI <| JLi.pure rfl (jD (v := .func (.yield l) #[] #[]) he_3) <| JLi.ld rfl (jZ 1 (v := str s_) rfl he_5 ki rfl) ?_
    refine JLi.yield (Ψ := fun L_ => ∃ L1, J (pre) L1 ∧ L_ = [bk b1 9 [str [10]], bk b2 9 [str s_], bk b3 3 [iv 1]] ++ L1) rfl rfl (Round.swap (hlast _ _ _ pre s_ LJ hJ (suffix_none hn_11) (by omega) (by have h_ := congrArg List.length hR; have h2_ := linesG_len s []; simp only [List.length_append, linesOf] at *; omega))) ?_
    rintro _ ⟨LJ_13, hJ_14, rfl⟩
    refine JLi.nil <| JQi.ofQ <| Done.none (A' := LJ_13) (.inr rfl) rfl (List.sublist_append_right _ _) ?_
    exact ⟨LJ_13, by rw [lines_no hn_11, List.append_nil] at hR; rw [← hR]; exact hJ_14, rfl⟩
  refine jA (jG (v := nv i_7) rfl) <| jE <| jB <| jC <| jC <| jF <| jA (jD (v := nv i_7) rfl) <| jA (jl rfl rfl) <| jE <| jB ?_
  have h_15 : ¬ (((i_7 : Nat) : Int) < 0) := (by omega)
  refine jR (cB (dF h_15)) <| jT <| jB <| jC <| jF <| jK (jZ 1 (v := str s_) rfl he_5 ki rfl) <| jA (jD (v := nv i_7) rfl) <| jK (jZ 2 (v := iv 1) rfl he_6 kq rfl) <| jA (jc (c := ((i_7 + 1 : Nat) : Int)) rfl rfl (wr (by omega))) <| jA (PO.sliceSh (j := (i_7 + 1)) kg rfl rfl (by omega)) ?_
  refine jA (jG (v := str (s_.take (i_7 + 1))) rfl) <| jE <| jB <| jC <| jC <| JC.regionI <| JLi.pure rfl (jD (v := .func (.yield l) #[] #[]) he_3) <| JLi.pure rfl (jD (v := str (s_.take (i_7 + 1))) rfl) ?_
  refine JLi.yield (Ψ := fun L_ => ∃ L1, J (pre ++ [s_.take (i_7 + 1)]) L1 ∧ L_ = [bk b1 9 [str [10]], bk b2 9 [str s_], bk b3 3 [iv 1]] ++ L1) rfl rfl (Round.swap (hround _ _ _ pre (s_.take (i_7 + 1)) LJ hJ (suffix_line hi_8 hc_10) (by rw [List.length_take]; omega) (by have h_ := congrArg List.length hR; have h2_ := linesG_len s []; simp only [List.length_append, linesOf] at *; omega))) ?_
  rintro _ ⟨LJ_16, hJ_17, rfl⟩
  refine JLi.pure rfl (jp rfl) <| JLi.nil <| JQi.ofQ <| jB <| jR (cB rfl) <| jT <| jB <| jF <| jK (jZ 1 (v := str s_) rfl he_5 ki rfl) <| jA (jD (v := nv i_7) rfl) ?_
  refine jK (jZ 0 (v := str [10]) rfl he_4 ki rfl) <| jA (show PO _ _ _ _ (nv 1) from kF (a := [10]) kg rfl) <| jA (jc (c := ((i_7 + 1 : Nat) : Int)) rfl rfl (wr (by omega))) <| jA (PO.sliceSl (i := (i_7 + 1)) kg rfl rfl (by omega)) ?_
  refine jH rfl (ja 1 (vs := [str (s_.drop (i_7 + 1))]) (cs' := [str (s_.drop (i_7 + 1))]) rfl he_5 rfl rfl kt rfl rfl (lb rfl) rfl) ?_
  rintro _ _ rfl
  refine jE <| jm ?_
  have hdl_ : (s_.drop (i_7 + 1)).length = s_.length - (i_7 + 1) := List.length_drop
  refine jq ((s_.drop (i_7 + 1)).length) (by omega) ⟨(pre ++ [s_.take (i_7 + 1)]), s_.drop (i_7 + 1), LJ_16, (by rw [List.append_assoc]; rw [lines_first hi_8 hf_9 hc_10] at hR; exact hR), (by rw [List.length_drop]; omega), hJ_17, he_3, he_4, he_5, he_6, rfl, rfl⟩

theorem Y_sseq (s : Str) :
    Ct Tryz.prog 142 [str s, str [10], .int .i64 1] [] (fun _ => True) (fun v A' => ∃ b1 b2 b3 : Nat, v = .func (.func 162) #[] #[.pointer (some ⟨b1, 0, none⟩), .pointer (some ⟨b2, 0, none⟩), .pointer (some ⟨b3, 0, none⟩)] ∧ A' = [bk b1 9 [str [10]], bk b2 9 [str s], bk b3 3 [.int .i64 1]]) := by
  refine Ct.intro Tryz.func142 rfl Tryz.ntmps142 (lb rfl) fun w0 hpre => ?_
  refine jC <| jF ?_
  refine jH rfl (kG (cs := [str s]) rfl rfl) ?_
  rintro _ _ ⟨b_1, rfl, rfl⟩
  refine jH rfl (kG (cs := [str [10]]) rfl rfl) ?_
  rintro _ _ ⟨b_2, rfl, rfl⟩
  refine jH rfl (kG (cs := [iv 1]) rfl rfl) ?_
  rintro _ _ ⟨b_3, rfl, rfl⟩
  refine jA (jG (v := .nilFunc) rfl) <| jE <| jB <| jC <| jF <| jA (PO.makeFunc (fv := []) (cv := [.pointer (some ⟨b_2, 0, none⟩), .pointer (some ⟨b_1, 0, none⟩), .pointer (some ⟨b_3, 0, none⟩)]) rfl rfl) <| jA (jG (v := .func (.func 162) #[] #[.pointer (some ⟨b_2, 0, none⟩), .pointer (some ⟨b_1, 0, none⟩), .pointer (some ⟨b_3, 0, none⟩)]) rfl) <| jE <| jB <| jN ?_
  refine kM (pick_perm [1, 1, 0] (A := [bk b_2 9 [str [10]], bk b_1 9 [str s], bk b_3 3 [iv 1]]) (F := []) rfl).symm <| jV (.inl rfl) rfl (jJ (v := .func (.func 162) #[] #[.pointer (some ⟨b_2, 0, none⟩), .pointer (some ⟨b_1, 0, none⟩), .pointer (some ⟨b_3, 0, none⟩)]) rfl) (tS 3 _) ?_
  exact ⟨b_2, b_1, b_3, rfl, rfl⟩

theorem Y_saft (s : Str) :
    Ct Tryz.prog 110 [str s, str [10]] [] (fun _ => True) (fun v A' => ∃ b1 b2 b3 : Nat, v = .func (.func 162) #[] #[.pointer (some ⟨b1, 0, none⟩), .pointer (some ⟨b2, 0, none⟩), .pointer (some ⟨b3, 0, none⟩)] ∧ A' = [bk b1 9 [str [10]], bk b2 9 [str s], bk b3 3 [.int .i64 1]]) := by
  refine Ct.intro Tryz.func110 rfl Tryz.ntmps110 (lb rfl) fun w0 hpre => ?_
  refine jC <| jF <| jA (jG (v := .nilFunc) rfl) <| jE <| jB <| jC <| jF <| jA (jD (v := str s) rfl) <| jA (jD (v := str [10]) rfl) <| jA (jD (v := str [10]) rfl) ?_
  refine jA (show PO _ _ _ _ (nv 1) from kF (a := [10]) kg rfl) ?_
  refine jH rfl (jI [] Tryz.call142 rfl (Y_sseq s) rfl (fun _ _ => trivial)) ?_
  rintro _ _ ⟨_, ⟨b_1, b_2, b_3, rfl, rfl⟩, rfl⟩
  refine jA (jG (v := .func (.func 162) #[] #[.pointer (some ⟨b_1, 0, none⟩), .pointer (some ⟨b_2, 0, none⟩), .pointer (some ⟨b_3, 0, none⟩)]) rfl) <| jE <| jB <| jN <| jV (.inl rfl) rfl (jJ (v := .func (.func 162) #[] #[.pointer (some ⟨b_1, 0, none⟩), .pointer (some ⟨b_2, 0, none⟩), .pointer (some ⟨b_3, 0, none⟩)]) rfl) (List.Sublist.refl _) ?_
  exact ⟨b_1, b_2, b_3, rfl, rfl⟩

set_option maxRecDepth 4000 in
set_option maxHeartbeats 1000000 in
theorem Y_iLines (s : Str) (hs : s.length ≤ 100000000) :
    Ct Tryz.prog 63 [str s] [] (fun _ => True) (fun v A' => ∃ a c, v = .slice a (linesOf s).length c ∧ A' = [.row (.slice a (linesOf s).length c) 9 1 (linesOf s).length ((linesOf s).map str)]) := by
  refine Ct.introM Tryz.func63 rfl Tryz.ntmps63 (lb rfl) fun w0 hpre => ?_
  refine jC <| jF <| jA (jG (v := .slice none 0 0) rfl) <| jE <| jB <| jC <| jF ?_
  refine jH rfl (jo (z := .slice none 0 0) (cs := [.slice none 0 0]) Tryz.zeroValue71 rfl) ?_
  rintro _ _ ⟨b_1, rfl, rfl⟩
  refine jE <| jB <| jC <| jC <| jF <| jA (jD (v := str s) rfl) ?_
  refine jH rfl (jI [] Tryz.call110 rfl (Y_saft s) rfl (fun _ _ => trivial)) ?_
  rintro _ _ ⟨_, ⟨b_2, b_3, b_4, rfl, rfl⟩, rfl⟩
  refine jE <| jB <| jf <| JC.nilRow 9 1 <| rangeFuncC (gf := 162) (lb := [.pointer (some ⟨b_2, 0, none⟩), .pointer (some ⟨b_3, 0, none⟩), .pointer (some ⟨b_4, 0, none⟩)]) rfl Tryz.call162 ?_
  intro bd_ l_ rc hst hpd hps htm has hbd
  refine ⟨[3, 3, 3, 0, 2, 1], _, _, _, _, rfl, Y_iter l_ (fun pre L => ∃ a c, L = [.blk l_ (.loop rc), bk b_1 71 [.slice a pre.length c], .row (.slice a pre.length c) 9 1 pre.length (pre.map str)]) s hs b_2 b_3 b_4 _ ?_ ?_ ⟨none, 0, rfl⟩, fun _ _ => trivial, ?_⟩
  · rintro w0 D B pre x _ ⟨a_, c_, rfl⟩ hx hxl hpl
    refine Round.of (i := 0) rfl hps htm has hbd <| JCi.region <| JLi.pure rfl (jG (v := str x) rfl) <| JLi.nil <| JQi.begin (i := 0) rfl hst <| JCi.block <| JCi.seq <| JCi.region <| JLi.pure rfl (jD (v := str x) rfl) <| JLi.op rfl (jI [] Tryz.call111 rfl (C_sfx x [10] (by omega)) rfl (fun _ _ => trivial)) ?_
    rintro _ _ ⟨_, ⟨rfl, rfl⟩, rfl⟩
    refine JLi.nil <| JQi.seq <| JCi.condT (cB hx) <| JCi.region <| JLi.ld rfl (jZ 1 (v := .slice a_ pre.length c_) rfl rfl Tryz.isAgg71 rfl) <| JLi.pure rfl (jD (v := str x) rfl) <| JLi.op rfl (kH (ps := [(0, str x)]) (cur := #[str x]) ku kt Tryz.zeroValue9 rfl (by kernel_rfl) (by decide) (by decide)) ?_
    rintro _ _ ⟨a_5, rfl, rfl⟩
    refine JLi.op rfl (kU 3 (q := 1) (news := ([x] : List Str).map str) (n' := (pre ++ ([x] : List Str)).length) (cs' := (pre ++ ([x] : List Str)).map str) rfl ku ku Tryz.typeInfo9 rfl (by' := 16) rfl rfl rfl rfl rfl (fun w hw => Src.sees (hw.see (i := 0) rfl) (oneS _)) (by (try simp only [LE]); omega) (by (try simp only [LE]); omega) (by simp only [List.length_append, List.length_take, List.length_drop, List.length_cons, List.length_nil] <;> first | rfl | omega) (by simp only [List.map_append])) ?_
    rintro _ _ ⟨a_6, c_7, rfl, rfl⟩
    refine JLi.op rfl (ja 2 (vs := [.slice a_6 ((pre ++ ([x] : List Str)).length) c_7]) (cs' := [.slice a_6 ((pre ++ ([x] : List Str)).length) c_7]) rfl rfl rfl rfl Tryz.sizeOf71 rfl rfl (lb rfl) rfl) ?_
    rintro _ _ rfl
    refine JLi.nil <| JQi.blockN <| JQi.sub (L' := ([.blk l_ (.loop { rc with state := .busy }), bk b_1 71 [.slice a_6 ((pre ++ ([x] : List Str)).length) c_7], rS a_6 c_7 (pre ++ ([x] : List Str))] ++ B)) (.cons _ (List.Sublist.refl _)) ?_
    exact JQi.endr (i := 0) rfl hst hpd ⟨_, ⟨a_6, c_7, rfl⟩, rfl⟩
  · rintro w0 D B pre x _ ⟨a_, c_, rfl⟩ hx hxl hpl
    refine Round.of (i := 0) rfl hps htm has hbd <| JCi.region <| JLi.pure rfl (jG (v := str x) rfl) <| JLi.nil <| JQi.begin (i := 0) rfl hst <| JCi.block <| JCi.seq <| JCi.region <| JLi.pure rfl (jD (v := str x) rfl) <| JLi.op rfl (jI [] Tryz.call111 rfl (C_sfx x [10] (by omega)) rfl (fun _ _ => trivial)) ?_
    rintro _ _ ⟨_, ⟨rfl, rfl⟩, rfl⟩
    refine JLi.nil <| JQi.seq <| JCi.condF (cB hx) <| JCi.skip <| JQi.blockN ?_
    exact JQi.endr (i := 0) rfl hst hpd ⟨_, ⟨a_, c_, rfl⟩, rfl⟩
  rintro _ _ ⟨_, ⟨a_, c_, rfl⟩, rfl⟩
  refine ⟨0, rc, rfl, hst, hpd, ?_⟩
  refine JQi.blockN <| JQi.seqW <| JCi.seq <| JCi.region <| JLi.ld rfl (jZ 1 (v := .slice a_ ((linesOf s).length) c_) rfl rfl Tryz.isAgg71 rfl) <| JLi.pure rfl (jG (v := .slice a_ ((linesOf s).length) c_) rfl) <| JLi.nil <| JQi.seq <| JCi.ret <| JQi.retM (j := 3) rfl ?_
  refine jV (A' := [rS a_ c_ (linesOf s)]) (.inl rfl) rfl (jJ (v := .slice a_ ((linesOf s).length) c_) rfl) (.cons _ (.cons _ (.cons_cons _ (.cons _ .slnil)))) ?_
  exact ⟨a_, c_, rfl, rfl⟩

end Go.Proofs.YtjncpgcccgdeiaaGreatDoor

set_option linter.unusedSimpArgs false
set_option linter.unusedVariables false
set_option linter.unnecessarySimpa false
namespace Go.Proofs.YtjncpgcccgdeiaaGreatDoor
open Go Go.RowKit
structure RT where
  cells : List Cell
structure RA where
  a0 : Option Addr
  c0 : Nat
structure RX where
  x : RA
  t : RT
def encR (p : RX) : List Value := [.slice p.x.a0 p.t.cells.length p.x.c0]
def rdsR (p : RX) : List RD := [⟨.slice p.x.a0 p.t.cells.length p.x.c0, 48, 2, p.t.cells.length, p.t.cells.flatMap encC⟩]
theorem encR_len (p : RX) : (encR p).length = 1 := rfl
def r0 : RX := ⟨⟨none, 0⟩, ⟨[]⟩⟩
theorem oneR (l : List RX) : ∀ u ∈ l.flatMap encR, u.oneCell' = true := flat_one (fun c u hu => by
  simp only [encR, List.mem_cons, List.not_mem_nil, or_false] at hu
  rcases hu with rfl <;> rfl) l
theorem seesR {w : World} {p : RX} (h : SeesA w (rdsR p)) : Sees w (.slice p.x.a0 p.t.cells.length p.x.c0) 2 p.t.cells.length (p.t.cells.flatMap encC) := h.head
def rdsRS (a : Option Addr) (c : Nat) (l : List RX) : List RD := ⟨.slice a l.length c, 49, 1, l.length, l.flatMap encR⟩ :: l.flatMap rdsR
def cellsR (p : RX) : List Cell := p.t.cells
section
variable {f : Int} {m n i : Nat} {L : List Str} {A : List (List Cell)} {R : List (List Cell) × Nat}
theorem recsG_step (h : i < L.length) : recsG f m (L.drop i) =
    if (readI (L.getD i [])).2.2 = false then ([], 0)
    else if m = 0 ∧ (readI (L.getD i [])).1 < f then ((recsG f m (L.drop (i + 1))).1, (L.getD i []).length + (recsG f m (L.drop (i + 1))).2)
    else if (readI (L.getD i [])).1 = f + ((m : Nat) : Int) then ((readI (L.getD i [])).2.1 :: (recsG f (m + 1) (L.drop (i + 1))).1, (L.getD i []).length + (recsG f (m + 1) (L.drop (i + 1))).2)
    else ([], 0) := by
  rw [drop_at (getD_some (d := []) h), recsG]
theorem recs_skip (h : i < L.length) (ho : (readI (L.getD i [])).2.2 = true) (hc : m = 0 ∧ (readI (L.getD i [])).1 < f) (hR : R = (A ++ (recsG f m (L.drop i)).1, n + (recsG f m (L.drop i)).2)) :
    R = (A ++ (recsG f m (L.drop (i + 1))).1, (n + (L.getD i []).length) + (recsG f m (L.drop (i + 1))).2) := by
  rw [recsG_step h, if_neg (by rw [ho]; decide), if_pos hc] at hR
  rw [hR, Nat.add_assoc]
theorem recs_take (h : i < L.length) (ho : (readI (L.getD i [])).2.2 = true) (hc : (readI (L.getD i [])).1 = f + ((m : Nat) : Int)) (hR : R = (A ++ (recsG f m (L.drop i)).1, n + (recsG f m (L.drop i)).2)) :
    R = ((A ++ [(readI (L.getD i [])).2.1]) ++ (recsG f (m + 1) (L.drop (i + 1))).1, (n + (L.getD i []).length) + (recsG f (m + 1) (L.drop (i + 1))).2) := by
  rw [recsG_step h, if_neg (by rw [ho]; decide), if_neg (by omega), if_pos hc] at hR
  rw [hR, Nat.add_assoc, List.append_assoc]
  rfl
theorem recs_bad (h : i < L.length) (ho : (readI (L.getD i [])).2.2 = false) (hR : R = (A ++ (recsG f m (L.drop i)).1, n + (recsG f m (L.drop i)).2)) : R = (A, n) := by
  rw [recsG_step h, if_pos ho] at hR
  rw [hR, List.append_nil]
  rfl
theorem recs_stop (h : i < L.length) (ho : (readI (L.getD i [])).2.2 = true) (hc : ¬ (m = 0 ∧ (readI (L.getD i [])).1 < f)) (he : ¬ (readI (L.getD i [])).1 = f + ((m : Nat) : Int)) (hR : R = (A ++ (recsG f m (L.drop i)).1, n + (recsG f m (L.drop i)).2)) : R = (A, n) := by
  rw [recsG_step h, if_neg (by rw [ho]; decide), if_neg hc, if_neg he] at hR
  rw [hR, List.append_nil]
  rfl
theorem recs_end (h : L.length ≤ i) (hR : R = (A ++ (recsG f m (L.drop i)).1, n + (recsG f m (L.drop i)).2)) : R = (A, n) := by
  rw [List.drop_of_length_le h, recsG] at hR
  rw [hR, List.append_nil]
  rfl
theorem sumLen_step (h : i < L.length) : sumLen (L.drop i) = (L.getD i []).length + sumLen (L.drop (i + 1)) := by
  rw [drop_at (getD_some (d := []) h)]
  rfl
end
end Go.Proofs.YtjncpgcccgdeiaaGreatDoor

set_option linter.unusedSimpArgs false
set_option linter.unusedVariables false
set_option linter.unnecessarySimpa false
namespace Go.Proofs.YtjncpgcccgdeiaaGreatDoor
open Go Go.RowKit
attribute [local irreducible] JL JC JQ JO LO PO JA JX Ct

set_option maxRecDepth 4000 in
set_option maxHeartbeats 1000000 in
theorem Y_iRecs (t : Str) (f : Int) (ht : t.length ≤ 100000000) :
    Ct Tryz.prog 70 [str t, .int .i64 f] [] (fun w => HexOk w) (fun v A' => ∃ a c y, y.map cellsR = (recsOf t f).1 ∧ v = .tuple #[.slice a y.length c, .int .i64 (((recsOf t f).2 : Nat) : Int)] ∧ A' = [.rows (rdsRS a c y)]) := by
  refine Ct.introL Tryz.func70 rfl Tryz.ntmps70 (lb rfl) fun w0 hpre hlow => ?_
  refine jC <| jF <| jA (jG (v := .slice none 0 0) rfl) <| jA (jG (v := iv 0) rfl) <| jE <| jB <| jC <| jC <| jF <| jA (jD (v := iv f) rfl) ?_
  refine jH rfl (jI [] Tryz.call76 rfl (Y_within f 1 100000) rfl (fun _ _ => trivial)) ?_
  rintro _ _ ⟨_, ⟨rfl, rfl⟩, rfl⟩
  refine jA (jp rfl) <| jE <| jB ?_
  rcases Bool.eq_false_or_eq_true (within 1 f 100000) with h_1 | h_1
  · refine jR (cB (cN h_1)) <| jT <| jB <| jC ?_
    have hwi := h_1
    have hwj := (show 1 ≤ f ∧ f ≤ 100000 by simpa only [within, Bool.and_eq_true, decide_eq_true_eq] using hwi)
    have hll : (linesOf t).length ≤ t.length := linesG_len t []
    refine jF <| jA (jG (v := .slice none 0 0) rfl) <| jE <| jB <| jC <| jF <| jA (jG (v := iv 0) rfl) <| jE <| jB <| jC ?_
    refine jC <| jF <| jA (jD (v := str t) rfl) ?_
    refine jH rfl (jI [] Tryz.call63 rfl (Y_iLines t (by omega)) rfl (fun _ _ => trivial)) ?_
    rintro _ _ ⟨_, ⟨a_2, c_3, rfl, rfl⟩, rfl⟩
    refine jA (jr ku rfl) <| jA (jD (v := iv 0) rfl) <| jE <| jB <| jf <| JC.nilRow 49 1 <| kT (L' := [Res.rows (([] : List RX).flatMap rdsR), Res.row (.slice none 0 0) 49 1 0 (([] : List RX).flatMap encR), rS a_2 c_3 (linesOf t)]) (fun w hw => hw.nilR (α := RX) (f := rdsR) [0] (B := [Res.row (.slice none 0 0) 49 1 0 (([] : List RX).flatMap encR)]) (F := [rS a_2 c_3 (linesOf t)]) rfl) <| kD (fun k_ e_ L_ => ∃ i : Nat, ∃ n : Nat, ∃ ya : Option Addr, ∃ yc : Nat, ∃ y : List RX, (i ≤ (linesOf t).length) ∧ (y.length ≤ i) ∧ (n + sumLen ((linesOf t).drop i) ≤ t.length) ∧ (recsOf t f = (y.map cellsR ++ (recsG f y.length ((linesOf t).drop i)).1, n + (recsG f y.length ((linesOf t).drop i)).2)) ∧ e_ 1 = iv f ∧ e_ 4 = .slice none 0 0 ∧ e_ 5 = iv 0 ∧ e_ 6 = .slice ya y.length yc ∧ e_ 7 = nv n ∧ e_ 18 = .slice a_2 ((linesOf t).length) c_3 ∧ e_ 19 = iv (((linesOf t).length : Nat) : Int) ∧ e_ 20 = nv i ∧ L_ = [Res.rows (y.flatMap rdsR), Res.row (.slice ya y.length yc) 49 1 y.length (y.flatMap encR), rS a_2 c_3 (linesOf t)] ∧ k_ = (linesOf t).length - i) _ ⟨0, 0, none, 0, [], by omega, by simp, (by have h_ := linesG_sum t []; simp only [List.length_nil, Nat.zero_add, List.drop_zero] at *; exact h_), (by rw [recsOf, if_pos hwi]; simp), rfl, rfl, rfl, rfl, rfl, rfl, rfl, rfl, rfl, rfl⟩ ?_
    rintro _ e_4 _ ⟨i, n, ya, yc, y, hi, hyl, hn, hR, he_5, he_6, he_7, he_8, he_9, he_10, he_11, he_12, rfl, rfl⟩
    refine jC <| jF <| jA (jl he_12 he_11) <| jE <| jB <| jC ?_
    by_cases h_13 : ((i : Nat) : Int) < (((linesOf t).length : Nat) : Int)
    · have hlt : i < (linesOf t).length := by omega
      have hml : ((linesOf t).getD i []).length ≤ 0 + t.length := linesG_mem t [] _ (getD_mem (d := []) hlt)
      have hsl : sumLen ((linesOf t).drop i) = ((linesOf t).getD i []).length + sumLen ((linesOf t).drop (i + 1)) := sumLen_step hlt
      refine jW (cB (dT h_13)) <| jT <| jB <| jC <| jf <| jC <| jF ?_
      refine kN fun hst => ?_
      obtain ⟨hr_14, hr_14b, -⟩ := row_some 2 rfl (by omega) hst
      refine jA (jk (i := i) ku kt hr_14 hr_14b he_10 he_12 (by omega)) <| jK (ka 2 (v := str ((linesOf t).getD i [])) rfl rfl ki (atS (by omega))) <| jA (jG (v := str ((linesOf t).getD i [])) rfl) <| jE <| jB <| jC <| jF <| jA (jD (v := str ((linesOf t).getD i [])) rfl) ?_
      refine jH rfl (jI [] Tryz.call64 rfl (Y_iRead ((linesOf t).getD i []) (by omega)) rfl (fun w hw => hw.hex hlow hpre)) ?_
      rintro _ _ ⟨_, ⟨a_15, c_16, rfl, rfl⟩, rfl⟩
      refine jA (jD (v := .tuple #[iv ((readI ((linesOf t).getD i [])).1), .slice a_15 ((readI ((linesOf t).getD i [])).2.1.length) c_16, .bool ((readI ((linesOf t).getD i [])).2.2)]) rfl) <| jA (je (v := iv ((readI ((linesOf t).getD i [])).1)) rfl rfl) <| jA (je (v := .slice a_15 ((readI ((linesOf t).getD i [])).2.1.length) c_16) rfl rfl) <| jA (je (v := .bool ((readI ((linesOf t).getD i [])).2.2)) rfl rfl) <| jA (jG (v := iv ((readI ((linesOf t).getD i [])).1)) rfl) <| jA (jG (v := .slice a_15 ((readI ((linesOf t).getD i [])).2.1.length) c_16) rfl) <| jA (jG (v := .bool ((readI ((linesOf t).getD i [])).2.2)) rfl) <| jE <| jB <| jC ?_
      refine jF <| jA (jD (v := .slice ya y.length yc) he_8) <| jA (jr kx rfl) <| jA (kO rfl rfl) <| jA (jD (v := .bool (decide (((y.length : Nat) : Int) = 0))) rfl) ?_
      by_cases h_17 : ((y.length : Nat) : Int) = 0
      · refine jM rfl rfl rfl (cB (dT h_17)) (jP (jU (jD (v := iv ((readI ((linesOf t).getD i [])).1)) rfl))) ?_
        rintro _ _ ⟨rfl, rfl⟩
        refine jM rfl rfl rfl (cB (dT h_17)) (jP (jU (jD (v := iv f) he_5))) ?_
        rintro _ _ ⟨rfl, rfl⟩
        refine jM rfl rfl rfl (cB (dT h_17)) (jP (jU (jl rfl rfl))) ?_
        rintro _ _ ⟨rfl, rfl⟩
        refine jA (jh (v := .bool (decide (((readI ((linesOf t).getD i [])).1) < f))) (cB (dT h_17)) rfl) <| jA (jG (v := .bool (decide (((readI ((linesOf t).getD i [])).1) < f))) rfl) <| jE <| jB <| jC <| jC <| jF <| jA (jD (v := .bool ((readI ((linesOf t).getD i [])).2.2)) rfl) <| jA (jp rfl) <| jA (jD (v := .bool (!((readI ((linesOf t).getD i [])).2.2))) rfl) ?_
        rcases Bool.eq_false_or_eq_true ((readI ((linesOf t).getD i [])).2.2) with h_18 | h_18
        · refine jM rfl rfl rfl (cB (cN h_18)) (jP (jU (jD (v := .bool (decide (((readI ((linesOf t).getD i [])).1) < f))) rfl))) ?_
          rintro _ _ ⟨rfl, rfl⟩
          refine jM rfl rfl rfl (cB (cN h_18)) (jP (jU (jp rfl))) ?_
          rintro _ _ ⟨rfl, rfl⟩
          refine jM rfl rfl rfl (cB (cN h_18)) (jP (jU (jD (v := .bool (!(decide (((readI ((linesOf t).getD i [])).1) < f)))) rfl))) ?_
          rintro _ _ ⟨rfl, rfl⟩
          by_cases h_19 : ((readI ((linesOf t).getD i [])).1) < f
          · refine jS (b := false) rfl rfl rfl (cB (cN (dT h_19))) <| jS (b := false) rfl rfl rfl (cB (cN (dT h_19))) <| jS (b := false) rfl rfl rfl (cB (cN (dT h_19))) <| jS (b := false) rfl rfl rfl (cB (cN (dT h_19))) <| jS (b := false) rfl rfl rfl (cB (cN (dT h_19))) <| jS (b := false) rfl rfl rfl (cB (cN (dT h_19))) <| jM rfl rfl rfl (cB (cN h_18)) (jP (jU (ji (v := .bool false) (cB (cN (dT h_19))) rfl))) ?_
            rintro _ _ ⟨rfl, rfl⟩
            refine jA (ji (v := .bool false) (cB (cN h_18)) rfl) <| jE <| jB <| jR (cB rfl) <| jT <| jB <| jC <| jF <| jA (jD (v := nv n) he_9) <| jA (jD (v := str ((linesOf t).getD i [])) rfl) ?_
            refine jA (kF kg rfl) <| jA (jc (c := ((n + (((linesOf t).getD i []).length) : Nat) : Int)) rfl rfl (wr (by omega))) <| jA (jG (v := iv ((n + (((linesOf t).getD i []).length) : Nat) : Int)) rfl) <| jE <| jB <| jC <| jF <| jA (jD (v := .bool (decide (((readI ((linesOf t).getD i [])).1) < f))) rfl) <| jA (jp rfl) <| jE ?_
            refine jB <| jR (cB (cN (dT h_19))) <| jT <| jm <| jB <| jF <| jA (jc (c := ((i + 1 : Nat) : Int)) he_12 rfl (wr (by omega))) <| jA (jD (v := iv ((i + 1 : Nat) : Int)) rfl) <| jE <| kB [1, 1, 1] (A := [Res.rows (y.flatMap rdsR), Res.row (.slice ya y.length yc) 49 1 y.length (y.flatMap encR), rS a_2 c_3 (linesOf t)]) rfl ?_
            refine jq ((linesOf t).length - (i + 1)) (by omega) ⟨i + 1, n + (((linesOf t).getD i []).length), ya, yc, y, by omega, by omega, by omega, (recs_skip hlt h_18 (by omega) hR), he_5, he_6, he_7, he_8, rfl, he_10, he_11, rfl, rfl, rfl⟩
          refine jM rfl rfl rfl (cB (cN (dF h_19))) (jP (jU (jD (v := iv ((readI ((linesOf t).getD i [])).1)) rfl))) ?_
          rintro _ _ ⟨rfl, rfl⟩
          refine jM rfl rfl rfl (cB (cN (dF h_19))) (jP (jU (jD (v := iv f) he_5))) ?_
          rintro _ _ ⟨rfl, rfl⟩
          refine jM rfl rfl rfl (cB (cN (dF h_19))) (jP (jU (jD (v := .slice ya y.length yc) he_8))) ?_
          rintro _ _ ⟨rfl, rfl⟩
          refine jM rfl rfl rfl (cB (cN (dF h_19))) (jP (jU (jr kx rfl))) ?_
          rintro _ _ ⟨rfl, rfl⟩
          refine jM rfl rfl rfl (cB (cN (dF h_19))) (jP (jU (jc (c := f + ((y.length : Nat) : Int)) rfl rfl (wr (by omega))))) ?_
          rintro _ _ ⟨rfl, rfl⟩
          refine jM rfl rfl rfl (cB (cN (dF h_19))) (jP (jU (kS rfl rfl))) ?_
          rintro _ _ ⟨rfl, rfl⟩
          refine jM rfl rfl rfl (cB (cN h_18)) (jP (jU (jh (v := .bool (!(decide (((readI ((linesOf t).getD i [])).1) = (f + ((y.length : Nat) : Int)))))) (cB (cN (dF h_19))) rfl))) ?_
          rintro _ _ ⟨rfl, rfl⟩
          refine jA (ji (v := .bool (!(decide (((readI ((linesOf t).getD i [])).1) = (f + ((y.length : Nat) : Int)))))) (cB (cN h_18)) rfl) <| jE <| jB ?_
          by_cases h_20 : ((readI ((linesOf t).getD i [])).1) = (f + ((y.length : Nat) : Int))
          · refine jR (cB (cN (dT h_20))) <| jT <| jB <| jC <| jF <| jA (jD (v := nv n) he_9) <| jA (jD (v := str ((linesOf t).getD i [])) rfl) <| jA (kF kg rfl) <| jA (jc (c := ((n + (((linesOf t).getD i []).length) : Nat) : Int)) rfl rfl (wr (by omega))) <| jA (jG (v := iv ((n + (((linesOf t).getD i []).length) : Nat) : Int)) rfl) ?_
            refine jE <| jB <| jC <| jF <| jA (jD (v := .bool (decide (((readI ((linesOf t).getD i [])).1) < f))) rfl) <| jA (jp rfl) <| jE <| jB <| jW (cB (cN (dF h_19))) <| jF ?_
            refine jA (jD (v := .slice ya y.length yc) he_8) <| jA (jD (v := .slice a_15 ((readI ((linesOf t).getD i [])).2.1.length) c_16) rfl) ?_
            refine jH rfl (kH (ps := [(0, .slice a_15 ((readI ((linesOf t).getD i [])).2.1.length) c_16)]) (cur := #[.slice a_15 ((readI ((linesOf t).getD i [])).2.1.length) c_16]) kx gM Tryz.zeroValue49 rfl (by kernel_rfl) (by decide) (by decide)) ?_
            rintro _ _ ⟨a_21, rfl, rfl⟩
            refine jH rfl (kU 3 (q := 1) (news := ([(⟨⟨a_15, c_16⟩, ⟨(readI ((linesOf t).getD i [])).2.1⟩⟩ : RX)] : List RX).flatMap encR) (n' := (y ++ ([(⟨⟨a_15, c_16⟩, ⟨(readI ((linesOf t).getD i [])).2.1⟩⟩ : RX)] : List RX)).length) (cs' := (y ++ ([(⟨⟨a_15, c_16⟩, ⟨(readI ((linesOf t).getD i [])).2.1⟩⟩ : RX)] : List RX)).flatMap encR) rfl kx kx Tryz.typeInfo49 rfl (by' := 24) rfl rfl rfl rfl rfl (fun w hw => Src.sees (hw.see (i := 0) rfl) (oneR _)) (by (try simp only [LE]); omega) (by (try simp only [LE]); omega) (by simp only [List.length_append, List.length_take, List.length_drop, List.length_cons, List.length_nil] <;> first | rfl | omega) (by simp only [List.flatMap_append])) ?_
            rintro _ _ ⟨a_22, c_23, rfl, rfl⟩
            refine jA (jG (v := .slice a_22 ((y ++ ([(⟨⟨a_15, c_16⟩, ⟨(readI ((linesOf t).getD i [])).2.1⟩⟩ : RX)] : List RX)).length) c_23) rfl) <| jE <| jm <| jB <| jF <| jA (jc (c := ((i + 1 : Nat) : Int)) he_12 rfl (wr (by omega))) <| jA (jD (v := iv ((i + 1 : Nat) : Int)) rfl) <| jE <| ju (L' := [Res.rows (rdsR (⟨⟨a_15, c_16⟩, ⟨(readI ((linesOf t).getD i [])).2.1⟩⟩ : RX)), Res.row (.slice a_21 1 1) 49 1 1 (([(⟨⟨a_15, c_16⟩, ⟨(readI ((linesOf t).getD i [])).2.1⟩⟩ : RX)] : List RX).flatMap encR), Res.rows (y.flatMap rdsR), Res.row (.slice a_22 ((y ++ ([(⟨⟨a_15, c_16⟩, ⟨(readI ((linesOf t).getD i [])).2.1⟩⟩ : RX)] : List RX)).length) c_23) 49 1 ((y ++ ([(⟨⟨a_15, c_16⟩, ⟨(readI ((linesOf t).getD i [])).2.1⟩⟩ : RX)] : List RX)).length) ((y ++ ([(⟨⟨a_15, c_16⟩, ⟨(readI ((linesOf t).getD i [])).2.1⟩⟩ : RX)] : List RX)).flatMap encR), rS a_2 c_3 (linesOf t)]) (fun w hw => hw.closeR (A := rdsR (⟨⟨a_15, c_16⟩, ⟨(readI ((linesOf t).getD i [])).2.1⟩⟩ : RX)) [1] rfl) <| ju (L' := [Res.rows ((y ++ [(⟨⟨a_15, c_16⟩, ⟨(readI ((linesOf t).getD i [])).2.1⟩⟩ : RX)]).flatMap rdsR), Res.row (.slice a_21 1 1) 49 1 1 (([(⟨⟨a_15, c_16⟩, ⟨(readI ((linesOf t).getD i [])).2.1⟩⟩ : RX)] : List RX).flatMap encR), Res.row (.slice a_22 ((y ++ ([(⟨⟨a_15, c_16⟩, ⟨(readI ((linesOf t).getD i [])).2.1⟩⟩ : RX)] : List RX)).length) c_23) 49 1 ((y ++ ([(⟨⟨a_15, c_16⟩, ⟨(readI ((linesOf t).getD i [])).2.1⟩⟩ : RX)] : List RX)).length) ((y ++ ([(⟨⟨a_15, c_16⟩, ⟨(readI ((linesOf t).getD i [])).2.1⟩⟩ : RX)] : List RX)).flatMap encR), rS a_2 c_3 (linesOf t)]) (fun w hw => hw.addR [2, 0] rfl flatMap_snoc) ?_
            refine kB [0, 1, 1] (A := [Res.rows ((y ++ [(⟨⟨a_15, c_16⟩, ⟨(readI ((linesOf t).getD i [])).2.1⟩⟩ : RX)]).flatMap rdsR), Res.row (.slice a_22 ((y ++ ([(⟨⟨a_15, c_16⟩, ⟨(readI ((linesOf t).getD i [])).2.1⟩⟩ : RX)] : List RX)).length) c_23) 49 1 ((y ++ [(⟨⟨a_15, c_16⟩, ⟨(readI ((linesOf t).getD i [])).2.1⟩⟩ : RX)]).length) ((y ++ [(⟨⟨a_15, c_16⟩, ⟨(readI ((linesOf t).getD i [])).2.1⟩⟩ : RX)]).flatMap encR), rS a_2 c_3 (linesOf t)]) rfl ?_
            refine jq ((linesOf t).length - (i + 1)) (by omega) ⟨i + 1, n + (((linesOf t).getD i []).length), a_22, c_23, (y ++ [(⟨⟨a_15, c_16⟩, ⟨(readI ((linesOf t).getD i [])).2.1⟩⟩ : RX)]), by omega, (by simp only [List.length_append, List.length_cons, List.length_nil]; omega), by omega, (by have h_ := recs_take hlt h_18 (by omega) hR; rw [List.map_append, List.length_append]; exact h_), he_5, he_6, he_7, rfl, rfl, he_10, he_11, rfl, rfl, rfl⟩
          refine jW (cB (cN (dF h_20))) <| jx <| jb <| JQ.blockO rfl <| jb <| jb <| jy <| jB <| jC <| jF ?_
          refine jA (jD (v := .slice ya y.length yc) he_8) <| jA (jD (v := nv n) he_9) <| jA (jG (v := .slice ya y.length yc) rfl) <| jA (jG (v := nv n) rfl) <| jE <| jB <| jN <| ju (L' := [Res.rows (rdsRS ya yc y), Res.row (.slice a_15 ((readI ((linesOf t).getD i [])).2.1.length) c_16) 48 2 (((readI ((linesOf t).getD i [])).2.1).length) (((readI ((linesOf t).getD i [])).2.1).flatMap encC), rS a_2 c_3 (linesOf t)]) (fun w hw => hw.consR (r := ⟨.slice ya y.length yc, 49, 1, y.length, y.flatMap encR⟩) (A := y.flatMap rdsR) [2, 1] rfl) <| kC (.inl rfl) rfl (jJ (v := .slice ya y.length yc) rfl) (jJ (v := nv n) rfl) (tS 1 _) ?_
          have he := recs_stop hlt h_18 (by omega) (by omega) hR
          exact ⟨ya, yc, y, by rw [he] <;> rfl, by rw [he] <;> rfl, rfl⟩
        refine jS (b := true) rfl rfl rfl (cB (cN h_18)) <| jS (b := true) rfl rfl rfl (cB (cN h_18)) <| jS (b := true) rfl rfl rfl (cB (cN h_18)) <| kP rfl rfl rfl rfl <| kP rfl rfl rfl rfl <| kP rfl rfl rfl rfl <| kP rfl rfl rfl rfl <| kP rfl rfl rfl rfl <| kP rfl rfl rfl rfl <| jS (b := true) rfl rfl rfl (cB (cN h_18)) ?_
        refine jA (jh (v := .bool true) (cB (cN h_18)) rfl) <| jE <| jB <| jW (cB rfl) <| jx <| jb <| JQ.blockO rfl <| jb <| jb <| jy ?_
        refine jB <| jC <| jF <| jA (jD (v := .slice ya y.length yc) he_8) <| jA (jD (v := nv n) he_9) <| jA (jG (v := .slice ya y.length yc) rfl) <| jA (jG (v := nv n) rfl) <| jE <| jB <| jN ?_
        refine ju (L' := [Res.rows (rdsRS ya yc y), Res.row (.slice a_15 ((readI ((linesOf t).getD i [])).2.1.length) c_16) 48 2 (((readI ((linesOf t).getD i [])).2.1).length) (((readI ((linesOf t).getD i [])).2.1).flatMap encC), rS a_2 c_3 (linesOf t)]) (fun w hw => hw.consR (r := ⟨.slice ya y.length yc, 49, 1, y.length, y.flatMap encR⟩) (A := y.flatMap rdsR) [2, 1] rfl) <| kC (.inl rfl) rfl (jJ (v := .slice ya y.length yc) rfl) (jJ (v := nv n) rfl) (tS 1 _) ?_
        have he := recs_bad hlt h_18 hR
        exact ⟨ya, yc, y, by rw [he] <;> rfl, by rw [he] <;> rfl, rfl⟩
      refine jS (b := false) rfl rfl rfl (cB (dF h_17)) <| jS (b := false) rfl rfl rfl (cB (dF h_17)) <| jS (b := false) rfl rfl rfl (cB (dF h_17)) <| jA (ji (v := .bool false) (cB (dF h_17)) rfl) <| jA (jG (v := .bool false) rfl) <| jE <| jB <| jC <| jC <| jF ?_
      refine jA (jD (v := .bool ((readI ((linesOf t).getD i [])).2.2)) rfl) <| jA (jp rfl) <| jA (jD (v := .bool (!((readI ((linesOf t).getD i [])).2.2))) rfl) ?_
      rcases Bool.eq_false_or_eq_true ((readI ((linesOf t).getD i [])).2.2) with h_24 | h_24
      · refine jM rfl rfl rfl (cB (cN h_24)) (jP (jU (jD (v := .bool false) rfl))) ?_
        rintro _ _ ⟨rfl, rfl⟩
        refine jM rfl rfl rfl (cB (cN h_24)) (jP (jU (jp rfl))) ?_
        rintro _ _ ⟨rfl, rfl⟩
        refine jM rfl rfl rfl (cB (cN h_24)) (jP (jU (jD (v := .bool true) rfl))) ?_
        rintro _ _ ⟨rfl, rfl⟩
        refine jM rfl rfl rfl (cB rfl) (jP (jU (jD (v := iv ((readI ((linesOf t).getD i [])).1)) rfl))) ?_
        rintro _ _ ⟨rfl, rfl⟩
        refine jM rfl rfl rfl (cB rfl) (jP (jU (jD (v := iv f) he_5))) ?_
        rintro _ _ ⟨rfl, rfl⟩
        refine jM rfl rfl rfl (cB rfl) (jP (jU (jD (v := .slice ya y.length yc) he_8))) ?_
        rintro _ _ ⟨rfl, rfl⟩
        refine jM rfl rfl rfl (cB rfl) (jP (jU (jr kx rfl))) ?_
        rintro _ _ ⟨rfl, rfl⟩
        refine jM rfl rfl rfl (cB rfl) (jP (jU (jc (c := f + ((y.length : Nat) : Int)) rfl rfl (wr (by omega))))) ?_
        rintro _ _ ⟨rfl, rfl⟩
        refine jM rfl rfl rfl (cB rfl) (jP (jU (kS rfl rfl))) ?_
        rintro _ _ ⟨rfl, rfl⟩
        refine jM rfl rfl rfl (cB (cN h_24)) (jP (jU (jh (v := .bool (!(decide (((readI ((linesOf t).getD i [])).1) = (f + ((y.length : Nat) : Int)))))) (cB rfl) rfl))) ?_
        rintro _ _ ⟨rfl, rfl⟩
        refine jA (ji (v := .bool (!(decide (((readI ((linesOf t).getD i [])).1) = (f + ((y.length : Nat) : Int)))))) (cB (cN h_24)) rfl) <| jE <| jB ?_
        by_cases h_25 : ((readI ((linesOf t).getD i [])).1) = (f + ((y.length : Nat) : Int))
        · refine jR (cB (cN (dT h_25))) <| jT <| jB <| jC <| jF <| jA (jD (v := nv n) he_9) <| jA (jD (v := str ((linesOf t).getD i [])) rfl) <| jA (kF kg rfl) <| jA (jc (c := ((n + (((linesOf t).getD i []).length) : Nat) : Int)) rfl rfl (wr (by omega))) <| jA (jG (v := iv ((n + (((linesOf t).getD i []).length) : Nat) : Int)) rfl) ?_
          refine jE <| jB <| jC <| jF <| jA (jD (v := .bool false) rfl) <| jA (jp rfl) <| jE <| jB <| jW (cB rfl) <| jF ?_
          refine jA (jD (v := .slice ya y.length yc) he_8) <| jA (jD (v := .slice a_15 ((readI ((linesOf t).getD i [])).2.1.length) c_16) rfl) ?_
          refine jH rfl (kH (ps := [(0, .slice a_15 ((readI ((linesOf t).getD i [])).2.1.length) c_16)]) (cur := #[.slice a_15 ((readI ((linesOf t).getD i [])).2.1.length) c_16]) kx gM Tryz.zeroValue49 rfl (by kernel_rfl) (by decide) (by decide)) ?_
          rintro _ _ ⟨a_26, rfl, rfl⟩
          refine jH rfl (kU 3 (q := 1) (news := ([(⟨⟨a_15, c_16⟩, ⟨(readI ((linesOf t).getD i [])).2.1⟩⟩ : RX)] : List RX).flatMap encR) (n' := (y ++ ([(⟨⟨a_15, c_16⟩, ⟨(readI ((linesOf t).getD i [])).2.1⟩⟩ : RX)] : List RX)).length) (cs' := (y ++ ([(⟨⟨a_15, c_16⟩, ⟨(readI ((linesOf t).getD i [])).2.1⟩⟩ : RX)] : List RX)).flatMap encR) rfl kx kx Tryz.typeInfo49 rfl (by' := 24) rfl rfl rfl rfl rfl (fun w hw => Src.sees (hw.see (i := 0) rfl) (oneR _)) (by (try simp only [LE]); omega) (by (try simp only [LE]); omega) (by simp only [List.length_append, List.length_take, List.length_drop, List.length_cons, List.length_nil] <;> first | rfl | omega) (by simp only [List.flatMap_append])) ?_
          rintro _ _ ⟨a_27, c_28, rfl, rfl⟩
          refine jA (jG (v := .slice a_27 ((y ++ ([(⟨⟨a_15, c_16⟩, ⟨(readI ((linesOf t).getD i [])).2.1⟩⟩ : RX)] : List RX)).length) c_28) rfl) <| jE <| jm <| jB <| jF <| jA (jc (c := ((i + 1 : Nat) : Int)) he_12 rfl (wr (by omega))) <| jA (jD (v := iv ((i + 1 : Nat) : Int)) rfl) <| jE <| ju (L' := [Res.rows (rdsR (⟨⟨a_15, c_16⟩, ⟨(readI ((linesOf t).getD i [])).2.1⟩⟩ : RX)), Res.row (.slice a_26 1 1) 49 1 1 (([(⟨⟨a_15, c_16⟩, ⟨(readI ((linesOf t).getD i [])).2.1⟩⟩ : RX)] : List RX).flatMap encR), Res.rows (y.flatMap rdsR), Res.row (.slice a_27 ((y ++ ([(⟨⟨a_15, c_16⟩, ⟨(readI ((linesOf t).getD i [])).2.1⟩⟩ : RX)] : List RX)).length) c_28) 49 1 ((y ++ ([(⟨⟨a_15, c_16⟩, ⟨(readI ((linesOf t).getD i [])).2.1⟩⟩ : RX)] : List RX)).length) ((y ++ ([(⟨⟨a_15, c_16⟩, ⟨(readI ((linesOf t).getD i [])).2.1⟩⟩ : RX)] : List RX)).flatMap encR), rS a_2 c_3 (linesOf t)]) (fun w hw => hw.closeR (A := rdsR (⟨⟨a_15, c_16⟩, ⟨(readI ((linesOf t).getD i [])).2.1⟩⟩ : RX)) [1] rfl) <| ju (L' := [Res.rows ((y ++ [(⟨⟨a_15, c_16⟩, ⟨(readI ((linesOf t).getD i [])).2.1⟩⟩ : RX)]).flatMap rdsR), Res.row (.slice a_26 1 1) 49 1 1 (([(⟨⟨a_15, c_16⟩, ⟨(readI ((linesOf t).getD i [])).2.1⟩⟩ : RX)] : List RX).flatMap encR), Res.row (.slice a_27 ((y ++ ([(⟨⟨a_15, c_16⟩, ⟨(readI ((linesOf t).getD i [])).2.1⟩⟩ : RX)] : List RX)).length) c_28) 49 1 ((y ++ ([(⟨⟨a_15, c_16⟩, ⟨(readI ((linesOf t).getD i [])).2.1⟩⟩ : RX)] : List RX)).length) ((y ++ ([(⟨⟨a_15, c_16⟩, ⟨(readI ((linesOf t).getD i [])).2.1⟩⟩ : RX)] : List RX)).flatMap encR), rS a_2 c_3 (linesOf t)]) (fun w hw => hw.addR [2, 0] rfl flatMap_snoc) ?_
          refine kB [0, 1, 1] (A := [Res.rows ((y ++ [(⟨⟨a_15, c_16⟩, ⟨(readI ((linesOf t).getD i [])).2.1⟩⟩ : RX)]).flatMap rdsR), Res.row (.slice a_27 ((y ++ ([(⟨⟨a_15, c_16⟩, ⟨(readI ((linesOf t).getD i [])).2.1⟩⟩ : RX)] : List RX)).length) c_28) 49 1 ((y ++ [(⟨⟨a_15, c_16⟩, ⟨(readI ((linesOf t).getD i [])).2.1⟩⟩ : RX)]).length) ((y ++ [(⟨⟨a_15, c_16⟩, ⟨(readI ((linesOf t).getD i [])).2.1⟩⟩ : RX)]).flatMap encR), rS a_2 c_3 (linesOf t)]) rfl ?_
          refine jq ((linesOf t).length - (i + 1)) (by omega) ⟨i + 1, n + (((linesOf t).getD i []).length), a_27, c_28, (y ++ [(⟨⟨a_15, c_16⟩, ⟨(readI ((linesOf t).getD i [])).2.1⟩⟩ : RX)]), by omega, (by simp only [List.length_append, List.length_cons, List.length_nil]; omega), by omega, (by have h_ := recs_take hlt h_24 (by omega) hR; rw [List.map_append, List.length_append]; exact h_), he_5, he_6, he_7, rfl, rfl, he_10, he_11, rfl, rfl, rfl⟩
        refine jW (cB (cN (dF h_25))) <| jx <| jb <| JQ.blockO rfl <| jb <| jb <| jy <| jB <| jC <| jF ?_
        refine jA (jD (v := .slice ya y.length yc) he_8) <| jA (jD (v := nv n) he_9) <| jA (jG (v := .slice ya y.length yc) rfl) <| jA (jG (v := nv n) rfl) <| jE <| jB <| jN <| ju (L' := [Res.rows (rdsRS ya yc y), Res.row (.slice a_15 ((readI ((linesOf t).getD i [])).2.1.length) c_16) 48 2 (((readI ((linesOf t).getD i [])).2.1).length) (((readI ((linesOf t).getD i [])).2.1).flatMap encC), rS a_2 c_3 (linesOf t)]) (fun w hw => hw.consR (r := ⟨.slice ya y.length yc, 49, 1, y.length, y.flatMap encR⟩) (A := y.flatMap rdsR) [2, 1] rfl) <| kC (.inl rfl) rfl (jJ (v := .slice ya y.length yc) rfl) (jJ (v := nv n) rfl) (tS 1 _) ?_
        have he := recs_stop hlt h_24 (by omega) (by omega) hR
        exact ⟨ya, yc, y, by rw [he] <;> rfl, by rw [he] <;> rfl, rfl⟩
      refine jS (b := true) rfl rfl rfl (cB (cN h_24)) <| jS (b := true) rfl rfl rfl (cB (cN h_24)) <| jS (b := true) rfl rfl rfl (cB (cN h_24)) <| kP rfl rfl rfl rfl <| kP rfl rfl rfl rfl <| kP rfl rfl rfl rfl <| kP rfl rfl rfl rfl <| kP rfl rfl rfl rfl <| kP rfl rfl rfl rfl <| jS (b := true) rfl rfl rfl (cB (cN h_24)) ?_
      refine jA (jh (v := .bool true) (cB (cN h_24)) rfl) <| jE <| jB <| jW (cB rfl) <| jx <| jb <| JQ.blockO rfl <| jb <| jb <| jy ?_
      refine jB <| jC <| jF <| jA (jD (v := .slice ya y.length yc) he_8) <| jA (jD (v := nv n) he_9) <| jA (jG (v := .slice ya y.length yc) rfl) <| jA (jG (v := nv n) rfl) <| jE <| jB <| jN ?_
      refine ju (L' := [Res.rows (rdsRS ya yc y), Res.row (.slice a_15 ((readI ((linesOf t).getD i [])).2.1.length) c_16) 48 2 (((readI ((linesOf t).getD i [])).2.1).length) (((readI ((linesOf t).getD i [])).2.1).flatMap encC), rS a_2 c_3 (linesOf t)]) (fun w hw => hw.consR (r := ⟨.slice ya y.length yc, 49, 1, y.length, y.flatMap encR⟩) (A := y.flatMap rdsR) [2, 1] rfl) <| kC (.inl rfl) rfl (jJ (v := .slice ya y.length yc) rfl) (jJ (v := nv n) rfl) (tS 1 _) ?_
      have he := recs_bad hlt h_24 hR
      exact ⟨ya, yc, y, by rw [he] <;> rfl, by rw [he] <;> rfl, rfl⟩
    refine jR (cB (dF h_13)) <| jx <| jb <| jb <| jy <| jB <| jC <| jF <| jA (jD (v := .slice ya y.length yc) he_8) <| jA (jD (v := nv n) he_9) ?_
    refine jA (jG (v := .slice ya y.length yc) rfl) <| jA (jG (v := nv n) rfl) <| jE <| jB <| jN <| ju (L' := [Res.rows (rdsRS ya yc y), rS a_2 c_3 (linesOf t)]) (fun w hw => hw.consR (r := ⟨.slice ya y.length yc, 49, 1, y.length, y.flatMap encR⟩) (A := y.flatMap rdsR) [1, 0] rfl) <| kC (.inl rfl) rfl (jJ (v := .slice ya y.length yc) rfl) (jJ (v := nv n) rfl) (tS 1 _) ?_
    have he := recs_end (by omega) hR
    exact ⟨ya, yc, y, by rw [he] <;> rfl, by rw [he] <;> rfl, rfl⟩
  refine jW (cB (cN h_1)) <| jC <| jF <| jA (jG (v := .slice none 0 0) rfl) <| jA (jG (v := iv 0) rfl) <| jE <| jB <| jN <| jX <| JQ.nilRow 49 1 ?_
  refine ju (L' := [Res.rows (rdsRS none 0 ([] : List RX))]) (fun w hw => hw.closeR (A := rdsRS none 0 ([] : List RX)) [0] rfl) <| kC (.inl rfl) rfl (jJ (v := .slice none 0 0) rfl) (jJ (v := iv 0) rfl) (List.Sublist.refl _) ?_
  have he : recsOf t f = ([], 0) := by rw [recsOf, if_neg (by rw [h_1]; exact Bool.false_ne_true)]
  exact ⟨none, 0, [], by rw [he]; rfl, by rw [he] <;> rfl, rfl⟩

set_option maxRecDepth 4000 in
set_option maxHeartbeats 1000000 in
theorem Y_sRecs (t : Str) (f : Int) (ht : t.length ≤ 100000000) :
    Ct Tryz.prog 69 [str t, .int .i64 f] [] (fun _ => True) (fun v A' => ∃ a c y, y.map cellsR = (recsOf t f).1 ∧ v = .tuple #[.slice a y.length c, .int .i64 (((recsOf t f).2 : Nat) : Int)] ∧ A' = [.rows (rdsRS a c y)]) := by
  refine Ct.intro Tryz.func69 rfl Tryz.ntmps69 (lb rfl) fun w0 hpre => ?_
  refine jC <| jF <| jA (jG (v := .slice none 0 0) rfl) <| jA (jG (v := iv 0) rfl) <| jE <| jB <| jC <| jF ?_
  refine jH rfl (kH (ps := []) (cur := #[]) kx gM Tryz.zeroValue49 rfl (by kernel_rfl) (by decide) (by decide)) ?_
  rintro _ _ ⟨a_1, rfl, rfl⟩
  refine jA (jG (v := .slice a_1 0 0) rfl) <| jE <| jB <| jC <| jC <| jF <| jA (jD (v := iv f) rfl) ?_
  refine jH rfl (jI [] Tryz.call89 rfl (Y_l01In f 1 100000) rfl (fun _ _ => trivial)) ?_
  rintro _ _ ⟨_, ⟨rfl, rfl⟩, rfl⟩
  refine jA (jp rfl) <| jE <| jB ?_
  rcases Bool.eq_false_or_eq_true (within 1 f 100000) with h_2 | h_2
  · refine jR (cB (cN h_2)) <| jT <| jB <| jC ?_
    have hwi := h_2
    have hwj := (show 1 ≤ f ∧ f ≤ 100000 by simpa only [within, Bool.and_eq_true, decide_eq_true_eq] using hwi)
    have hll : (linesOf t).length ≤ t.length := linesG_len t []
    refine jF <| jA (jD (v := str t) rfl) ?_
    refine jH rfl (jI [] Tryz.call57 rfl (Y_sLines t (by omega)) rfl (fun _ _ => trivial)) ?_
    rintro _ _ ⟨_, ⟨a_3, c_4, rfl, rfl⟩, rfl⟩
    refine jA (jG (v := .slice a_3 ((linesOf t).length) c_4) rfl) <| jE <| jB <| jC <| jF <| jA (jG (v := iv 0) rfl) <| jE <| jB <| jC <| jC ?_
    refine jF <| jA (jG (v := iv 0) rfl) <| jE <| jB <| jf <| kT (L' := [Res.rows (([] : List RX).flatMap rdsR), Res.row (.slice a_1 0 0) 49 1 0 (([] : List RX).flatMap encR), rS a_3 c_4 (linesOf t)]) (fun w hw => hw.nilR (α := RX) (f := rdsR) [1] (B := [Res.row (.slice a_1 0 0) 49 1 0 (([] : List RX).flatMap encR)]) (F := [rS a_3 c_4 (linesOf t)]) rfl) <| kD (fun k_ e_ L_ => ∃ i : Nat, ∃ n : Nat, ∃ ya : Option Addr, ∃ yc : Nat, ∃ y : List RX, (i ≤ (linesOf t).length) ∧ (y.length ≤ i) ∧ (n + sumLen ((linesOf t).drop i) ≤ t.length) ∧ (recsOf t f = (y.map cellsR ++ (recsG f y.length ((linesOf t).drop i)).1, n + (recsG f y.length ((linesOf t).drop i)).2)) ∧ e_ 1 = iv f ∧ e_ 4 = .slice none 0 0 ∧ e_ 5 = iv 0 ∧ e_ 6 = .slice ya y.length yc ∧ e_ 7 = .slice a_3 ((linesOf t).length) c_4 ∧ e_ 8 = nv n ∧ e_ 9 = nv i ∧ L_ = [Res.rows (y.flatMap rdsR), Res.row (.slice ya y.length yc) 49 1 y.length (y.flatMap encR), rS a_3 c_4 (linesOf t)] ∧ k_ = (linesOf t).length - i) _ ⟨0, 0, a_1, 0, [], by omega, by simp, (by have h_ := linesG_sum t []; simp only [List.length_nil, Nat.zero_add, List.drop_zero] at *; exact h_), (by rw [recsOf, if_pos hwi]; simp), rfl, rfl, rfl, rfl, rfl, rfl, rfl, rfl, rfl⟩ ?_
    rintro _ e_5 _ ⟨i, n, ya, yc, y, hi, hyl, hn, hR, he_6, he_7, he_8, he_9, he_10, he_11, he_12, rfl, rfl⟩
    refine jC <| jC <| jF <| jA (jD (v := nv i) he_12) <| jA (jD (v := .slice a_3 ((linesOf t).length) c_4) he_10) <| jA (jr ku rfl) <| jA (jl rfl rfl) <| jE <| jB ?_
    by_cases h_13 : ((i : Nat) : Int) < (((linesOf t).length : Nat) : Int)
    · have hlt : i < (linesOf t).length := by omega
      have hml : ((linesOf t).getD i []).length ≤ 0 + t.length := linesG_mem t [] _ (getD_mem (d := []) hlt)
      have hsl : sumLen ((linesOf t).drop i) = ((linesOf t).getD i []).length + sumLen ((linesOf t).drop (i + 1)) := sumLen_step hlt
      refine jW (cB (dT h_13)) <| jT <| jB <| jC <| jf <| jC <| jF <| jA (jD (v := .slice a_3 ((linesOf t).length) c_4) he_10) <| jA (jD (v := nv i) he_12) ?_
      refine kN fun hst => ?_
      obtain ⟨hr_14, hr_14b, -⟩ := row_some 2 rfl (by omega) hst
      refine jA (jk (i := i) ku kt hr_14 hr_14b rfl rfl (by omega)) <| jK (ka 2 (v := str ((linesOf t).getD i [])) rfl rfl ki (atS (by omega))) ?_
      refine jH rfl (jI [] Tryz.call58 rfl (Y_sRead ((linesOf t).getD i []) (by omega)) rfl (fun _ _ => trivial)) ?_
      rintro _ _ ⟨_, ⟨a_15, c_16, rfl, rfl⟩, rfl⟩
      refine jA (jD (v := .tuple #[iv ((readI ((linesOf t).getD i [])).1), .slice a_15 ((readI ((linesOf t).getD i [])).2.1.length) c_16, .bool ((readI ((linesOf t).getD i [])).2.2)]) rfl) <| jA (je (v := iv ((readI ((linesOf t).getD i [])).1)) rfl rfl) <| jA (je (v := .slice a_15 ((readI ((linesOf t).getD i [])).2.1.length) c_16) rfl rfl) <| jA (je (v := .bool ((readI ((linesOf t).getD i [])).2.2)) rfl rfl) <| jA (jG (v := iv ((readI ((linesOf t).getD i [])).1)) rfl) <| jA (jG (v := .slice a_15 ((readI ((linesOf t).getD i [])).2.1.length) c_16) rfl) <| jA (jG (v := .bool ((readI ((linesOf t).getD i [])).2.2)) rfl) <| jE <| jB <| jC ?_
      refine jC <| jF <| jA (jD (v := .bool ((readI ((linesOf t).getD i [])).2.2)) rfl) <| jA (jp rfl) <| jA (jD (v := .bool (!((readI ((linesOf t).getD i [])).2.2))) rfl) ?_
      rcases Bool.eq_false_or_eq_true ((readI ((linesOf t).getD i [])).2.2) with h_17 | h_17
      · refine jM rfl rfl rfl (cB (cN h_17)) (jP (jU (jD (v := iv ((readI ((linesOf t).getD i [])).1)) rfl))) ?_
        rintro _ _ ⟨rfl, rfl⟩
        refine jM rfl rfl rfl (cB (cN h_17)) (jP (jU (jD (v := iv f) he_6))) ?_
        rintro _ _ ⟨rfl, rfl⟩
        refine jM rfl rfl rfl (cB (cN h_17)) (jP (jU (jD (v := .slice ya y.length yc) he_9))) ?_
        rintro _ _ ⟨rfl, rfl⟩
        refine jM rfl rfl rfl (cB (cN h_17)) (jP (jU (jr kx rfl))) ?_
        rintro _ _ ⟨rfl, rfl⟩
        refine jM rfl rfl rfl (cB (cN h_17)) (jP (jU (jc (c := f + ((y.length : Nat) : Int)) rfl rfl (wr (by omega))))) ?_
        rintro _ _ ⟨rfl, rfl⟩
        refine jM rfl rfl rfl (cB (cN h_17)) (jP (jU (kS rfl rfl))) ?_
        rintro _ _ ⟨rfl, rfl⟩
        refine jM rfl rfl rfl (cB (cN h_17)) (jP (jU (jD (v := .bool (!(decide (((readI ((linesOf t).getD i [])).1) = (f + ((y.length : Nat) : Int)))))) rfl))) ?_
        rintro _ _ ⟨rfl, rfl⟩
        by_cases h_18 : ((readI ((linesOf t).getD i [])).1) = (f + ((y.length : Nat) : Int))
        · refine jS (b := false) rfl rfl rfl (cB (cN (dT h_18))) <| jS (b := false) rfl rfl rfl (cB (cN (dT h_18))) <| jS (b := false) rfl rfl rfl (cB (cN (dT h_18))) <| jS (b := false) rfl rfl rfl (cB (cN (dT h_18))) <| kP rfl rfl rfl rfl <| kP rfl rfl rfl rfl <| kP rfl rfl rfl rfl <| jS (b := false) rfl rfl rfl (cB (cN (dT h_18))) <| jM rfl rfl rfl (cB (cN h_17)) (jP (jU (ji (v := .bool false) (cB (cN (dT h_18))) rfl))) ?_
          rintro _ _ ⟨rfl, rfl⟩
          refine jA (ji (v := .bool false) (cB (cN h_17)) rfl) <| jE <| jB <| jR (cB rfl) <| jT <| jB <| jC <| jC <| jF <| jA (jD (v := iv ((readI ((linesOf t).getD i [])).1)) rfl) ?_
          refine jA (jD (v := iv f) he_6) <| jA (jD (v := .slice ya y.length yc) he_9) <| jA (jr kx rfl) <| jA (jc (c := f + ((y.length : Nat) : Int)) rfl rfl (wr (by omega))) <| jA (kO rfl rfl) <| jE <| jB <| jW (cB (dT h_18)) <| jF <| jA (jD (v := .slice ya y.length yc) he_9) ?_
          refine jA (jD (v := .slice a_15 ((readI ((linesOf t).getD i [])).2.1.length) c_16) rfl) ?_
          refine jH rfl (kH (ps := [(0, .slice a_15 ((readI ((linesOf t).getD i [])).2.1.length) c_16)]) (cur := #[.slice a_15 ((readI ((linesOf t).getD i [])).2.1.length) c_16]) kx gM Tryz.zeroValue49 rfl (by kernel_rfl) (by decide) (by decide)) ?_
          rintro _ _ ⟨a_19, rfl, rfl⟩
          refine jH rfl (kU 3 (q := 1) (news := ([(⟨⟨a_15, c_16⟩, ⟨(readI ((linesOf t).getD i [])).2.1⟩⟩ : RX)] : List RX).flatMap encR) (n' := (y ++ ([(⟨⟨a_15, c_16⟩, ⟨(readI ((linesOf t).getD i [])).2.1⟩⟩ : RX)] : List RX)).length) (cs' := (y ++ ([(⟨⟨a_15, c_16⟩, ⟨(readI ((linesOf t).getD i [])).2.1⟩⟩ : RX)] : List RX)).flatMap encR) rfl kx kx Tryz.typeInfo49 rfl (by' := 24) rfl rfl rfl rfl rfl (fun w hw => Src.sees (hw.see (i := 0) rfl) (oneR _)) (by (try simp only [LE]); omega) (by (try simp only [LE]); omega) (by simp only [List.length_append, List.length_take, List.length_drop, List.length_cons, List.length_nil] <;> first | rfl | omega) (by simp only [List.flatMap_append])) ?_
          rintro _ _ ⟨a_20, c_21, rfl, rfl⟩
          refine jA (jG (v := .slice a_20 ((y ++ ([(⟨⟨a_15, c_16⟩, ⟨(readI ((linesOf t).getD i [])).2.1⟩⟩ : RX)] : List RX)).length) c_21) rfl) <| jE <| jB <| jF <| jA (jD (v := nv n) he_11) <| jA (jD (v := .slice a_3 ((linesOf t).length) c_4) he_10) <| jA (jD (v := nv i) he_12) <| jA (jk (i := i) ku kt hr_14 hr_14b rfl rfl (by omega)) <| jK (ka 4 (v := str ((linesOf t).getD i [])) rfl rfl ki (atS (by omega))) <| jA (kF kg rfl) ?_
          refine jA (jc (c := ((n + (((linesOf t).getD i []).length) : Nat) : Int)) rfl rfl (wr (by omega))) <| jA (jG (v := iv ((n + (((linesOf t).getD i []).length) : Nat) : Int)) rfl) <| jE <| jm <| jB <| jF <| jA (jD (v := nv i) he_12) <| jA (jc (c := ((i + 1 : Nat) : Int)) rfl rfl (wr (by omega))) <| jA (jG (v := iv ((i + 1 : Nat) : Int)) rfl) <| jE ?_
          refine ju (L' := [Res.rows (rdsR (⟨⟨a_15, c_16⟩, ⟨(readI ((linesOf t).getD i [])).2.1⟩⟩ : RX)), Res.row (.slice a_19 1 1) 49 1 1 (([(⟨⟨a_15, c_16⟩, ⟨(readI ((linesOf t).getD i [])).2.1⟩⟩ : RX)] : List RX).flatMap encR), Res.rows (y.flatMap rdsR), Res.row (.slice a_20 ((y ++ ([(⟨⟨a_15, c_16⟩, ⟨(readI ((linesOf t).getD i [])).2.1⟩⟩ : RX)] : List RX)).length) c_21) 49 1 ((y ++ ([(⟨⟨a_15, c_16⟩, ⟨(readI ((linesOf t).getD i [])).2.1⟩⟩ : RX)] : List RX)).length) ((y ++ ([(⟨⟨a_15, c_16⟩, ⟨(readI ((linesOf t).getD i [])).2.1⟩⟩ : RX)] : List RX)).flatMap encR), rS a_3 c_4 (linesOf t)]) (fun w hw => hw.closeR (A := rdsR (⟨⟨a_15, c_16⟩, ⟨(readI ((linesOf t).getD i [])).2.1⟩⟩ : RX)) [1] rfl) <| ju (L' := [Res.rows ((y ++ [(⟨⟨a_15, c_16⟩, ⟨(readI ((linesOf t).getD i [])).2.1⟩⟩ : RX)]).flatMap rdsR), Res.row (.slice a_19 1 1) 49 1 1 (([(⟨⟨a_15, c_16⟩, ⟨(readI ((linesOf t).getD i [])).2.1⟩⟩ : RX)] : List RX).flatMap encR), Res.row (.slice a_20 ((y ++ ([(⟨⟨a_15, c_16⟩, ⟨(readI ((linesOf t).getD i [])).2.1⟩⟩ : RX)] : List RX)).length) c_21) 49 1 ((y ++ ([(⟨⟨a_15, c_16⟩, ⟨(readI ((linesOf t).getD i [])).2.1⟩⟩ : RX)] : List RX)).length) ((y ++ ([(⟨⟨a_15, c_16⟩, ⟨(readI ((linesOf t).getD i [])).2.1⟩⟩ : RX)] : List RX)).flatMap encR), rS a_3 c_4 (linesOf t)]) (fun w hw => hw.addR [2, 0] rfl flatMap_snoc) <| kB [0, 1, 1] (A := [Res.rows ((y ++ [(⟨⟨a_15, c_16⟩, ⟨(readI ((linesOf t).getD i [])).2.1⟩⟩ : RX)]).flatMap rdsR), Res.row (.slice a_20 ((y ++ ([(⟨⟨a_15, c_16⟩, ⟨(readI ((linesOf t).getD i [])).2.1⟩⟩ : RX)] : List RX)).length) c_21) 49 1 ((y ++ [(⟨⟨a_15, c_16⟩, ⟨(readI ((linesOf t).getD i [])).2.1⟩⟩ : RX)]).length) ((y ++ [(⟨⟨a_15, c_16⟩, ⟨(readI ((linesOf t).getD i [])).2.1⟩⟩ : RX)]).flatMap encR), rS a_3 c_4 (linesOf t)]) rfl ?_
          refine jq ((linesOf t).length - (i + 1)) (by omega) ⟨i + 1, n + (((linesOf t).getD i []).length), a_20, c_21, (y ++ [(⟨⟨a_15, c_16⟩, ⟨(readI ((linesOf t).getD i [])).2.1⟩⟩ : RX)]), by omega, (by simp only [List.length_append, List.length_cons, List.length_nil]; omega), by omega, (by have h_ := recs_take hlt h_17 (by omega) hR; rw [List.map_append, List.length_append]; exact h_), he_6, he_7, he_8, rfl, he_10, rfl, rfl, rfl, rfl⟩
        refine jM rfl rfl rfl (cB (cN (dF h_18))) (jP (jU (jD (v := .slice ya y.length yc) he_9))) ?_
        rintro _ _ ⟨rfl, rfl⟩
        refine jM rfl rfl rfl (cB (cN (dF h_18))) (jP (jU (jr kx rfl))) ?_
        rintro _ _ ⟨rfl, rfl⟩
        refine jM rfl rfl rfl (cB (cN (dF h_18))) (jP (jU (kR rfl rfl))) ?_
        rintro _ _ ⟨rfl, rfl⟩
        refine jM rfl rfl rfl (cB (cN (dF h_18))) (jP (jU (jD (v := .bool (decide (0 < ((y.length : Nat) : Int)))) rfl))) ?_
        rintro _ _ ⟨rfl, rfl⟩
        by_cases h_22 : 0 < ((y.length : Nat) : Int)
        · refine jS (b := true) rfl rfl rfl (cB (dT h_22)) <| jS (b := true) rfl rfl rfl (cB (dT h_22)) <| jS (b := true) rfl rfl rfl (cB (dT h_22)) <| jM rfl rfl rfl (cB (cN (dF h_18))) (jP (jU (jh (v := .bool true) (cB (dT h_22)) rfl))) ?_
          rintro _ _ ⟨rfl, rfl⟩
          refine jM rfl rfl rfl (cB (cN h_17)) (jP (jU (jh (v := .bool true) (cB (cN (dF h_18))) rfl))) ?_
          rintro _ _ ⟨rfl, rfl⟩
          refine jA (ji (v := .bool true) (cB (cN h_17)) rfl) <| jE <| jB <| jW (cB rfl) <| jx <| jb <| JQ.blockO rfl <| jb <| jb <| jy ?_
          refine jB <| jC <| jF <| jA (jD (v := .slice ya y.length yc) he_9) <| jA (jD (v := nv n) he_11) <| jA (jG (v := .slice ya y.length yc) rfl) <| jA (jG (v := nv n) rfl) <| jE <| jB <| jN ?_
          refine ju (L' := [Res.rows (rdsRS ya yc y), Res.row (.slice a_15 ((readI ((linesOf t).getD i [])).2.1.length) c_16) 48 2 (((readI ((linesOf t).getD i [])).2.1).length) (((readI ((linesOf t).getD i [])).2.1).flatMap encC), rS a_3 c_4 (linesOf t)]) (fun w hw => hw.consR (r := ⟨.slice ya y.length yc, 49, 1, y.length, y.flatMap encR⟩) (A := y.flatMap rdsR) [2, 1] rfl) <| kC (.inl rfl) rfl (jJ (v := .slice ya y.length yc) rfl) (jJ (v := nv n) rfl) (tS 1 _) ?_
          have he := recs_stop hlt h_17 (by omega) (by omega) hR
          exact ⟨ya, yc, y, by rw [he] <;> rfl, by rw [he] <;> rfl, rfl⟩
        refine jM rfl rfl rfl (cB (dF h_22)) (jP (jU (jD (v := iv ((readI ((linesOf t).getD i [])).1)) rfl))) ?_
        rintro _ _ ⟨rfl, rfl⟩
        refine jM rfl rfl rfl (cB (dF h_22)) (jP (jU (jD (v := iv f) he_6))) ?_
        rintro _ _ ⟨rfl, rfl⟩
        refine jM rfl rfl rfl (cB (dF h_22)) (jP (jU (kR rfl rfl))) ?_
        rintro _ _ ⟨rfl, rfl⟩
        refine jM rfl rfl rfl (cB (cN (dF h_18))) (jP (jU (ji (v := .bool (decide (f < ((readI ((linesOf t).getD i [])).1)))) (cB (dF h_22)) rfl))) ?_
        rintro _ _ ⟨rfl, rfl⟩
        refine jM rfl rfl rfl (cB (cN h_17)) (jP (jU (jh (v := .bool (decide (f < ((readI ((linesOf t).getD i [])).1)))) (cB (cN (dF h_18))) rfl))) ?_
        rintro _ _ ⟨rfl, rfl⟩
        refine jA (ji (v := .bool (decide (f < ((readI ((linesOf t).getD i [])).1)))) (cB (cN h_17)) rfl) <| jE <| jB ?_
        by_cases h_23 : f < ((readI ((linesOf t).getD i [])).1)
        · refine jW (cB (dT h_23)) <| jx <| jb <| JQ.blockO rfl <| jb <| jb <| jy <| jB <| jC <| jF ?_
          refine jA (jD (v := .slice ya y.length yc) he_9) <| jA (jD (v := nv n) he_11) <| jA (jG (v := .slice ya y.length yc) rfl) <| jA (jG (v := nv n) rfl) <| jE <| jB <| jN <| ju (L' := [Res.rows (rdsRS ya yc y), Res.row (.slice a_15 ((readI ((linesOf t).getD i [])).2.1.length) c_16) 48 2 (((readI ((linesOf t).getD i [])).2.1).length) (((readI ((linesOf t).getD i [])).2.1).flatMap encC), rS a_3 c_4 (linesOf t)]) (fun w hw => hw.consR (r := ⟨.slice ya y.length yc, 49, 1, y.length, y.flatMap encR⟩) (A := y.flatMap rdsR) [2, 1] rfl) <| kC (.inl rfl) rfl (jJ (v := .slice ya y.length yc) rfl) (jJ (v := nv n) rfl) (tS 1 _) ?_
          have he := recs_stop hlt h_17 (by omega) (by omega) hR
          exact ⟨ya, yc, y, by rw [he] <;> rfl, by rw [he] <;> rfl, rfl⟩
        refine jR (cB (dF h_23)) <| jT <| jB <| jC <| jC <| jF <| jA (jD (v := iv ((readI ((linesOf t).getD i [])).1)) rfl) <| jA (jD (v := iv f) he_6) <| jA (jD (v := .slice ya y.length yc) he_9) <| jA (jr kx rfl) ?_
        refine jA (jc (c := f + ((y.length : Nat) : Int)) rfl rfl (wr (by omega))) <| jA (kO rfl rfl) <| jE <| jB <| jR (cB (dF h_18)) <| jT <| jB <| jF <| jA (jD (v := nv n) he_11) <| jA (jD (v := .slice a_3 ((linesOf t).length) c_4) he_10) ?_
        refine jA (jD (v := nv i) he_12) <| jA (jk (i := i) ku kt hr_14 hr_14b rfl rfl (by omega)) <| jK (ka 3 (v := str ((linesOf t).getD i [])) rfl rfl ki (atS (by omega))) <| jA (kF kg rfl) <| jA (jc (c := ((n + (((linesOf t).getD i []).length) : Nat) : Int)) rfl rfl (wr (by omega))) <| jA (jG (v := iv ((n + (((linesOf t).getD i []).length) : Nat) : Int)) rfl) <| jE <| jm <| jB <| jF ?_
        refine jA (jD (v := nv i) he_12) <| jA (jc (c := ((i + 1 : Nat) : Int)) rfl rfl (wr (by omega))) <| jA (jG (v := iv ((i + 1 : Nat) : Int)) rfl) <| jE <| kB [1, 1, 1] (A := [Res.rows (y.flatMap rdsR), Res.row (.slice ya y.length yc) 49 1 y.length (y.flatMap encR), rS a_3 c_4 (linesOf t)]) rfl ?_
        refine jq ((linesOf t).length - (i + 1)) (by omega) ⟨i + 1, n + (((linesOf t).getD i []).length), ya, yc, y, by omega, by omega, by omega, (recs_skip hlt h_17 (by omega) hR), he_6, he_7, he_8, he_9, he_10, rfl, rfl, rfl, rfl⟩
      refine jS (b := true) rfl rfl rfl (cB (cN h_17)) <| jS (b := true) rfl rfl rfl (cB (cN h_17)) <| jS (b := true) rfl rfl rfl (cB (cN h_17)) <| jS (b := true) rfl rfl rfl (cB (cN h_17)) <| jS (b := true) rfl rfl rfl (cB (cN h_17)) <| jS (b := true) rfl rfl rfl (cB (cN h_17)) <| jS (b := true) rfl rfl rfl (cB (cN h_17)) <| kP rfl rfl rfl rfl <| kP rfl rfl rfl rfl <| kP rfl rfl rfl rfl ?_
      refine kP rfl rfl rfl rfl <| kP rfl rfl rfl rfl <| kP rfl rfl rfl rfl <| kP rfl rfl rfl rfl <| kP rfl rfl rfl rfl <| jS (b := true) rfl rfl rfl (cB (cN h_17)) <| jA (jh (v := .bool true) (cB (cN h_17)) rfl) <| jE <| jB <| jW (cB rfl) ?_
      refine jx <| jb <| JQ.blockO rfl <| jb <| jb <| jy <| jB <| jC <| jF <| jA (jD (v := .slice ya y.length yc) he_9) ?_
      refine jA (jD (v := nv n) he_11) <| jA (jG (v := .slice ya y.length yc) rfl) <| jA (jG (v := nv n) rfl) <| jE <| jB <| jN <| ju (L' := [Res.rows (rdsRS ya yc y), Res.row (.slice a_15 ((readI ((linesOf t).getD i [])).2.1.length) c_16) 48 2 (((readI ((linesOf t).getD i [])).2.1).length) (((readI ((linesOf t).getD i [])).2.1).flatMap encC), rS a_3 c_4 (linesOf t)]) (fun w hw => hw.consR (r := ⟨.slice ya y.length yc, 49, 1, y.length, y.flatMap encR⟩) (A := y.flatMap rdsR) [2, 1] rfl) <| kC (.inl rfl) rfl (jJ (v := .slice ya y.length yc) rfl) (jJ (v := nv n) rfl) (tS 1 _) ?_
      have he := recs_bad hlt h_17 hR
      exact ⟨ya, yc, y, by rw [he] <;> rfl, by rw [he] <;> rfl, rfl⟩
    refine jR (cB (dF h_13)) <| jx <| jb <| jb <| jy <| jB <| jC <| jF <| jA (jD (v := .slice ya y.length yc) he_9) <| jA (jD (v := nv n) he_11) ?_
    refine jA (jG (v := .slice ya y.length yc) rfl) <| jA (jG (v := nv n) rfl) <| jE <| jB <| jN <| ju (L' := [Res.rows (rdsRS ya yc y), rS a_3 c_4 (linesOf t)]) (fun w hw => hw.consR (r := ⟨.slice ya y.length yc, 49, 1, y.length, y.flatMap encR⟩) (A := y.flatMap rdsR) [1, 0] rfl) <| kC (.inl rfl) rfl (jJ (v := .slice ya y.length yc) rfl) (jJ (v := nv n) rfl) (tS 1 _) ?_
    have he := recs_end (by omega) hR
    exact ⟨ya, yc, y, by rw [he] <;> rfl, by rw [he] <;> rfl, rfl⟩
  refine jW (cB (cN h_2)) <| jC <| jF <| jA (jD (v := .slice a_1 0 0) rfl) <| jA (jG (v := .slice a_1 0 0) rfl) <| jA (jG (v := iv 0) rfl) <| jE <| jB <| jN <| jX ?_
  refine ju (L' := [Res.rows (rdsRS a_1 0 ([] : List RX))]) (fun w hw => hw.closeR (A := rdsRS a_1 0 ([] : List RX)) [0] rfl) <| kC (.inl rfl) rfl (jJ (v := .slice a_1 0 0) rfl) (jJ (v := iv 0) rfl) (List.Sublist.refl _) ?_
  have he : recsOf t f = ([], 0) := by rw [recsOf, if_neg (by rw [h_2]; exact Bool.false_ne_true)]
  exact ⟨a_1, 0, [], by rw [he]; rfl, by rw [he] <;> rfl, rfl⟩

end Go.Proofs.YtjncpgcccgdeiaaGreatDoor

set_option linter.unusedSimpArgs false
set_option linter.unusedVariables false
set_option linter.unnecessarySimpa false
namespace Go.Proofs.YtjncpgcccgdeiaaGreatDoor
open Go Go.RowKit
attribute [local irreducible] JL JC JQ JO LO PO JA JX Ct
theorem Y_heldCellS (a : Option Addr) (c : Nat) (l : List Cell) (k : Nat) (h0 : 0 < k) (h1 : k + 2 * l.length ≤ 100000000) : Ct Tryz.prog 118 [.slice a l.length c, .int .i64 ((k : Nat) : Int)] [] (fun w => Sees w (.slice a l.length c) 2 l.length ((markC l k).flatMap encC)) (fun v A' => v = .int .i64 ((k + 2 * l.length : Nat) : Int) ∧ A' = []) :=
  (C_heldCellS a l.length c (markC l k) k (markC_len l k) h0 (by rw [markC_len]; omega)).weak (fun w h => by rw [markC_len]; exact h) fun v A' ⟨hv, hA⟩ => ⟨by rw [hv, heldC_mark], hA⟩

theorem E_szCellS (a : Option Addr) (c : Nat) (s : List Cell) (l : Int) (h0 : 0 ≤ l) (h1 : l ≤ 1048576) (hn : s.length ≤ 9223372036854775807) (hsz : ∀ j, j < s.length → (s.getD j c0).1.length ≤ 9223372036854775807 ∧ (s.getD j c0).2.length ≤ 9223372036854775807) :
    Ct Tryz.prog 139 [.slice a s.length c, .int .i64 l] [] (fun w => SeesE w (.slice a s.length c) 2 s.length (s.flatMap encC)) (fun r A' => r = .int .i64 (szCellS s l) ∧ A' = []) := by
  refine Ct.intro Tryz.func139 rfl Tryz.ntmps139 (lb rfl) fun w0 hpre => ?_
  have hs_a' : SeesE w0 _ _ _ _ := hpre
  refine jC <| jF <| jA (jG (v := iv 0) rfl) <| jE <| jB <| jC <| jF <| jA (jD (v := iv l) rfl) <| jA (jD (v := .slice a s.length c) rfl) <| jA (jr gL rfl) ?_
  refine jA (kZ (c := l - ((s.length : Nat) : Int)) rfl rfl (wr (by omega))) <| jA (jG (v := iv (l - ((s.length : Nat) : Int))) rfl) <| jE <| jB <| jC <| jC <| jF <| jA (jD (v := iv (l - ((s.length : Nat) : Int))) rfl) <| jA (jl rfl rfl) <| jE ?_
  refine jB ?_
  by_cases h_1 : (l - ((s.length : Nat) : Int)) < 0
  · refine jW (cB (dT h_1)) <| jC <| jF <| jA (jG (v := iv (-1)) rfl) <| jE <| jB <| jN <| jX <| jV (.inl rfl) rfl (jJ (v := iv (-1)) rfl) (List.nil_sublist _) ?_
    refine ⟨?_, rfl⟩
    rw [szCellS, if_pos (by omega)]
  refine jR (cB (dF h_1)) <| jT <| jB <| jC <| jC <| jF <| jA (jG (v := iv 0) rfl) <| jE <| jB <| jf ?_
  refine kD (fun k_ e_ L_ => ∃ j : Nat, ∃ l1 : Int, (j ≤ s.length) ∧ (0 ≤ l1) ∧ (l1 ≤ 1048576) ∧ (szCells (s.drop j) l1 = szCellS s l) ∧ e_ 0 = .slice a s.length c ∧ e_ 1 = iv l1 ∧ e_ 5 = nv j ∧ L_ = [] ∧ k_ = s.length - j) _ ⟨0, (l - (s.length : Int)), by omega, by omega, by omega, (by rw [szCellS, if_neg (by omega)]; rfl), rfl, rfl, rfl, rfl, rfl⟩ ?_
  rintro _ e_2 _ ⟨j, l1, hj, hl, hl2, hR, he_3, he_4, he_5, rfl, rfl⟩
  refine jC <| jC <| jF <| jA (jD (v := nv j) he_5) <| jA (jD (v := .slice a s.length c) he_3) <| jA (jr gL rfl) <| jA (jl rfl rfl) <| jE <| jB ?_
  by_cases h_6 : ((j : Nat) : Int) < ((s.length : Nat) : Int)
  · have hlt : j < s.length := by omega
    have hs_a : Sees w0 _ _ _ _ := hs_a'.full (by omega)
    refine jW (cB (dT h_6)) <| jT <| jB <| jC <| jf <| jC <| jF <| jA (jD (v := .slice a s.length c) he_3) <| jA (jD (v := nv j) he_5) ?_
    obtain ⟨hr_7, hr_7b, -⟩ := sees_some hs_a (by omega)
    refine jA (jk (i := j) gL Tryz.sizeOf160 hr_7 hr_7b rfl rfl (by omega)) <| jK (kX (vs := [str ((s.getD j c0).1), str ((s.getD j c0).2)]) hs_a nM rfl Tryz.isAgg160 Tryz.sizeOf160 (atC (by omega)) rfl (by decide)) <| jA (jD (v := iv l1) he_4) ?_
    refine jH rfl (jI [] Tryz.call160 rfl (C_szCell ((s.getD j c0).1) ((s.getD j c0).2) l1 (by omega) (by omega) (hsz j (by omega)).1 (hsz j (by omega)).2) rfl (fun _ _ => trivial)) ?_
    rintro _ _ ⟨_, ⟨rfl, rfl⟩, rfl⟩
    refine jA (jG (v := iv (szCell ((s.getD j c0).1) ((s.getD j c0).2) l1)) rfl) <| jE <| jB <| jC <| jF <| jA (jD (v := iv (szCell ((s.getD j c0).1) ((s.getD j c0).2) l1)) rfl) <| jA (jl rfl rfl) <| jE <| jB ?_
    by_cases h_8 : (szCell ((s.getD j c0).1) ((s.getD j c0).2) l1) < 0
    · have hneg := h_8
      refine jW (cB (dT h_8)) <| jC <| jF <| jA (jG (v := iv (-1)) rfl) <| jE <| jB <| jN <| jv <| jX <| jX ?_
      refine jv <| jX <| jV (.inl rfl) rfl (jJ (v := iv (-1)) rfl) (List.nil_sublist _) ?_
      refine ⟨?_, rfl⟩
      rw [szCells_step hlt, if_pos hneg] at hR
      rw [← hR]
    have hneg := h_8
    refine jR (cB (dF h_8)) <| jT <| jm <| jB <| jF <| jA (jD (v := nv j) he_5) <| jA (jc (c := ((j + 1 : Nat) : Int)) rfl rfl (wr (by omega))) <| jA (jG (v := iv ((j + 1 : Nat) : Int)) rfl) <| jE ?_
    refine jq (s.length - (j + 1)) (by omega) ⟨j + 1, szCell ((s.getD j c0).1) ((s.getD j c0).2) l1, by omega, by omega, by have := szCell_le (s.getD j c0).1 (s.getD j c0).2 l1 (by omega); omega, (by rw [szCells_step hlt, if_neg hneg] at hR; exact hR), he_3, rfl, rfl, rfl, rfl⟩
  refine jR (cB (dF h_6)) <| jx <| jb <| jb <| jy <| jB <| jC <| jF <| jA (jD (v := iv l1) he_4) <| jA (jG (v := iv l1) rfl) ?_
  refine jE <| jB <| jN <| jV (.inl rfl) rfl (jJ (v := iv l1) rfl) (List.nil_sublist _) ?_
  refine ⟨?_, rfl⟩
  rw [List.drop_of_length_le (by omega)] at hR
  rw [← hR]
  rfl

theorem E_toCellS (a : Option Addr) (c : Nat) (s : List Cell) (hn : s.length ≤ 1048576) :
    Ct Tryz.prog 141 [.slice a s.length c] [] (fun w => SeesE w (.slice a s.length c) 2 s.length (s.flatMap encC)) (fun r A' => ∃ a' c', r = .slice a' s.length c' ∧ A' = [.row (.slice a' s.length c') 48 2 s.length (s.flatMap encC)]) := by
  refine Ct.intro Tryz.func141 rfl Tryz.ntmps141 (lb rfl) fun w0 hpre => ?_
  have hs_a' : SeesE w0 _ _ _ _ := hpre
  refine jC <| jF <| jA (jG (v := .slice none 0 0) rfl) <| jE <| jB <| jC <| jF <| jA (jD (v := .slice a s.length c) rfl) <| jA (jr gL rfl) ?_
  refine jH rfl (JO.makeSlice (z := .agg #[str [], str []]) (zc := [str [], str []]) (m := s.length) kf ky rfl rfl rfl rfl rfl (by unfold maxLen; omega) (by show 32 * _ ≤ _; omega)) ?_
  rintro _ _ ⟨a_1, rfl, rfl⟩
  refine jA (jG (v := .slice a_1 s.length s.length) rfl) <| jE <| jB <| jC <| jC <| jF <| jA (jG (v := iv 0) rfl) <| jE <| jB <| jf ?_
  refine kD (fun k_ e_ L_ => ∃ j : Nat, (j ≤ s.length) ∧ e_ 0 = .slice a s.length c ∧ e_ 2 = .slice none 0 0 ∧ e_ 3 = .slice a_1 s.length s.length ∧ e_ 4 = nv j ∧ L_ = [Res.row (.slice a_1 s.length s.length) 48 2 s.length ((s.take j ++ List.replicate (s.length - j) c0).flatMap encC)] ∧ k_ = s.length - j) _ ⟨0, by omega, rfl, rfl, rfl, rfl, (by rw [replC]; rfl), rfl⟩ ?_
  rintro _ e_2 _ ⟨j, hj, he_3, he_4, he_5, he_6, rfl, rfl⟩
  refine jC <| jC <| jF <| jA (jD (v := nv j) he_6) <| jA (jD (v := .slice a s.length c) he_3) <| jA (jr gL rfl) <| jA (jl rfl rfl) <| jE <| jB ?_
  by_cases h_7 : ((j : Nat) : Int) < ((s.length : Nat) : Int)
  · have hlt : j < s.length := by omega
    have hs_a : Sees w0 _ _ _ _ := hs_a'.full (by omega)
    refine jW (cB (dT h_7)) <| jT <| jB <| jC <| jf <| jF <| jA (jD (v := .slice a_1 s.length s.length) he_5) <| jA (jD (v := nv j) he_6) <| jA (jD (v := .slice a s.length c) he_3) <| jA (jD (v := nv j) he_6) ?_
    obtain ⟨hr_8, hr_8b, -⟩ := sees_some hs_a (by omega)
    refine jA (jk (i := j) gL Tryz.sizeOf160 hr_8 hr_8b rfl rfl (by omega)) <| jK (kX (vs := [str ((s.getD j c0).1), str ((s.getD j c0).2)]) hs_a nM rfl Tryz.isAgg160 Tryz.sizeOf160 (atC (by omega)) rfl (by decide)) ?_
    refine jH rfl (jI [] Tryz.call161 rfl (C_toCell ((s.getD j c0).1) ((s.getD j c0).2)) rfl (fun _ _ => trivial)) ?_
    rintro _ _ ⟨_, ⟨rfl, rfl⟩, rfl⟩
    refine kN fun hst => ?_
    obtain ⟨hr_9, hr_9b, -⟩ := row_some 0 rfl (by omega) hst
    refine jA (jk (i := j) kf kh hr_9 hr_9b rfl rfl (by omega)) ?_
    refine jH rfl (JO.storeR 0 (vs := [str ((s.getD j c0).1), str ((s.getD j c0).2)]) (cs' := ((s.take j ++ List.replicate (s.length - j) c0).set j ((s.getD j c0).1, (s.getD j c0).2)).flatMap encC) rfl rfl rfl rfl kh rfl rfl (by decide) (by rw [lenC]; rw [fill_len c0 hj]; omega) (setC (by rw [fill_len c0 hj]; omega))) ?_
    rintro _ _ rfl
    refine jE <| jm <| jB <| jF <| jA (jD (v := nv j) he_6) <| jA (jc (c := ((j + 1 : Nat) : Int)) rfl rfl (wr (by omega))) <| jA (jG (v := iv ((j + 1 : Nat) : Int)) rfl) <| jE ?_
    refine jq (s.length - (j + 1)) (by omega) ⟨j + 1, by omega, he_3, he_4, he_5, rfl, (by rw [← fill_step c0 hlt]; rfl), rfl⟩
  refine jR (cB (dF h_7)) <| jx <| jb <| jb <| jy <| jB <| jC <| jF <| jA (jD (v := .slice a_1 s.length s.length) he_5) <| jA (jG (v := .slice a_1 s.length s.length) rfl) ?_
  refine jE <| jB <| jN <| jV (.inl rfl) rfl (jJ (v := .slice a_1 s.length s.length) rfl) (List.Sublist.refl _) ?_
  exact ⟨_, _, rfl, by rw [fill_done c0 (by omega)]⟩

theorem C_szSlot (p : OX) (l : Int) (h0 : 0 ≤ l) (h1 : l ≤ 1048576) (hz : p.t.okz) :
    Ct Tryz.prog 104 [.agg #[.int .i64 p.t.seq, .slice p.x.a0 p.t.cells.length p.x.c0, .bool p.t.whole], .int .i64 l] [] (fun w => SeesAE w (rdsO p)) (fun r A' => r = .int .i64 (szSlotF p.t l) ∧ A' = []) := by
  refine Ct.intro Tryz.func104 rfl Tryz.ntmps104 (lb rfl) fun w0 hpre => ?_
  have hs_1 := seesOE hpre
  refine jC <| jF ?_
  refine jH rfl (kG (cs := [iv p.t.seq, .slice p.x.a0 p.t.cells.length p.x.c0, .bool p.t.whole]) rfl rfl) ?_
  rintro _ _ ⟨b_2, rfl, rfl⟩
  refine jA (jG (v := iv 0) rfl) <| jE <| jB <| jC <| jF <| jA (jQ fo118_1 rfl) <| jK (jZ 0 (v := .slice p.x.a0 p.t.cells.length p.x.c0) rfl rfl Tryz.isAgg116 rfl) <| jA (jD (v := iv l) rfl) ?_
  refine jH rfl (jI [] Tryz.call139 rfl (E_szCellS p.x.a0 p.x.c0 p.t.cells l (by omega) (by omega) hz.k0.1 hz.k0.2) rfl (fun w hw => hw.seeOutE hs_1 nM)) ?_
  rintro _ _ ⟨_, ⟨rfl, rfl⟩, rfl⟩
  have hle_3 := szCellS_le p.t.cells l (by omega)
  refine jA (jG (v := iv (szCellS p.t.cells l)) rfl) <| jE <| jB <| jC <| jC <| jF <| jA (jD (v := iv (szCellS p.t.cells l)) rfl) <| jA (jl rfl rfl) <| jE <| jB ?_
  by_cases h_4 : (szCellS p.t.cells l) < 0
  · refine jW (cB (dT h_4)) <| jC <| jF <| jA (jG (v := iv (-1)) rfl) <| jE <| jB <| jN <| jX <| jV (.inl rfl) rfl (jJ (v := iv (-1)) rfl) (List.nil_sublist _) ?_
    refine ⟨congrArg (Value.int .i64) ?_, rfl⟩
    simp only [szSlotF, chk, id_eq]
    (repeat (first | rw [if_pos (by omega)] | rw [if_neg (by omega)]))
  refine jR (cB (dF h_4)) <| jT <| jB <| jC <| jF <| jA (jD (v := iv (szCellS p.t.cells l)) rfl) <| jA (jG (v := iv (szCellS p.t.cells l)) rfl) <| jE <| jB <| jN ?_
  refine jV (.inl rfl) rfl (jJ (v := iv (szCellS p.t.cells l)) rfl) (List.nil_sublist _) ?_
  refine ⟨congrArg (Value.int .i64) ?_, rfl⟩
  simp only [szSlotF, chk, id_eq]
  (repeat (first | rw [if_pos (by omega)] | rw [if_neg (by omega)]))

theorem C_toSlot (p : OX) (hl : p.t.lim 1048576) :
    Ct Tryz.prog 108 [.agg #[.int .i64 p.t.seq, .slice p.x.a0 p.t.cells.length p.x.c0, .bool p.t.whole]] [] (fun w => SeesAE w (rdsO p)) (fun v A' => ∃ y : OX, y.t = p.t ∧ v = .agg #[.int .i64 y.t.seq, .slice y.x.a0 y.t.cells.length y.x.c0, .bool y.t.whole] ∧ A' = [.rows (rdsO y)]) := by
  obtain ⟨hb0⟩ := hl
  refine Ct.intro Tryz.func108 rfl Tryz.ntmps108 (lb rfl) fun w0 hpre => ?_
  have hs_1 := seesOE hpre
  refine jC <| jF ?_
  refine jH rfl (kG (cs := [iv p.t.seq, .slice p.x.a0 p.t.cells.length p.x.c0, .bool p.t.whole]) rfl rfl) ?_
  rintro _ _ ⟨b_2, rfl, rfl⟩
  refine jH rfl (jo (z := .agg #[iv 0, .slice none 0 0, .bool false]) (cs := [iv 0, .slice none 0 0, .bool false]) gD rfl) ?_
  rintro _ _ ⟨b_3, rfl, rfl⟩
  refine jE <| jB <| jC <| jF ?_
  refine jH rfl (jo (z := .agg #[iv 0, .slice none 0 0, .bool false]) (cs := [iv 0, .slice none 0 0, .bool false]) gD rfl) ?_
  rintro _ _ ⟨b_4, rfl, rfl⟩
  refine jE <| jB <| jC <| jF <| jA (jQ fo118_0 rfl) <| jK (jZ 2 (v := iv p.t.seq) rfl rfl kq rfl) <| jA (jQ fo60_0 rfl) ?_
  refine jH rfl (ja 0 (vs := [iv p.t.seq]) (cs' := [iv p.t.seq, .slice none 0 0, .bool false]) rfl rfl rfl rfl gA rfl rfl (lb rfl) rfl) ?_
  rintro _ _ rfl
  refine jE <| jB <| jC <| jF <| jA (jQ fo118_1 rfl) <| jK (jZ 2 (v := .slice p.x.a0 p.t.cells.length p.x.c0) rfl rfl Tryz.isAgg116 rfl) ?_
  refine jH rfl (jI [] Tryz.call141 rfl (E_toCellS p.x.a0 p.x.c0 p.t.cells (by omega)) rfl (fun w hw => hw.seeOutE hs_1 nM)) ?_
  rintro _ _ ⟨_, ⟨a_5, c_6, rfl, rfl⟩, rfl⟩
  refine jA (jQ fo60_1 rfl) ?_
  refine jH rfl (ja 1 (vs := [.slice a_5 p.t.cells.length c_6]) (cs' := [iv p.t.seq, .slice a_5 p.t.cells.length c_6, .bool false]) rfl rfl rfl rfl gM rfl rfl (lb rfl) rfl) ?_
  rintro _ _ rfl
  refine jE <| jB <| jC <| jF <| jA (jQ fo118_2 rfl) <| jK (jZ 3 (v := .bool p.t.whole) rfl rfl gI rfl) <| jA (jQ fo60_2 rfl) ?_
  refine jH rfl (ja 1 (vs := [.bool p.t.whole]) (cs' := [iv p.t.seq, .slice a_5 p.t.cells.length c_6, .bool p.t.whole]) rfl rfl rfl rfl Tryz.sizeOf4 rfl rfl (lb rfl) rfl) ?_
  rintro _ _ rfl
  refine jE <| jB <| jC <| jF <| jK (jO 1 (vs := [iv p.t.seq, .slice a_5 p.t.cells.length c_6, .bool p.t.whole]) rfl rfl gB kj rfl rfl) ?_
  refine jH rfl (ja 2 (vs := [iv p.t.seq, .slice a_5 p.t.cells.length c_6, .bool p.t.whole]) (cs' := [iv p.t.seq, .slice a_5 p.t.cells.length c_6, .bool p.t.whole]) rfl rfl rfl rfl kj rfl rfl (lb rfl) rfl) ?_
  rintro _ _ rfl
  refine jE <| jB <| jN <| ju (L' := [Res.rows (rdsO (⟨⟨a_5, c_6⟩, p.t⟩ : OX)), bk b_4 60 [iv p.t.seq, .slice a_5 p.t.cells.length c_6, .bool p.t.whole], bk b_3 60 [iv p.t.seq, .slice a_5 p.t.cells.length c_6, .bool p.t.whole], bk b_2 118 [iv p.t.seq, .slice p.x.a0 p.t.cells.length p.x.c0, .bool p.t.whole]]) (fun w hw => hw.closeR (A := rdsO (⟨⟨a_5, c_6⟩, p.t⟩ : OX)) [0] rfl) <| jV (.inl rfl) rfl (kA (jO 2 (vs := [iv p.t.seq, .slice a_5 p.t.cells.length c_6, .bool p.t.whole]) rfl rfl gB kj rfl rfl) ⟨_, rfl⟩) (tS 1 _) ?_
  exact ⟨(⟨⟨a_5, c_6⟩, p.t⟩ : OX), rfl, rfl, rfl⟩

theorem C_eqSlot (p q : OX) (hl : p.t.lim 1000000000) :
    Ct Tryz.prog 116 [.agg #[.int .i64 p.t.seq, .slice p.x.a0 p.t.cells.length p.x.c0, .bool p.t.whole], .agg #[.int .i64 q.t.seq, .slice q.x.a0 q.t.cells.length q.x.c0, .bool q.t.whole]] [] (fun w => SeesA w (rdsO p) ∧ SeesA w (rdsO q)) (fun v A' => v = .bool (decide (p.t = q.t)) ∧ A' = []) := by
  obtain ⟨hb0⟩ := hl
  refine Ct.intro Tryz.func116 rfl Tryz.ntmps116 (lb rfl) fun w0 hpre => ?_
  have hs_1 := seesO hpre.1
  have hs_2 := seesO hpre.2
  refine jC <| jF ?_
  refine jH rfl (kG (cs := [iv p.t.seq, .slice p.x.a0 p.t.cells.length p.x.c0, .bool p.t.whole]) rfl rfl) ?_
  rintro _ _ ⟨b_3, rfl, rfl⟩
  refine jH rfl (kG (cs := [iv q.t.seq, .slice q.x.a0 q.t.cells.length q.x.c0, .bool q.t.whole]) rfl rfl) ?_
  rintro _ _ ⟨b_4, rfl, rfl⟩
  refine jA (jG (v := .bool false) rfl) <| jE <| jB <| jC <| jC <| jF <| jA (jQ fo60_0 rfl) <| jK (jZ 1 (v := iv p.t.seq) rfl rfl kq rfl) <| jA (jQ fo60_0 rfl) <| jK (jZ 0 (v := iv q.t.seq) rfl rfl kq rfl) ?_
  refine jA (kS rfl rfl) <| jE <| jB ?_
  by_cases h_5 : p.t.seq = q.t.seq
  · refine jR (cB (cN (dT h_5))) <| jT <| jB <| jC <| jC <| jF <| jA (jQ fo60_1 rfl) <| jK (jZ 1 (v := .slice p.x.a0 p.t.cells.length p.x.c0) rfl rfl kz rfl) <| jA (jQ fo60_1 rfl) <| jK (jZ 0 (v := .slice q.x.a0 q.t.cells.length q.x.c0) rfl rfl kz rfl) ?_
    refine jH rfl (jI [] Tryz.call149 rfl (C_eqCellS p.x.a0 q.x.a0 p.x.c0 q.x.c0 p.t.cells q.t.cells (by omega)) rfl (fun w hw => ⟨hw.seeOut_ hs_1 nM, hw.seeOut_ hs_2 nM⟩)) ?_
    rintro _ _ ⟨_, ⟨rfl, rfl⟩, rfl⟩
    refine jA (jp rfl) <| jE <| jB ?_
    by_cases h_6 : p.t.cells = q.t.cells
    · refine jR (cB (cN (dT h_6))) <| jT <| jB <| jC <| jC <| jF <| jA (jQ fo60_2 rfl) <| jK (jZ 1 (v := .bool p.t.whole) rfl rfl gI rfl) <| jA (jQ fo60_2 rfl) <| jK (jZ 0 (v := .bool q.t.whole) rfl rfl gI rfl) ?_
      refine jA (PO.neqB gJ rfl rfl) <| jE <| jB ?_
      by_cases h_7 : p.t.whole = q.t.whole
      · refine jR (cB (cN (dT h_7))) <| jT <| jB <| jC <| jF <| jA (jG (v := .bool true) rfl) <| jE <| jB <| jN <| jV (.inl rfl) rfl (jJ (v := .bool true) rfl) (List.nil_sublist _) ?_
        exact ⟨cB (dT (SD.same.2 ⟨by assumption, by assumption, by assumption⟩)).symm, rfl⟩
      refine jW (cB (cN (dF h_7))) <| jC <| jF <| jA (jG (v := .bool false) rfl) <| jE <| jB <| jN <| jX <| jV (.inl rfl) rfl (jJ (v := .bool false) rfl) (List.nil_sublist _) ?_
      exact ⟨cB (dF (fun h_ => by obtain ⟨h_0, h_1, h_2⟩ := SD.same.1 h_; first | contradiction | (exact absurd ⟨h_6, h_7⟩ ‹¬(_ ∧ _)›))).symm, rfl⟩
    refine jW (cB (cN (dF h_6))) <| jC <| jF <| jA (jG (v := .bool false) rfl) <| jE <| jB <| jN <| jX <| jV (.inl rfl) rfl (jJ (v := .bool false) rfl) (List.nil_sublist _) ?_
    exact ⟨cB (dF (fun h_ => by obtain ⟨h_0, h_1, h_2⟩ := SD.same.1 h_; first | contradiction | (exact absurd ⟨h_6, h_7⟩ ‹¬(_ ∧ _)›))).symm, rfl⟩
  refine jW (cB (cN (dF h_5))) <| jC <| jF <| jA (jG (v := .bool false) rfl) <| jE <| jB <| jN <| jX <| jV (.inl rfl) rfl (jJ (v := .bool false) rfl) (List.nil_sublist _) ?_
  exact ⟨cB (dF (fun h_ => by obtain ⟨h_0, h_1, h_2⟩ := SD.same.1 h_; first | contradiction | (exact absurd ⟨h_6, h_7⟩ ‹¬(_ ∧ _)›))).symm, rfl⟩

theorem C_szSlotS (a : Option Addr) (c : Nat) (s : List OX) (l : Int) (h0 : 0 ≤ l) (h1 : l ≤ 1048576) (hn : s.length ≤ 9223372036854775807) (hse : ∀ j, j < s.length → (s.getD j o0).t.okz) :
    Ct Tryz.prog 54 [.slice a s.length c, .int .i64 l] [] (fun w => SeesAE w (rdsOS a c s)) (fun r A' => r = .int .i64 (szLS szSlotF (s.map OX.t) l) ∧ A' = []) := by
  refine Ct.intro Tryz.func54 rfl Tryz.ntmps54 (lb rfl) fun w0 hpre => ?_
  have hs_1 : SeesE w0 (.slice a s.length c) 3 s.length (s.flatMap encO) := (hpre).head
  have hi_2 : SeesAE w0 (s.flatMap rdsO) := (hpre).tail
  refine jC <| jF <| jA (jG (v := iv 0) rfl) <| jE <| jB <| jC <| jF <| jA (jD (v := iv l) rfl) <| jA (jD (v := .slice a s.length c) rfl) <| jA (jr Tryz.underlying22 rfl) ?_
  refine jA (kZ (c := l - ((s.length : Nat) : Int)) rfl rfl (wr (by omega))) <| jA (jG (v := iv (l - ((s.length : Nat) : Int))) rfl) <| jE <| jB <| jC <| jC <| jF <| jA (jD (v := iv (l - ((s.length : Nat) : Int))) rfl) <| jA (jl rfl rfl) <| jE ?_
  refine jB ?_
  by_cases h_3 : (l - ((s.length : Nat) : Int)) < 0
  · refine jW (cB (dT h_3)) <| jC <| jF <| jA (jG (v := iv (-1)) rfl) <| jE <| jB <| jN <| jX <| jV (.inl rfl) rfl (jJ (v := iv (-1)) rfl) (List.nil_sublist _) ?_
    refine ⟨?_, rfl⟩
    rw [szLS, List.length_map, if_pos (by omega)]
  refine jR (cB (dF h_3)) <| jT <| jB <| jC <| jC <| jF <| jA (jG (v := iv 0) rfl) <| jE <| jB <| jf ?_
  refine kD (fun k_ e_ L_ => ∃ j : Nat, ∃ l1 : Int, (j ≤ s.length) ∧ (0 ≤ l1) ∧ (l1 ≤ 1048576) ∧ (szL szSlotF ((s.map OX.t).drop j) l1 = szLS szSlotF (s.map OX.t) l) ∧ e_ 0 = .slice a s.length c ∧ e_ 1 = iv l1 ∧ e_ 5 = nv j ∧ L_ = [] ∧ k_ = s.length - j) _ ⟨0, (l - (s.length : Int)), by omega, by omega, by omega, (by rw [szLS, List.length_map, if_neg (by omega)]; rfl), rfl, rfl, rfl, rfl, rfl⟩ ?_
  rintro _ e_4 _ ⟨j, l1, hj, hl, hl2, hR, he_5, he_6, he_7, rfl, rfl⟩
  refine jC <| jC <| jF <| jA (jD (v := nv j) he_7) <| jA (jD (v := .slice a s.length c) he_5) <| jA (jr Tryz.underlying22 rfl) <| jA (jl rfl rfl) <| jE <| jB ?_
  by_cases h_8 : ((j : Nat) : Int) < ((s.length : Nat) : Int)
  · have hlt : j < s.length := by omega
    have hf_9 := SeesE.full hs_1 (by omega)
    refine jW (cB (dT h_8)) <| jT <| jB <| jC <| jf <| jC <| jF <| jA (jD (v := .slice a s.length c) he_5) <| jA (jD (v := nv j) he_7) ?_
    obtain ⟨hr_10, hr_10b, -⟩ := sees_some hf_9 (by omega)
    refine jA (jk (i := j) Tryz.underlying22 Tryz.sizeOf118 hr_10 hr_10b rfl rfl (by omega)) ?_
    have hi_11 := SeesAE.elem hi_2 o0 (show j < s.length by omega)
    have hs_12 := seesOE hi_11
    refine jK (kX (vs := [iv ((s.getD j o0).t.seq), .slice ((s.getD j o0).x.a0) ((s.getD j o0).t.cells.length) ((s.getD j o0).x.c0), .bool ((s.getD j o0).t.whole)]) hf_9 nM rfl Tryz.isAgg118 Tryz.sizeOf118 (flat_take encO_len o0 s j (by omega)) rfl (by decide)) <| jA (jD (v := iv l1) he_6) ?_
    refine jH rfl (jI [] Tryz.call104 rfl (C_szSlot (s.getD j o0) l1 (by omega) (by omega) (hse j hlt)) rfl (fun w hw => hw.seeOutAE hi_11 nMA)) ?_
    rintro _ _ ⟨_, ⟨rfl, rfl⟩, rfl⟩
    have hle_13 := szSlotF_le (s.getD j o0).t l1 (by omega)
    refine jA (jG (v := iv (szSlotF (s.getD j o0).t l1)) rfl) <| jE <| jB <| jC <| jF <| jA (jD (v := iv (szSlotF (s.getD j o0).t l1)) rfl) <| jA (jl rfl rfl) <| jE <| jB ?_
    by_cases h_14 : (szSlotF (s.getD j o0).t l1) < 0
    · have hneg := h_14
      refine jW (cB (dT h_14)) <| jC <| jF <| jA (jG (v := iv (-1)) rfl) <| jE <| jB <| jN <| jv <| jX <| jX ?_
      refine jv <| jX <| jV (.inl rfl) rfl (jJ (v := iv (-1)) rfl) (List.nil_sublist _) ?_
      refine ⟨?_, rfl⟩
      rw [szL_stepM o0 hlt, if_pos hneg] at hR
      rw [← hR]
    have hneg := h_14
    refine jR (cB (dF h_14)) <| jT <| jm <| jB <| jF <| jA (jD (v := nv j) he_7) <| jA (jc (c := ((j + 1 : Nat) : Int)) rfl rfl (wr (by omega))) <| jA (jG (v := iv ((j + 1 : Nat) : Int)) rfl) <| jE ?_
    refine jq (s.length - (j + 1)) (by omega) ⟨j + 1, szSlotF (s.getD j o0).t l1, by omega, by omega, by omega, (by rw [szL_stepM o0 hlt, if_neg hneg] at hR; exact hR), he_5, rfl, rfl, rfl, rfl⟩
  refine jR (cB (dF h_8)) <| jx <| jb <| jb <| jy <| jB <| jC <| jF <| jA (jD (v := iv l1) he_6) <| jA (jG (v := iv l1) rfl) ?_
  refine jE <| jB <| jN <| jV (.inl rfl) rfl (jJ (v := iv l1) rfl) (List.nil_sublist _) ?_
  refine ⟨?_, rfl⟩
  rw [List.drop_of_length_le (by rw [List.length_map]; omega)] at hR
  rw [← hR]
  rfl

theorem C_toSlotS (a : Option Addr) (c : Nat) (s : List OX) (hn : s.length ≤ 1048576) (hl : ∀ q ∈ s, q.t.lim 1048576) :
    Ct Tryz.prog 60 [.slice a s.length c] [] (fun w => SeesAE w (rdsOS a c s)) (fun r A' => ∃ a' c' y, y.map OX.t = s.map OX.t ∧ r = .slice a' y.length c' ∧ A' = [.rows (rdsOS a' c' y)]) := by
  refine Ct.intro Tryz.func60 rfl Tryz.ntmps60 (lb rfl) fun w0 hpre => ?_
  have hs_1 : SeesE w0 (.slice a s.length c) 3 s.length (s.flatMap encO) := (hpre).head
  have hi_2 : SeesAE w0 (s.flatMap rdsO) := (hpre).tail
  refine jC <| jF <| jA (jG (v := .slice none 0 0) rfl) <| jE <| jB <| jC <| jF <| jA (jD (v := .slice a s.length c) rfl) <| jA (jr Tryz.underlying22 rfl) ?_
  refine jH rfl (JO.makeSlice (z := .agg #[iv 0, .slice none 0 0, .bool false]) (zc := [iv 0, .slice none 0 0, .bool false]) (m := s.length) km Tryz.typeInfo60 rfl rfl rfl rfl rfl (by unfold maxLen; omega) (by show 40 * _ ≤ _; omega)) ?_
  rintro _ _ ⟨a_3, rfl, rfl⟩
  refine jA (jG (v := .slice a_3 s.length s.length) rfl) <| jE <| jB <| jC <| jC <| jF <| jA (jG (v := iv 0) rfl) <| jE <| jB <| jf ?_
  refine kT (L' := [Res.row (.slice a_3 s.length s.length) 60 3 s.length ((List.replicate s.length o0).flatMap encO), Res.rows (([] : List OX).flatMap rdsO)]) (fun w hw => St.rowsNil' (hw.eqL (by rw [flatO]; rfl))) <| kD (fun k_ e_ L_ => ∃ j : Nat, ∃ y : List OX, (j ≤ s.length) ∧ (y.map OX.t = (s.take j).map OX.t) ∧ e_ 0 = .slice a s.length c ∧ e_ 2 = .slice none 0 0 ∧ e_ 3 = .slice a_3 s.length s.length ∧ e_ 4 = nv j ∧ L_ = [Res.row (.slice a_3 s.length s.length) 60 3 s.length ((y ++ List.replicate (s.length - j) o0).flatMap encO), Res.rows (y.flatMap rdsO)] ∧ k_ = s.length - j) _ ⟨0, ([] : List OX), by omega, rfl, rfl, rfl, rfl, rfl, rfl, rfl⟩ ?_
  rintro _ e_4 _ ⟨j, y, hj, hd, he_5, he_6, he_7, he_8, rfl, rfl⟩
  refine jC <| jC <| jF <| jA (jD (v := nv j) he_8) <| jA (jD (v := .slice a s.length c) he_5) <| jA (jr Tryz.underlying22 rfl) <| jA (jl rfl rfl) <| jE <| jB ?_
  by_cases h_9 : ((j : Nat) : Int) < ((s.length : Nat) : Int)
  · have hlt : j < s.length := by omega
    have hf_10 := SeesE.full hs_1 (by omega)
    refine jW (cB (dT h_9)) <| jT <| jB <| jC <| jf <| jF <| jA (jD (v := .slice a_3 s.length s.length) he_7) <| jA (jD (v := nv j) he_8) <| jA (jD (v := .slice a s.length c) he_5) <| jA (jD (v := nv j) he_8) ?_
    obtain ⟨hr_11, hr_11b, -⟩ := sees_some hf_10 (by omega)
    refine jA (jk (i := j) Tryz.underlying22 Tryz.sizeOf118 hr_11 hr_11b rfl rfl (by omega)) ?_
    have hi_12 := SeesAE.elem hi_2 o0 (show j < s.length by omega)
    have hs_13 := seesOE hi_12
    refine jK (kX (vs := [iv ((s.getD j o0).t.seq), .slice ((s.getD j o0).x.a0) ((s.getD j o0).t.cells.length) ((s.getD j o0).x.c0), .bool ((s.getD j o0).t.whole)]) hf_10 nM rfl Tryz.isAgg118 Tryz.sizeOf118 (flat_take encO_len o0 s j (by omega)) rfl (by decide)) ?_
    refine jH rfl (jI [] Tryz.call108 rfl (C_toSlot (s.getD j o0) (hl _ (getD_mem hlt))) rfl (fun w hw => hw.seeOutAE hi_12 nMA)) ?_
    rintro _ _ ⟨_, ⟨y_14, hy_15, rfl, rfl⟩, rfl⟩
    refine kN fun hst => ?_
    obtain ⟨hr_16, hr_16b, -⟩ := row_some 1 rfl (by omega) hst
    refine jA (jk (i := j) km kj hr_16 hr_16b rfl rfl (by omega)) ?_
    refine jH rfl (JO.storeR 1 (vs := [iv y_14.t.seq, .slice y_14.x.a0 y_14.t.cells.length y_14.x.c0, .bool y_14.t.whole]) (cs' := ((y ++ List.replicate (s.length - j) o0).set j y_14).flatMap encO) rfl rfl rfl rfl kj rfl rfl (by decide) (by rw [flat_length encO_len]; rw [List.length_append, List.length_replicate, map_len hd hj]; omega) (flat_set encO_len (y ++ List.replicate (s.length - j) o0) j y_14 (by rw [List.length_append, List.length_replicate, map_len hd hj]; omega))) ?_
    rintro _ _ rfl
    refine jE <| jm <| jB <| jF <| jA (jD (v := nv j) he_8) <| jA (jc (c := ((j + 1 : Nat) : Int)) rfl rfl (wr (by omega))) <| jA (jG (v := iv ((j + 1 : Nat) : Int)) rfl) <| jE <| ju (L' := [Res.rows ((y ++ [y_14]).flatMap rdsO), Res.row (.slice a_3 s.length s.length) 60 3 s.length (((y ++ List.replicate (s.length - j) o0).set j y_14).flatMap encO)]) (fun w hw => hw.addR [2, 0] rfl flatMap_snoc) <| ju (L' := [Res.rows ((y ++ [y_14]).flatMap rdsO), Res.row (.slice a_3 s.length s.length) 60 3 s.length (((y ++ [y_14]) ++ List.replicate (s.length - (j + 1)) o0).flatMap encO)]) (fun w hw => hw.eqL (by rw [fillV_step (map_len hd hj) hlt])) ?_
    refine kB [1, 0] (A := [Res.row (.slice a_3 s.length s.length) 60 3 s.length (((y ++ [y_14]) ++ List.replicate (s.length - (j + 1)) o0).flatMap encO), Res.rows ((y ++ [y_14]).flatMap rdsO)]) rfl ?_
    refine jq (s.length - (j + 1)) (by omega) ⟨j + 1, (y ++ [y_14]), by omega, (map_take_succ o0 hd hlt hy_15), he_5, he_6, he_7, rfl, rfl, rfl⟩
  refine jR (cB (dF h_9)) <| jx <| jb <| jb <| jy <| jB <| jC <| jF <| jA (jD (v := .slice a_3 s.length s.length) he_7) <| jA (jG (v := .slice a_3 s.length s.length) rfl) ?_
  refine jE <| jB <| jN ?_
  have hly := map_len hd hj
  obtain rfl : j = s.length := by omega
  refine ju (L' := [Res.row (.slice a_3 y.length s.length) 60 3 y.length (y.flatMap encO), Res.rows (y.flatMap rdsO)]) (fun w hw => hw.eqL (by simp only [Nat.sub_self, List.replicate_zero, List.append_nil, hly])) <| ju (L' := [Res.rows (rdsOS a_3 s.length y)]) (fun w hw => hw.consR (r := ⟨.slice a_3 y.length s.length, 60, 3, y.length, y.flatMap encO⟩) (A := y.flatMap rdsO) [0, 0] rfl) <| jV (.inl rfl) rfl (jJ (v := .slice a_3 s.length s.length) rfl) (List.Sublist.refl _) ?_
  exact ⟨a_3, s.length, y, map_all hd (Nat.le_refl _), by rw [hly], rfl⟩

theorem C_eqSlotS (a b : Option Addr) (c c' : Nat) (s t : List OX) (hn : s.length ≤ 9223372036854775807) (hl : ∀ q ∈ s, q.t.lim 1000000000) :
    Ct Tryz.prog 65 [.slice a s.length c, .slice b t.length c'] [] (fun w => SeesA w (rdsOS a c s) ∧ SeesA w (rdsOS b c' t)) (fun r A' => r = .bool (decide (s.map OX.t = t.map OX.t)) ∧ A' = []) := by
  refine Ct.intro Tryz.func65 rfl Tryz.ntmps65 (lb rfl) fun w0 hpre => ?_
  have hs_1 : Sees w0 (.slice a s.length c) 3 s.length (s.flatMap encO) := (hpre.1).head
  have hi_2 : SeesA w0 (s.flatMap rdsO) := (hpre.1).tail
  have hs_3 : Sees w0 (.slice b t.length c') 3 t.length (t.flatMap encO) := (hpre.2).head
  have hi_4 : SeesA w0 (t.flatMap rdsO) := (hpre.2).tail
  refine jC <| jF <| jA (jG (v := .bool false) rfl) <| jE <| jB <| jC <| jC <| jF <| jA (jD (v := .slice a s.length c) rfl) <| jA (jr km rfl) ?_
  refine jA (jD (v := .slice b t.length c') rfl) <| jA (jr km rfl) <| jA (kS rfl rfl) <| jE <| jB ?_
  by_cases h_5 : ((s.length : Nat) : Int) = ((t.length : Nat) : Int)
  · have hlen := h_5
    refine jR (cB (cN (dT h_5))) <| jT <| jB <| jC <| jC <| jF <| jA (jG (v := iv 0) rfl) <| jE <| jB <| jf ?_
    refine kD (fun k_ e_ L_ => ∃ j : Nat, (j ≤ s.length) ∧ ((s.take j).map OX.t = (t.take j).map OX.t) ∧ (s.length = t.length) ∧ e_ 0 = .slice a s.length c ∧ e_ 1 = .slice b t.length c' ∧ e_ 5 = nv j ∧ L_ = [] ∧ k_ = s.length - j) _ ⟨0, by omega, rfl, by omega, rfl, rfl, rfl, rfl, rfl⟩ ?_
    rintro _ e_6 _ ⟨j, hj, hE, hln, he_7, he_8, he_9, rfl, rfl⟩
    refine jC <| jC <| jF <| jA (jD (v := nv j) he_9) <| jA (jD (v := .slice a s.length c) he_7) <| jA (jr km rfl) <| jA (jl rfl rfl) <| jE <| jB ?_
    by_cases h_10 : ((j : Nat) : Int) < ((s.length : Nat) : Int)
    · have hlt : j < s.length := by omega
      refine jW (cB (dT h_10)) <| jT <| jB <| jC <| jf <| jC <| kJ [] 1000 mixed (by simp) <| jL 0 rfl (jD (v := .slice a s.length c) he_7) <| jL 1 rfl (jD (v := nv j) he_9) ?_
      obtain ⟨hr_11, hr_11b, -⟩ := sees_some hs_1 (by omega)
      refine jL 2 rfl (jk (i := j) km kj hr_11 hr_11b rfl rfl (by omega)) ?_
      have hi_12 := SeesA.elem hi_2 o0 (show j < s.length by omega)
      have hs_13 := seesO hi_12
      refine jw 3 rfl (kX (vs := [iv ((s.getD j o0).t.seq), .slice ((s.getD j o0).x.a0) ((s.getD j o0).t.cells.length) ((s.getD j o0).x.c0), .bool ((s.getD j o0).t.whole)]) hs_1 nM rfl gB kj (flat_take encO_len o0 s j (by omega)) rfl (by decide)) <| jL 4 rfl (jD (v := .slice b t.length c') he_8) <| jL 5 rfl (jD (v := nv j) he_9) ?_
      obtain ⟨hr_14, hr_14b, -⟩ := sees_some hs_3 (by omega)
      refine jL 6 rfl (jk (i := j) km kj hr_14 hr_14b rfl rfl (by omega)) ?_
      have hi_15 := SeesA.elem hi_4 o0 (show j < t.length by omega)
      have hs_16 := seesO hi_15
      refine jw 7 rfl (kX (vs := [iv ((t.getD j o0).t.seq), .slice ((t.getD j o0).x.a0) ((t.getD j o0).t.cells.length) ((t.getD j o0).x.c0), .bool ((t.getD j o0).t.whole)]) hs_3 nM rfl gB kj (flat_take encO_len o0 t j (by omega)) rfl (by decide)) <| jj (i := 8) ?_
      refine jz rfl rfl (jI [] Tryz.call116 rfl (C_eqSlot (s.getD j o0) (t.getD j o0) (hl _ (getD_mem hlt))) rfl (fun w hw => ⟨hw.seeOutA hi_12 nMA, hw.seeOutA hi_15 nMA⟩)) ?_
      rintro _ _ ⟨_, ⟨rfl, rfl⟩, rfl⟩
      refine ⟨(fun _ h => by cases h), ?_⟩
      refine jL 9 rfl (jp rfl) <| kI (by kernel_rfl) <| jB ?_
      by_cases h_17 : (s.getD j o0).t = (t.getD j o0).t
      · have heq := h_17
        refine jR (cB (cN (dT h_17))) <| jT <| jm <| jB <| jF <| jA (jD (v := nv j) he_9) <| jA (jc (c := ((j + 1 : Nat) : Int)) rfl rfl (wr (by omega))) <| jA (jG (v := iv ((j + 1 : Nat) : Int)) rfl) <| jE ?_
        refine jq (s.length - (j + 1)) (by omega) ⟨j + 1, by omega, take_succM_eq o0 hE hlt hln heq, hln, he_7, he_8, rfl, rfl, rfl⟩
      have hne := h_17
      refine jW (cB (cN (dF h_17))) <| jC <| jF <| jA (jG (v := .bool false) rfl) <| jE <| jB <| jN <| jv <| jX <| jX ?_
      refine jv <| jX <| jV (.inl rfl) rfl (jJ (v := .bool false) rfl) (List.nil_sublist _) ?_
      refine ⟨?_, rfl⟩
      rw [dF (fun h => hne (getM_eq o0 h hlt hln))]
    refine jR (cB (dF h_10)) <| jx <| jb <| jb <| jy <| jB <| jC <| jF <| jA (jG (v := .bool true) rfl) <| jE ?_
    refine jB <| jN <| jV (.inl rfl) rfl (jJ (v := .bool true) rfl) (List.nil_sublist _) ?_
    refine ⟨?_, rfl⟩
    rw [dT (take_allM_eq hE (by omega) (by omega))]
  have hlen := h_5
  refine jW (cB (cN (dF h_5))) <| jC <| jF <| jA (jG (v := .bool false) rfl) <| jE <| jB <| jN <| jX <| jV (.inl rfl) rfl (jJ (v := .bool false) rfl) (List.nil_sublist _) ?_
  refine ⟨?_, rfl⟩
  rw [dF (fun h => by have h2 := congrArg List.length h; rw [List.length_map, List.length_map] at h2; omega)]

set_option maxRecDepth 4000 in
set_option maxHeartbeats 1000000 in
theorem C_markSlotS (a : Option Addr) (c : Nat) (l : List OX) (k : Nat) (h0 : 0 < k) (h1 : k + cntV cntO l ≤ 100000000) (hn : l.length ≤ 1000000000) :
    Ct Tryz.prog 67 [.slice a l.length c, .int .i64 ((k : Nat) : Int)] [Res.rows (rdsOS a c l)] (fun _ => True) (fun v A' => v = .int .i64 ((k + cntV cntO l : Nat) : Int) ∧ A' = [.rows (rdsOS a c (markV mkO cntO l k))]) := by
  refine Ct.intro Tryz.func67 rfl Tryz.ntmps67 (lb rfl) fun w0 hpre => ?_
  refine kT (L' := [Res.row (.slice a l.length c) 60 3 l.length (l.flatMap encO), Res.rows (l.flatMap rdsO)]) (fun w hw => hw.headR (r := ⟨.slice a l.length c, 60, 3, l.length, l.flatMap encO⟩) (A := l.flatMap rdsO) 0 rfl) <| jC <| jF <| jA (jG (v := iv 0) rfl) <| jE <| jB <| jC <| jC <| jF <| jA (jG (v := iv 0) rfl) ?_
  refine jE <| jB <| jf <| kD (fun k_ e_ L_ => ∃ j : Nat, ∃ kk : Nat, ∃ Q : List OX, (j ≤ l.length) ∧ (kk = k + cntV cntO (l.take j)) ∧ (Q = (markV mkO cntO l k).take j) ∧ (Q.length = j) ∧ e_ 0 = .slice a l.length c ∧ e_ 1 = nv kk ∧ e_ 4 = iv 0 ∧ e_ 5 = nv j ∧ L_ = [Res.row (.slice a l.length c) 60 3 l.length ((Q ++ l.drop j).flatMap encO), Res.rows ((Q ++ l.drop j).flatMap rdsO)] ∧ k_ = l.length - j) _ ⟨0, k, [], by omega, rfl, rfl, rfl, rfl, rfl, rfl, rfl, rfl, rfl⟩ ?_
  rintro _ e_1 _ ⟨j, kk, Q, hj, hkk, hQ, hQl, he_2, he_3, he_4, he_5, rfl, rfl⟩
  refine jC <| jC <| jF <| jA (jD (v := nv j) he_5) <| jA (jD (v := .slice a l.length c) he_2) <| jA (jr km rfl) <| jA (jl rfl rfl) <| jE <| jB ?_
  by_cases h_6 : ((j : Nat) : Int) < ((l.length : Nat) : Int)
  · have hlt : j < l.length := by omega
    have hb : cntV cntO (l.take j) + cntO (l.getD j o0) ≤ cntV cntO l := cntV_le o0 hlt
    simp only [cntO] at hb
    refine kT (L' := [Res.row (.slice ((l.getD j o0).x.a0) ((l.getD j o0).t.cells.length) ((l.getD j o0).x.c0)) 48 2 (((l.getD j o0).t.cells).length) (((l.getD j o0).t.cells).flatMap encC), Res.rows (Q.flatMap rdsO), Res.rows ((l.drop (j + 1)).flatMap rdsO), Res.row (.slice a l.length c) 60 3 l.length (mid encO Q [iv ((l.getD j o0).t.seq), .slice ((l.getD j o0).x.a0) ((l.getD j o0).t.cells.length) ((l.getD j o0).x.c0), .bool ((l.getD j o0).t.whole)] (l.drop (j + 1)))]) (fun w hw => St.openR 1 rfl (St.splitR 1 rfl (flatMap_mid o0 hlt) (hw.midR 0 rfl o0 hlt))) <| jW (cB (dT h_6)) <| jT <| jB <| jC <| jf <| jC <| jF <| jA (jD (v := .slice a l.length c) he_2) <| jA (jD (v := nv j) he_5) ?_
    refine jA (jD (v := nv kk) he_3) ?_
    refine kN fun hst => ?_
    obtain ⟨hr_7, hr_7b, -⟩ := row_some 3 rfl (by omega) hst
    refine jA (jk (i := j) km kj hr_7 hr_7b rfl rfl (by omega)) <| jA (kL fo60_0 hr_7 rfl) ?_
    refine jH rfl (JO.storeR 3 (vs := [nv kk]) (cs' := mid encO Q [nv kk, .slice ((l.getD j o0).x.a0) ((l.getD j o0).t.cells.length) ((l.getD j o0).x.c0), .bool ((l.getD j o0).t.whole)] (l.drop (j + 1))) rfl rfl rfl rfl gA rfl rfl (by decide) (mid_fit encO_len rfl hQl (f := 0) (lb rfl)) (mid_set encO_len rfl hQl 0 [nv kk] (lb rfl))) ?_
    rintro _ _ rfl
    refine jE <| jB <| jC <| jF <| jA (jD (v := nv kk) he_3) <| jA (jc (c := ((kk + 1 : Nat) : Int)) rfl rfl (wr (by omega))) <| jA (jG (v := iv ((kk + 1 : Nat) : Int)) rfl) <| jE <| jB <| jC ?_
    refine jF <| jA (jD (v := .slice a l.length c) he_2) <| jA (jD (v := nv j) he_5) <| jA (jk (i := j) km kj hr_7 hr_7b rfl rfl (by omega)) <| jA (kL fo60_1 hr_7 rfl) <| jK (ka 3 (v := .slice ((l.getD j o0).x.a0) ((l.getD j o0).t.cells.length) ((l.getD j o0).x.c0)) rfl rfl kz (mid_at encO_len rfl hQl 1 (by decide))) <| jA (jD (v := iv ((kk + 1 : Nat) : Int)) rfl) ?_
    refine jH rfl (jI [0] Tryz.call117 rfl (C_markCellS (l.getD j o0).x.a0 ((l.getD j o0).x.c0) ((l.getD j o0).t.cells) (kk + 1) (by omega) (by omega)) rfl (fun _ _ => trivial)) ?_
    rintro _ _ ⟨_, ⟨rfl, rfl⟩, rfl⟩
    refine jA (jG (v := iv ((kk + 1 + 2 * ((l.getD j o0).t.cells).length : Nat) : Int)) rfl) <| jE <| jB <| jC <| jF <| jA (jD (v := .slice a l.length c) he_2) <| jA (jD (v := nv j) he_5) <| jA (jD (v := iv ((kk + 1 + 2 * ((l.getD j o0).t.cells).length : Nat) : Int)) rfl) <| jA (PO.remN (c := (((kk + 1 + 2 * ((l.getD j o0).t.cells).length) % 3 : Nat) : Int)) rfl rfl (by omega) (by omega) (by omega)) <| jA (kO rfl rfl) ?_
    refine jA (jk (i := j) km kj hr_7 hr_7b rfl rfl (by omega)) <| jA (kL fo60_2 hr_7 rfl) ?_
    refine jH rfl (JO.storeR 3 (vs := [.bool (decide ((((kk + 1 + 2 * ((l.getD j o0).t.cells).length) % 3 : Nat) : Int) = 0))]) (cs' := mid encO Q [nv kk, .slice ((l.getD j o0).x.a0) ((l.getD j o0).t.cells.length) ((l.getD j o0).x.c0), .bool (decide ((((kk + 1 + 2 * ((l.getD j o0).t.cells).length) % 3 : Nat) : Int) = 0))] (l.drop (j + 1))) rfl rfl rfl rfl Tryz.sizeOf4 rfl rfl (by decide) (mid_fit encO_len rfl hQl (f := 2) (lb rfl)) (mid_set encO_len rfl hQl 2 [.bool (decide ((((kk + 1 + 2 * ((l.getD j o0).t.cells).length) % 3 : Nat) : Int) = 0))] (lb rfl))) ?_
    rintro _ _ rfl
    refine jE <| jB <| jF <| jA (jD (v := iv ((kk + 1 + 2 * ((l.getD j o0).t.cells).length : Nat) : Int)) rfl) <| jA (jc (c := (((kk + 1 + 2 * ((l.getD j o0).t.cells).length) + 1 : Nat) : Int)) rfl rfl (wr (by omega))) <| jA (jG (v := iv (((kk + 1 + 2 * ((l.getD j o0).t.cells).length) + 1 : Nat) : Int)) rfl) <| jE <| jm <| jB <| jF ?_
    refine jA (jD (v := nv j) he_5) <| jA (jc (c := ((j + 1 : Nat) : Int)) rfl rfl (wr (by omega))) <| jA (jG (v := iv ((j + 1 : Nat) : Int)) rfl) <| jE <| ju (L' := [Res.rows (((Q ++ [mkO (l.getD j o0) kk]) ++ l.drop (j + 1)).flatMap rdsO), Res.row (.slice a l.length c) 60 3 l.length (((Q ++ [mkO (l.getD j o0) kk]) ++ l.drop (j + 1)).flatMap encO)]) (fun w hw => St.joinR [2, 0, 1] rfl (by rw [flatMap_mid2, rdsO_mk]) (St.closeR (A := ([⟨.slice ((l.getD j o0).x.a0) ((l.getD j o0).t.cells.length) ((l.getD j o0).x.c0), 48, 2, ((l.getD j o0).t.cells).length, (markC ((l.getD j o0).t.cells) (kk + 1)).flatMap encC⟩] : List RD)) [1] rfl (hw.unmid 3 rfl (q := mkO (l.getD j o0) kk) (encO_mk _ _)))) <| kB [1, 0] (A := [Res.row (.slice a l.length c) 60 3 l.length (((Q ++ [mkO (l.getD j o0) kk]) ++ l.drop (j + 1)).flatMap encO), Res.rows (((Q ++ [mkO (l.getD j o0) kk]) ++ l.drop (j + 1)).flatMap rdsO)]) rfl ?_
    refine jq (l.length - (j + 1)) (by omega) ⟨j + 1, (kk + 1 + 2 * ((l.getD j o0).t.cells).length) + 1, (Q ++ [mkO (l.getD j o0) kk]), by omega, (by rw [cntV_step o0 hlt]; simp only [cntO]; omega), (by rw [markV_step o0 hlt, ← hQ, ← hkk]), (by rw [List.length_append, hQl]; rfl), he_2, rfl, he_4, rfl, rfl, rfl⟩
  refine jR (cB (dF h_6)) <| jx <| jb <| jb <| jy <| jB <| jC <| jF <| jA (jD (v := nv kk) he_3) <| jA (jG (v := nv kk) rfl) ?_
  refine jE <| jB <| jN ?_
  have hz : Q ++ l.drop j = markV mkO cntO l k := by rw [hQ, List.drop_of_length_le (by omega), List.append_nil, markV_all (by omega)]
  refine ju (L' := [Res.row (.slice a ((markV mkO cntO l k).length) c) 60 3 ((markV mkO cntO l k).length) ((markV mkO cntO l k).flatMap encO), Res.rows ((markV mkO cntO l k).flatMap rdsO)]) (fun w hw => hw.eqL (by rw [hz, markV_len])) <| ju (L' := [Res.rows (rdsOS a c (markV mkO cntO l k))]) (fun w hw => hw.consR (r := ⟨.slice a ((markV mkO cntO l k).length) c, 60, 3, (markV mkO cntO l k).length, (markV mkO cntO l k).flatMap encO⟩) (A := (markV mkO cntO l k).flatMap rdsO) [0, 0] rfl) <| jV (.inl rfl) rfl (jJ (v := nv kk) rfl) (List.Sublist.refl _) ?_
  exact ⟨by rw [hkk, cntV_all (by omega)], rfl⟩

set_option maxRecDepth 4000 in
set_option maxHeartbeats 1000000 in
theorem C_heldSlotS (a : Option Addr) (c : Nat) (l : List OX) (k : Nat) (h0 : 0 < k) (h1 : k + cntV cntO l ≤ 100000000) (hn : l.length ≤ 1000000000) :
    Ct Tryz.prog 68 [.slice a l.length c, .int .i64 ((k : Nat) : Int)] [] (fun w => SeesA w (rdsOS a c (markV mkO cntO l k))) (fun v A' => v = .int .i64 ((k + cntV cntO l : Nat) : Int) ∧ A' = []) := by
  refine Ct.intro Tryz.func68 rfl Tryz.ntmps68 (lb rfl) fun w0 hpre => ?_
  have hs : Sees w0 (.slice a l.length c) 3 l.length ((markV mkO cntO l k).flatMap encO) := by have h := hpre.head; simpa only [RD.sees, markV_len] using h
  have hi : SeesA w0 ((markV mkO cntO l k).flatMap rdsO) := hpre.tail
  refine jC <| jF <| jA (jG (v := iv 0) rfl) <| jE <| jB <| jC <| jC <| jF <| jA (jG (v := iv 0) rfl) <| jE ?_
  refine jB <| jf <| kD (fun k_ e_ L_ => ∃ j : Nat, ∃ kk : Nat, (j ≤ l.length) ∧ (kk = k + cntV cntO (l.take j)) ∧ e_ 0 = .slice a l.length c ∧ e_ 1 = nv kk ∧ e_ 5 = nv j ∧ L_ = [] ∧ k_ = l.length - j) _ ⟨0, k, by omega, rfl, rfl, rfl, rfl, rfl, rfl⟩ ?_
  rintro _ e_1 _ ⟨j, kk, hj, hkk, he_2, he_3, he_4, rfl, rfl⟩
  refine jC <| jC <| jF <| jA (jD (v := nv j) he_4) <| jA (jD (v := .slice a l.length c) he_2) <| jA (jr km rfl) <| jA (jl rfl rfl) <| jE <| jB ?_
  by_cases h_5 : ((j : Nat) : Int) < ((l.length : Nat) : Int)
  · have hlt : j < l.length := by omega
    have hb : cntV cntO (l.take j) + cntO (l.getD j o0) ≤ cntV cntO l := cntV_le o0 hlt
    simp only [cntO] at hb
    have hget : (markV mkO cntO l k).getD j o0 = mkO (l.getD j o0) kk := by rw [markV_get o0 l k j hlt, ← hkk]
    have hin := SeesA.elem hi o0 (show j < (markV mkO cntO l k).length by rw [markV_len]; exact hlt)
    rw [hget] at hin
    have hs_6 := seesO_mk' hin
    refine jW (cB (dT h_5)) <| jT <| jB <| jC <| jf <| jC <| jC <| jF <| jA (jD (v := .slice a l.length c) he_2) <| jA (jD (v := nv j) he_4) ?_
    obtain ⟨hr_7, hr_7b, -⟩ := sees_some hs (by omega)
    refine jA (jk (i := j) km kj hr_7 hr_7b rfl rfl (by omega)) <| jA (kL fo60_0 hr_7 rfl) <| jK (kY (v := nv kk) hs nM rfl kq (flat_atE encO_len o0 (markV mkO cntO l k) j 0 (by rw [markV_len]; exact hlt) (by decide) hget (encO_mk _ _))) <| jA (jD (v := nv kk) he_3) <| jA (kS rfl rfl) <| jE <| jB <| jR (cB (cN (dT rfl))) <| jT <| jB ?_
    refine jC <| jF <| jA (jD (v := nv kk) he_3) <| jA (jc (c := ((kk + 1 : Nat) : Int)) rfl rfl (wr (by omega))) <| jA (jG (v := iv ((kk + 1 : Nat) : Int)) rfl) <| jE <| jB <| jC <| jF <| jA (jD (v := .slice a l.length c) he_2) ?_
    refine jA (jD (v := nv j) he_4) <| jA (jk (i := j) km kj hr_7 hr_7b rfl rfl (by omega)) <| jA (kL fo60_1 hr_7 rfl) <| jK (kY (v := .slice ((l.getD j o0).x.a0) ((l.getD j o0).t.cells.length) ((l.getD j o0).x.c0)) hs nM rfl kz (flat_atE encO_len o0 (markV mkO cntO l k) j 1 (by rw [markV_len]; exact hlt) (by decide) hget (encO_mk _ _))) <| jA (jD (v := iv ((kk + 1 : Nat) : Int)) rfl) ?_
    refine jH rfl (jI [] Tryz.call118 rfl (Y_heldCellS (l.getD j o0).x.a0 ((l.getD j o0).x.c0) ((l.getD j o0).t.cells) (kk + 1) (by omega) (by omega)) rfl (fun w hw => hw.seeOut_ hs_6 nM)) ?_
    rintro _ _ ⟨_, ⟨rfl, rfl⟩, rfl⟩
    refine jA (jG (v := iv ((kk + 1 + 2 * ((l.getD j o0).t.cells).length : Nat) : Int)) rfl) <| jE <| jB <| jC <| jC <| jF <| jA (jD (v := iv ((kk + 1 + 2 * ((l.getD j o0).t.cells).length : Nat) : Int)) rfl) <| jA (jl rfl rfl) <| jE <| jB ?_
    by_cases h_8 : ((kk + 1 + 2 * ((l.getD j o0).t.cells).length : Nat) : Int) < 0
    · refine jW (cB (dT h_8)) <| jC <| jF <| jA (jG (v := iv (-1)) rfl) <| jE <| jB <| jN <| jX <| jv <| jX ?_
      refine jX <| jv <| jX <| jV (.inl rfl) rfl (jJ (v := iv (-1)) rfl) (List.nil_sublist _) ?_
      exfalso
      omega
    refine jR (cB (dF h_8)) <| jT <| jB <| jC <| jC <| jF <| jA (jD (v := .slice a l.length c) he_2) <| jA (jD (v := nv j) he_4) <| jA (jk (i := j) km kj hr_7 hr_7b rfl rfl (by omega)) <| jA (kL fo60_2 hr_7 rfl) ?_
    refine jK (kY (v := .bool (decide ((((kk + 1 + 2 * ((l.getD j o0).t.cells).length) % 3 : Nat) : Int) = 0))) hs nM rfl gI (flat_atE encO_len o0 (markV mkO cntO l k) j 2 (by rw [markV_len]; exact hlt) (by decide) hget (encO_mk _ _))) <| jA (jD (v := iv ((kk + 1 + 2 * ((l.getD j o0).t.cells).length : Nat) : Int)) rfl) <| jA (PO.remN (c := (((kk + 1 + 2 * ((l.getD j o0).t.cells).length) % 3 : Nat) : Int)) rfl rfl (by omega) (by omega) (by omega)) <| jA (kO rfl rfl) <| jA (PO.neqB gJ rfl rfl) <| jE <| jB <| jR (cB (cN (dT rfl))) <| jT <| jB ?_
    refine jF <| jA (jD (v := iv ((kk + 1 + 2 * ((l.getD j o0).t.cells).length : Nat) : Int)) rfl) <| jA (jc (c := (((kk + 1 + 2 * ((l.getD j o0).t.cells).length) + 1 : Nat) : Int)) rfl rfl (wr (by omega))) <| jA (jG (v := iv (((kk + 1 + 2 * ((l.getD j o0).t.cells).length) + 1 : Nat) : Int)) rfl) <| jE <| jm <| jB <| jF <| jA (jD (v := nv j) he_4) <| jA (jc (c := ((j + 1 : Nat) : Int)) rfl rfl (wr (by omega))) ?_
    refine jA (jG (v := iv ((j + 1 : Nat) : Int)) rfl) <| jE ?_
    refine jq (l.length - (j + 1)) (by omega) ⟨j + 1, (kk + 1 + 2 * ((l.getD j o0).t.cells).length) + 1, by omega, (by rw [cntV_step o0 hlt]; simp only [cntO]; omega), he_2, rfl, rfl, rfl, rfl⟩
  refine jR (cB (dF h_5)) <| jx <| jb <| jb <| jy <| jB <| jC <| jF <| jA (jD (v := nv kk) he_3) <| jA (jG (v := nv kk) rfl) ?_
  refine jE <| jB <| jN <| jV (.inl rfl) rfl (jJ (v := nv kk) rfl) (List.nil_sublist _) ?_
  exact ⟨by rw [hkk, cntV_all (by omega)], rfl⟩

theorem C_szJournal (t : Str) (s : Int) (l : Int) (h0 : 0 ≤ l) (h1 : l ≤ 1048576) (ht : t.length ≤ 9223372036854775807) :
    Ct Tryz.prog 55 [.agg #[str t, .int .i64 s], .int .i64 l] [] (fun _ => True) (fun r A' => r = .int .i64 (szJournalF t l) ∧ A' = []) := by
  refine Ct.intro Tryz.func55 rfl Tryz.ntmps55 (lb rfl) fun w0 hpre => ?_
  refine jC <| jF ?_
  refine jH rfl (kG (cs := [str t, iv s]) rfl rfl) ?_
  rintro _ _ ⟨b_1, rfl, rfl⟩
  refine jA (jG (v := iv 0) rfl) <| jE <| jB <| jC <| jF <| jA (jD (v := iv l) rfl) <| jA (jQ fo24_0 rfl) <| jK (jZ 0 (v := str t) rfl rfl ki rfl) <| jA (kF kg rfl) <| jA (kZ (c := l - (t.length : Int)) rfl rfl (wr (by omega))) ?_
  refine jA (jG (v := iv (l - (t.length : Int))) rfl) <| jE <| jB <| jC <| jC <| jF <| jA (jD (v := iv (l - (t.length : Int))) rfl) <| jA (jl rfl rfl) <| jE <| jB ?_
  by_cases h_2 : (l - (t.length : Int)) < 0
  · refine jW (cB (dT h_2)) <| jC <| jF <| jA (jG (v := iv (-1)) rfl) <| jE <| jB <| jN <| jX <| jV (.inl rfl) rfl (jJ (v := iv (-1)) rfl) (List.nil_sublist _) ?_
    refine ⟨congrArg (Value.int .i64) ?_, rfl⟩
    simp only [szJournalF, chk, id_eq]
    (repeat (first | rw [if_pos (by omega)] | rw [if_neg (by omega)]))
  refine jR (cB (dF h_2)) <| jT <| jB <| jC <| jF <| jA (jD (v := iv (l - (t.length : Int))) rfl) <| jA (jG (v := iv (l - (t.length : Int))) rfl) <| jE <| jB <| jN ?_
  refine jV (.inl rfl) rfl (jJ (v := iv (l - (t.length : Int))) rfl) (List.nil_sublist _) ?_
  refine ⟨congrArg (Value.int .i64) ?_, rfl⟩
  simp only [szJournalF, chk, id_eq]
  (repeat (first | rw [if_pos (by omega)] | rw [if_neg (by omega)]))

theorem C_toJournal (t : Str) (s : Int) :
    Ct Tryz.prog 61 [.agg #[str t, .int .i64 s]] [] (fun _ => True) (fun v A' => v = .agg #[str t, .int .i64 s] ∧ A' = []) := by
  refine Ct.intro Tryz.func61 rfl Tryz.ntmps61 (lb rfl) fun w0 hpre => ?_
  refine jC <| jF ?_
  refine jH rfl (kG (cs := [str t, iv s]) rfl rfl) ?_
  rintro _ _ ⟨b_1, rfl, rfl⟩
  refine jH rfl (jo (z := .agg #[str [], iv 0]) (cs := [str [], iv 0]) gN rfl) ?_
  rintro _ _ ⟨b_2, rfl, rfl⟩
  refine jE <| jB <| jC <| jF ?_
  refine jH rfl (jo (z := .agg #[str [], iv 0]) (cs := [str [], iv 0]) gN rfl) ?_
  rintro _ _ ⟨b_3, rfl, rfl⟩
  refine jE <| jB <| jC <| jF <| jA (jQ fo24_0 rfl) <| jK (jZ 2 (v := str t) rfl rfl ki rfl) <| jA (jQ fo29_0 rfl) ?_
  refine jH rfl (ja 0 (vs := [str t]) (cs' := [str t, iv 0]) rfl rfl rfl rfl kt rfl rfl (lb rfl) rfl) ?_
  rintro _ _ rfl
  refine jE <| jB <| jC <| jF <| jA (jQ fo24_1 rfl) <| jK (jZ 2 (v := iv s) rfl rfl kq rfl) <| jA (jQ fo29_1 rfl) ?_
  refine jH rfl (ja 0 (vs := [iv s]) (cs' := [str t, iv s]) rfl rfl rfl rfl gA rfl rfl (lb rfl) rfl) ?_
  rintro _ _ rfl
  refine jE <| jB <| jC <| jF <| jK (jO 0 (vs := [str t, iv s]) rfl rfl kp kl rfl rfl) ?_
  refine jH rfl (ja 1 (vs := [str t, iv s]) (cs' := [str t, iv s]) rfl rfl rfl rfl kl rfl rfl (lb rfl) rfl) ?_
  rintro _ _ rfl
  refine jE <| jB <| jN <| jV (.inl rfl) rfl (kA (jO 1 (vs := [str t, iv s]) rfl rfl kp kl rfl rfl) ⟨_, rfl⟩) (List.nil_sublist _) ?_
  exact ⟨rfl, rfl⟩

theorem C_eqJournal (t : Str) (s : Int) (u : Str) (r : Int) :
    Ct Tryz.prog 66 [.agg #[str t, .int .i64 s], .agg #[str u, .int .i64 r]] [] (fun _ => True) (fun v A' => v = .bool (decide (t = u ∧ s = r)) ∧ A' = []) := by
  refine Ct.intro Tryz.func66 rfl Tryz.ntmps66 (lb rfl) fun w0 hpre => ?_
  refine jC <| jF ?_
  refine jH rfl (kG (cs := [str t, iv s]) rfl rfl) ?_
  rintro _ _ ⟨b_1, rfl, rfl⟩
  refine jH rfl (kG (cs := [str u, iv r]) rfl rfl) ?_
  rintro _ _ ⟨b_2, rfl, rfl⟩
  refine jA (jG (v := .bool false) rfl) <| jE <| jB <| jC <| jC <| jF <| jA (jQ fo29_0 rfl) <| jK (jZ 1 (v := str t) rfl rfl ki rfl) <| jA (jQ fo29_0 rfl) <| jK (jZ 0 (v := str u) rfl rfl ki rfl) ?_
  refine jA (PO.neqS rfl rfl) <| jE <| jB ?_
  by_cases h_3 : t = u
  · refine jR (cB (cN (dT h_3))) <| jT <| jB <| jC <| jC <| jF <| jA (jQ fo29_1 rfl) <| jK (jZ 1 (v := iv s) rfl rfl kq rfl) <| jA (jQ fo29_1 rfl) <| jK (jZ 0 (v := iv r) rfl rfl kq rfl) ?_
    refine jA (kS rfl rfl) <| jE <| jB ?_
    by_cases h_4 : s = r
    · refine jR (cB (cN (dT h_4))) <| jT <| jB <| jC <| jF <| jA (jG (v := .bool true) rfl) <| jE <| jB <| jN <| jV (.inl rfl) rfl (jJ (v := .bool true) rfl) (List.nil_sublist _) ?_
      exact ⟨cB (dT ⟨by assumption, by assumption⟩).symm, rfl⟩
    refine jW (cB (cN (dF h_4))) <| jC <| jF <| jA (jG (v := .bool false) rfl) <| jE <| jB <| jN <| jX <| jV (.inl rfl) rfl (jJ (v := .bool false) rfl) (List.nil_sublist _) ?_
    exact ⟨cB (dF (fun h_ => by obtain ⟨h_0, h_1⟩ := h_; contradiction)).symm, rfl⟩
  refine jW (cB (cN (dF h_3))) <| jC <| jF <| jA (jG (v := .bool false) rfl) <| jE <| jB <| jN <| jX <| jV (.inl rfl) rfl (jJ (v := .bool false) rfl) (List.nil_sublist _) ?_
  exact ⟨cB (dF (fun h_ => by obtain ⟨h_0, h_1⟩ := h_; contradiction)).symm, rfl⟩

theorem C_szDisk (d : DX) (l : Int) (h0 : 0 ≤ l) (h1 : l ≤ 1048576) (hz : d.dat.okz) :
    Ct Tryz.prog 11 [.agg #[.slice d.a d.l.length d.c, str d.jt, .int .i64 d.js], .int .i64 l] [] (fun w => SeesAE w (rdsD d)) (fun r A' => r = .int .i64 (szDiskF d.dat l) ∧ A' = []) := by
  refine Ct.intro Tryz.func11 rfl Tryz.ntmps11 (lb rfl) fun w0 hpre => ?_
  have hs_1 : SeesE w0 (.slice d.a d.l.length d.c) 3 d.l.length (d.l.flatMap encO) := (hpre).head
  have hi_2 : SeesAE w0 (d.l.flatMap rdsO) := (hpre).tail
  have hz0 : d.l.length ≤ 9223372036854775807 := by have := hz.k0; simpa only [DX.dat, List.length_map] using this
  have hz1 : ∀ j, j < d.l.length → (d.l.getD j o0).t.okz := fun j hj => hz.k1 _ (List.mem_map_of_mem (getD_mem hj))
  refine jC <| jF ?_
  refine jH rfl (kG (cs := [.slice d.a d.l.length d.c, str d.jt, iv d.js]) rfl rfl) ?_
  rintro _ _ ⟨b_3, rfl, rfl⟩
  refine jA (jG (v := iv 0) rfl) <| jE <| jB <| jC <| jF <| jA (jQ fo26_0 rfl) <| jK (jZ 0 (v := .slice d.a d.l.length d.c) rfl rfl Tryz.isAgg22 rfl) <| jA (jD (v := iv l) rfl) ?_
  refine jH rfl (jI [] Tryz.call54 rfl (C_szSlotS d.a d.c d.l l (by omega) (by omega) hz0 hz1) rfl (fun w hw => SeesAE.cons (hw.seeOutE hs_1 nM) (hw.seeOutAE hi_2 nMA))) ?_
  rintro _ _ ⟨_, ⟨rfl, rfl⟩, rfl⟩
  have hle_4 := szLS_le szSlotF_le (d.l.map OX.t) l (by omega)
  refine jA (jG (v := iv (szLS szSlotF (d.l.map OX.t) l)) rfl) <| jE <| jB <| jC <| jC <| jF <| jA (jD (v := iv (szLS szSlotF (d.l.map OX.t) l)) rfl) <| jA (jl rfl rfl) <| jE <| jB ?_
  by_cases h_5 : (szLS szSlotF (d.l.map OX.t) l) < 0
  · refine jW (cB (dT h_5)) <| jC <| jF <| jA (jG (v := iv (-1)) rfl) <| jE <| jB <| jN <| jX <| jV (.inl rfl) rfl (jJ (v := iv (-1)) rfl) (List.nil_sublist _) ?_
    refine ⟨congrArg (Value.int .i64) ?_, rfl⟩
    show _ = chk (szLS szSlotF (d.l.map OX.t) l) fun l => chk (szJournalF d.jt l) id
    simp only [chk, id_eq]
    (repeat (first | rw [if_pos (by omega)] | rw [if_neg (by omega)]))
  refine jR (cB (dF h_5)) <| jT <| jB <| jC <| jF <| jA (jQ fo26_1 rfl) <| jK (jO 0 (vs := [str d.jt, iv d.js]) rfl rfl Tryz.isAgg24 Tryz.sizeOf24 rfl rfl) <| jA (jD (v := iv (szLS szSlotF (d.l.map OX.t) l)) rfl) ?_
  refine jH rfl (jI [] Tryz.call55 rfl (C_szJournal d.jt d.js (szLS szSlotF (d.l.map OX.t) l) (by omega) (by omega) hz.k2) rfl (fun _ _ => trivial)) ?_
  rintro _ _ ⟨_, ⟨rfl, rfl⟩, rfl⟩
  have hle_6 := szJournalF_le d.jt (szLS szSlotF (d.l.map OX.t) l) (by omega)
  refine jA (jG (v := iv (szJournalF d.jt (szLS szSlotF (d.l.map OX.t) l))) rfl) <| jE <| jB <| jC <| jC <| jF <| jA (jD (v := iv (szJournalF d.jt (szLS szSlotF (d.l.map OX.t) l))) rfl) <| jA (jl rfl rfl) <| jE <| jB ?_
  by_cases h_7 : (szJournalF d.jt (szLS szSlotF (d.l.map OX.t) l)) < 0
  · refine jW (cB (dT h_7)) <| jC <| jF <| jA (jG (v := iv (-1)) rfl) <| jE <| jB <| jN <| jX <| jV (.inl rfl) rfl (jJ (v := iv (-1)) rfl) (List.nil_sublist _) ?_
    refine ⟨congrArg (Value.int .i64) ?_, rfl⟩
    show _ = chk (szLS szSlotF (d.l.map OX.t) l) fun l => chk (szJournalF d.jt l) id
    simp only [chk, id_eq]
    (repeat (first | rw [if_pos (by omega)] | rw [if_neg (by omega)]))
  refine jR (cB (dF h_7)) <| jT <| jB <| jC <| jF <| jA (jD (v := iv (szJournalF d.jt (szLS szSlotF (d.l.map OX.t) l))) rfl) <| jA (jG (v := iv (szJournalF d.jt (szLS szSlotF (d.l.map OX.t) l))) rfl) <| jE <| jB <| jN ?_
  refine jV (.inl rfl) rfl (jJ (v := iv (szJournalF d.jt (szLS szSlotF (d.l.map OX.t) l))) rfl) (List.nil_sublist _) ?_
  refine ⟨congrArg (Value.int .i64) ?_, rfl⟩
  show _ = chk (szLS szSlotF (d.l.map OX.t) l) fun l => chk (szJournalF d.jt l) id
  simp only [chk, id_eq]
  (repeat (first | rw [if_pos (by omega)] | rw [if_neg (by omega)]))

theorem C_toDisk (d : DX) (hl : d.dat.lim 1048576) :
    Ct Tryz.prog 13 [.agg #[.slice d.a d.l.length d.c, str d.jt, .int .i64 d.js]] [] (fun w => SeesAE w (rdsD d)) (fun v A' => ∃ y : DX, y.dat = d.dat ∧ v = .agg #[.slice y.a y.l.length y.c, str y.jt, .int .i64 y.js] ∧ A' = [.rows (rdsD y)]) := by
  refine Ct.intro Tryz.func13 rfl Tryz.ntmps13 (lb rfl) fun w0 hpre => ?_
  have hs_1 : SeesE w0 (.slice d.a d.l.length d.c) 3 d.l.length (d.l.flatMap encO) := (hpre).head
  have hi_2 : SeesAE w0 (d.l.flatMap rdsO) := (hpre).tail
  have hlm : d.l.length ≤ 1048576 ∧ ∀ q ∈ d.l, q.t.lim 1048576 := ⟨by have := hl.l0; simpa only [DX.dat, List.length_map] using this, fun q hq => hl.l1 _ (List.mem_map_of_mem hq)⟩
  have hlm0 := hlm.1
  refine jC <| jF ?_
  refine jH rfl (kG (cs := [.slice d.a d.l.length d.c, str d.jt, iv d.js]) rfl rfl) ?_
  rintro _ _ ⟨b_3, rfl, rfl⟩
  refine jH rfl (jo (z := .agg #[.slice none 0 0, str [], iv 0]) (cs := [.slice none 0 0, str [], iv 0]) ko rfl) ?_
  rintro _ _ ⟨b_4, rfl, rfl⟩
  refine jE <| jB <| jC <| jF ?_
  refine jH rfl (jo (z := .agg #[.slice none 0 0, str [], iv 0]) (cs := [.slice none 0 0, str [], iv 0]) ko rfl) ?_
  rintro _ _ ⟨b_5, rfl, rfl⟩
  refine jE <| jB <| jC <| jF <| jA (jQ fo26_0 rfl) <| jK (jZ 2 (v := .slice d.a d.l.length d.c) rfl rfl Tryz.isAgg22 rfl) ?_
  refine jH rfl (jI [] Tryz.call60 rfl (C_toSlotS d.a d.c d.l (by omega) hlm.2) rfl (fun w hw => SeesAE.cons (hw.seeOutE hs_1 nM) (hw.seeOutAE hi_2 nMA))) ?_
  rintro _ _ ⟨_, ⟨a_6, c_7, y_8, hy_9, rfl, rfl⟩, rfl⟩
  refine jA (jQ fo31_0 rfl) ?_
  refine jH rfl (ja 1 (vs := [.slice a_6 y_8.length c_7]) (cs' := [.slice a_6 y_8.length c_7, str [], iv 0]) rfl rfl rfl rfl Tryz.sizeOf28 rfl rfl (lb rfl) rfl) ?_
  rintro _ _ rfl
  refine jE <| jB <| jC <| jF <| jA (jQ fo26_1 rfl) <| jK (jO 3 (vs := [str d.jt, iv d.js]) rfl rfl Tryz.isAgg24 Tryz.sizeOf24 rfl rfl) ?_
  refine jH rfl (jI [] Tryz.call61 rfl (C_toJournal d.jt d.js) rfl (fun _ _ => trivial)) ?_
  rintro _ _ ⟨_, ⟨rfl, rfl⟩, rfl⟩
  refine jA (jQ fo31_1 rfl) ?_
  refine jH rfl (ja 1 (vs := [str d.jt, iv d.js]) (cs' := [.slice a_6 y_8.length c_7, str d.jt, iv d.js]) rfl rfl rfl rfl kl rfl rfl (lb rfl) rfl) ?_
  rintro _ _ rfl
  refine jE <| jB <| jC <| jF <| jK (jO 1 (vs := [.slice a_6 y_8.length c_7, str d.jt, iv d.js]) rfl rfl ke kd rfl rfl) ?_
  refine jH rfl (ja 2 (vs := [.slice a_6 y_8.length c_7, str d.jt, iv d.js]) (cs' := [.slice a_6 y_8.length c_7, str d.jt, iv d.js]) rfl rfl rfl rfl kd rfl rfl (lb rfl) rfl) ?_
  rintro _ _ rfl
  refine jE <| jB <| jN <| jV (.inl rfl) rfl (kA (jO 2 (vs := [.slice a_6 y_8.length c_7, str d.jt, iv d.js]) rfl rfl ke kd rfl rfl) ⟨_, rfl⟩) (tS 1 _) ?_
  exact ⟨⟨a_6, c_7, y_8, d.jt, d.js⟩, by simp only [DX.dat, hy_9], rfl, rfl⟩

theorem C_eqDisk (d e : DX) (hl : d.dat.lim 1000000000) :
    Ct Tryz.prog 15 [.agg #[.slice d.a d.l.length d.c, str d.jt, .int .i64 d.js], .agg #[.slice e.a e.l.length e.c, str e.jt, .int .i64 e.js]] [] (fun w => SeesA w (rdsD d) ∧ SeesA w (rdsD e)) (fun v A' => v = .bool (decide (d.dat = e.dat)) ∧ A' = []) := by
  refine Ct.intro Tryz.func15 rfl Tryz.ntmps15 (lb rfl) fun w0 hpre => ?_
  have hs_1 : Sees w0 (.slice d.a d.l.length d.c) 3 d.l.length (d.l.flatMap encO) := (hpre.1).head
  have hi_2 : SeesA w0 (d.l.flatMap rdsO) := (hpre.1).tail
  have hs_3 : Sees w0 (.slice e.a e.l.length e.c) 3 e.l.length (e.l.flatMap encO) := (hpre.2).head
  have hi_4 : SeesA w0 (e.l.flatMap rdsO) := (hpre.2).tail
  have hlm : d.l.length ≤ 1000000000 ∧ ∀ q ∈ d.l, q.t.lim 1000000000 := ⟨by have := hl.l0; simpa only [DX.dat, List.length_map] using this, fun q hq => hl.l1 _ (List.mem_map_of_mem hq)⟩
  have hlm0 := hlm.1
  refine jC <| jF ?_
  refine jH rfl (kG (cs := [.slice d.a d.l.length d.c, str d.jt, iv d.js]) rfl rfl) ?_
  rintro _ _ ⟨b_5, rfl, rfl⟩
  refine jH rfl (kG (cs := [.slice e.a e.l.length e.c, str e.jt, iv e.js]) rfl rfl) ?_
  rintro _ _ ⟨b_6, rfl, rfl⟩
  refine jA (jG (v := .bool false) rfl) <| jE <| jB <| jC <| jC <| jF <| jA (jQ fo31_0 rfl) <| jK (jZ 1 (v := .slice d.a d.l.length d.c) rfl rfl ks rfl) <| jA (jQ fo31_0 rfl) <| jK (jZ 0 (v := .slice e.a e.l.length e.c) rfl rfl ks rfl) ?_
  refine jH rfl (jI [] Tryz.call65 rfl (C_eqSlotS d.a e.a d.c e.c d.l e.l (by omega) hlm.2) rfl (fun w hw => ⟨SeesA.cons (hw.seeOut_ hs_1 nM) (hw.seeOutA hi_2 nMA), SeesA.cons (hw.seeOut_ hs_3 nM) (hw.seeOutA hi_4 nMA)⟩)) ?_
  rintro _ _ ⟨_, ⟨rfl, rfl⟩, rfl⟩
  refine jA (jp rfl) <| jE <| jB ?_
  by_cases h_7 : d.l.map OX.t = e.l.map OX.t
  · refine jR (cB (cN (dT h_7))) <| jT <| jB <| jC <| jC <| jF <| jA (jQ fo31_1 rfl) <| jK (jO 1 (vs := [str d.jt, iv d.js]) rfl rfl kp kl rfl rfl) <| jA (jQ fo31_1 rfl) <| jK (jO 0 (vs := [str e.jt, iv e.js]) rfl rfl kp kl rfl rfl) ?_
    refine jH rfl (jI [] Tryz.call66 rfl (C_eqJournal d.jt d.js e.jt e.js) rfl (fun _ _ => trivial)) ?_
    rintro _ _ ⟨_, ⟨rfl, rfl⟩, rfl⟩
    refine jA (jp rfl) <| jE <| jB ?_
    by_cases h_8 : d.jt = e.jt ∧ d.js = e.js
    · obtain ⟨ht_9, ht_10⟩ := id h_8
      refine jR (cB (cN (dT h_8))) <| jT <| jB <| jC <| jF <| jA (jG (v := .bool true) rfl) <| jE <| jB <| jN <| jV (.inl rfl) rfl (jJ (v := .bool true) rfl) (List.nil_sublist _) ?_
      exact ⟨cB (dT (DD.same.2 ⟨by assumption, by assumption, by assumption⟩)).symm, rfl⟩
    refine jW (cB (cN (dF h_8))) <| jC <| jF <| jA (jG (v := .bool false) rfl) <| jE <| jB <| jN <| jX <| jV (.inl rfl) rfl (jJ (v := .bool false) rfl) (List.nil_sublist _) ?_
    exact ⟨cB (dF (fun h_ => by obtain ⟨h_0, h_1, h_2⟩ := DD.same.1 h_; first | exact absurd (show d.l.map OX.t = e.l.map OX.t from h_0) (by assumption) | exact absurd (show d.jt = e.jt ∧ d.js = e.js from ⟨h_1, h_2⟩) (by assumption))).symm, rfl⟩
  refine jW (cB (cN (dF h_7))) <| jC <| jF <| jA (jG (v := .bool false) rfl) <| jE <| jB <| jN <| jX <| jV (.inl rfl) rfl (jJ (v := .bool false) rfl) (List.nil_sublist _) ?_
  exact ⟨cB (dF (fun h_ => by obtain ⟨h_0, h_1, h_2⟩ := DD.same.1 h_; first | exact absurd (show d.l.map OX.t = e.l.map OX.t from h_0) (by assumption) | exact absurd (show d.jt = e.jt ∧ d.js = e.js from ⟨h_1, h_2⟩) (by assumption))).symm, rfl⟩

theorem C_markDisk (d : DX) (k : Nat) (h0 : 0 < k) (h1 : k + cntV cntO d.l ≤ 100000000) (hn : d.l.length ≤ 1000000000) :
    Ct Tryz.prog 16 [.agg #[.slice d.a d.l.length d.c, str d.jt, .int .i64 d.js], .int .i64 ((k : Nat) : Int)] [Res.rows (rdsD d)] (fun _ => True) (fun v A' => v = .int .i64 ((k + cntV cntO d.l : Nat) : Int) ∧ A' = [.rows (rdsOS d.a d.c (markV mkO cntO d.l k))]) := by
  refine Ct.intro Tryz.func16 rfl Tryz.ntmps16 (lb rfl) fun w0 hpre => ?_
  refine kT (L' := [Res.rows (rdsOS d.a d.c d.l)]) (fun w hw => hw.eqL rfl) <| jC <| jF ?_
  refine jH rfl (kG (cs := [.slice d.a d.l.length d.c, str d.jt, iv d.js]) rfl rfl) ?_
  rintro _ _ ⟨b_1, rfl, rfl⟩
  refine jA (jG (v := iv 0) rfl) <| jE <| jB <| jC <| jF <| jA (jQ fo31_0 rfl) <| jK (jZ 0 (v := .slice d.a d.l.length d.c) rfl rfl ks rfl) <| jA (jD (v := nv k) rfl) ?_
  refine jH rfl (jI [1] Tryz.call67 rfl (C_markSlotS d.a d.c d.l k (by omega) (by omega) (by omega)) rfl (fun _ _ => trivial)) ?_
  rintro _ _ ⟨_, ⟨rfl, rfl⟩, rfl⟩
  refine jA (jG (v := iv ((k + cntV cntO d.l : Nat) : Int)) rfl) <| jE <| jB <| jC <| jF <| jA (jD (v := iv ((k + cntV cntO d.l : Nat) : Int)) rfl) <| jA (jG (v := iv ((k + cntV cntO d.l : Nat) : Int)) rfl) <| jE <| jB <| jN ?_
  refine jV (.inl rfl) rfl (jJ (v := iv ((k + cntV cntO d.l : Nat) : Int)) rfl) (tS 1 _) ?_
  exact ⟨rfl, rfl⟩

theorem C_heldDisk (d : DX) (k : Nat) (h0 : 0 < k) (h1 : k + cntV cntO d.l ≤ 100000000) (hn : d.l.length ≤ 1000000000) :
    Ct Tryz.prog 17 [.agg #[.slice d.a d.l.length d.c, str d.jt, .int .i64 d.js], .int .i64 ((k : Nat) : Int)] [] (fun w => SeesA w (rdsOS d.a d.c (markV mkO cntO d.l k))) (fun v A' => v = .int .i64 ((k + cntV cntO d.l : Nat) : Int) ∧ A' = []) := by
  refine Ct.intro Tryz.func17 rfl Tryz.ntmps17 (lb rfl) fun w0 hpre => ?_
  refine jC <| jF ?_
  refine jH rfl (kG (cs := [.slice d.a d.l.length d.c, str d.jt, iv d.js]) rfl rfl) ?_
  rintro _ _ ⟨b_1, rfl, rfl⟩
  refine jA (jG (v := iv 0) rfl) <| jE <| jB <| jC <| jF <| jA (jQ fo31_0 rfl) <| jK (jZ 0 (v := .slice d.a d.l.length d.c) rfl rfl ks rfl) <| jA (jD (v := nv k) rfl) ?_
  refine jH rfl (jI [] Tryz.call68 rfl (C_heldSlotS d.a d.c d.l k (by omega) (by omega) (by omega)) rfl (fun w hw => hw.seeOutA hpre nMA)) ?_
  rintro _ _ ⟨_, ⟨rfl, rfl⟩, rfl⟩
  refine jA (jG (v := iv ((k + cntV cntO d.l : Nat) : Int)) rfl) <| jE <| jB <| jC <| jC <| jF <| jA (jD (v := iv ((k + cntV cntO d.l : Nat) : Int)) rfl) <| jA (jl rfl rfl) <| jE <| jB ?_
  by_cases h_2 : ((k + cntV cntO d.l : Nat) : Int) < 0
  · refine jW (cB (dT h_2)) <| jC <| jF <| jA (jG (v := iv (-1)) rfl) <| jE <| jB <| jN <| jX <| jV (.inl rfl) rfl (jJ (v := iv (-1)) rfl) (List.nil_sublist _) ?_
    exfalso
    omega
  refine jR (cB (dF h_2)) <| jT <| jB <| jC <| jF <| jA (jD (v := iv ((k + cntV cntO d.l : Nat) : Int)) rfl) <| jA (jG (v := iv ((k + cntV cntO d.l : Nat) : Int)) rfl) <| jE <| jB <| jN ?_
  refine jV (.inl rfl) rfl (jJ (v := iv ((k + cntV cntO d.l : Nat) : Int)) rfl) (List.nil_sublist _) ?_
  exact ⟨rfl, rfl⟩

end Go.Proofs.YtjncpgcccgdeiaaGreatDoor
